import PyProof.Rows.All
import Wide.All
import OpenK.AllK
import Wide.FinOn
import PySem.Challenge.RW_no0006_01
set_option Elab.async false
set_option linter.all false
set_option tactic.hygienic false
namespace Mine
open PySem PySem.W PyProof.Rows PySem.Calls
theorem turn_lt {n i : Nat} (h : i < n) : n + 1 - (i + 1) < n + 1 - i := Nat.sub_lt_sub_left (Nat.lt_succ_of_lt h) (Nat.lt_succ_self i)
theorem room_lt {a b c : Nat} (h : a + b < c) : a + (b - 1) < c := Nat.lt_of_le_of_lt (Nat.add_le_add_left (Nat.sub_le _ _) _) h
theorem room_lt1 {a b c : Nat} (hb : 0 < b) (h : a + b < c) : a + 1 + (b - 1) < c := by rw [Nat.add_assoc, Nat.add_comm 1, Nat.sub_add_cancel hb]; exact h
theorem pred_toNat (i : Nat) : ((i : Int) - 1).toNat = i - 1 := by lia
theorem four {k : Nat} (h : 1 ≤ k ∧ k ≤ 4) : k = 1 ∨ k = 2 ∨ k = 3 ∨ k = 4 := by lia
theorem sub_sub' {n k : Nat} (h : k ≤ n) : n - (n - k) = k := Nat.sub_sub_self h
/-- plain values: what the program's values are, tuples as trees, mutable things by their address -/
inductive Val where
  | none | bool (b : Bool) | int (i : Int) | str (x : Str) | tup (xs : List Val) | ref (a : Addr) | blt (id : String) | typ (n : String)
mutual
/-- v is d in the heap h, no tuple of it lying in B -/
noncomputable def RepV (B : List Addr) (h : Heap) : Val → Value → Prop
  | .none, v => v = .none
  | .bool b, v => v = .bool b
  | .int i, v => ∃ t, v = .int i t
  | .str x, v => ∃ t, v = .str x t
  | .tup xs, v => ∃ a vs, v = .ref a ∧ h.IsTuple a (List.toArray vs) ∧ a ∉ B ∧ RepVs B h xs vs
  | .ref a, v => v = .ref a
  | .blt id, v => v = .builtin id
  | .typ n, v => v = .type n
noncomputable def RepVs (B : List Addr) (h : Heap) : List Val → List Value → Prop
  | [], vs => vs = []
  | x :: xs, vs => ∃ v ws, vs = v :: ws ∧ RepV B h x v ∧ RepVs B h xs ws
end
theorem RepVs.nil {B : List Addr} {h : Heap} : RepVs B h [] [] := by simp [RepVs]
theorem RepVs.cons {B : List Addr} {h : Heap} {x xs v vs} (a : RepV B h x v) (b : RepVs B h xs vs) : RepVs B h (x :: xs) (v :: vs) := by
  simp only [RepVs]; exact ⟨v, vs, rfl, a, b⟩
theorem RepVs.length {B : List Addr} {h : Heap} : ∀ {xs : List Val} {vs : List Value}, RepVs B h xs vs → vs.length = xs.length
  | [], vs, x => by simp only [RepVs] at x; subst x; rfl
  | _ :: xs, vs, x => by
    simp only [RepVs] at x
    obtain ⟨v, ws, rfl, _, h2⟩ := x
    simp [h2.length]
theorem RepVs.append {B : List Addr} {h : Heap} : ∀ {xs ys : List Val} {vs ws : List Value}, RepVs B h xs vs → RepVs B h ys ws → RepVs B h (xs ++ ys) (vs ++ ws)
  | [], _, vs, _, a, b => by simp only [RepVs] at a; subst a; simpa using b
  | _ :: _, _, vs, _, a, b => by
    simp only [RepVs] at a
    obtain ⟨v, us, rfl, h1, h2⟩ := a
    exact RepVs.cons h1 (RepVs.append h2 b)
theorem RepVs.get {B : List Addr} {h : Heap} : ∀ {xs : List Val} {vs : List Value}, RepVs B h xs vs → ∀ {i : Nat} {x : Val}, xs[i]? = some x → ∃ v, vs[i]? = some v ∧ RepV B h x v
  | [], _, _, i, x, e => by simp at e
  | y :: ys, vs, a, i, x, e => by
    simp only [RepVs] at a
    obtain ⟨v, us, rfl, h1, h2⟩ := a
    cases i with
    | zero => simp at e; subst e; exact ⟨v, by simp, h1⟩
    | succ i => simp at e; obtain ⟨v', hv, hr⟩ := h2.get e; exact ⟨v', by simpa using hv, hr⟩
theorem RepVs.take {B : List Addr} {h : Heap} : ∀ {xs : List Val} {vs : List Value}, RepVs B h xs vs → ∀ n, RepVs B h (xs.take n) (vs.take n)
  | [], vs, a, n => by simp only [RepVs] at a; subst a; simp [RepVs]
  | y :: ys, vs, a, n => by
    simp only [RepVs] at a
    obtain ⟨v, us, rfl, h1, h2⟩ := a
    cases n with
    | zero => simp [RepVs]
    | succ n => exact RepVs.cons h1 (h2.take n)
theorem RepVs.drop {B : List Addr} {h : Heap} : ∀ {xs : List Val} {vs : List Value}, RepVs B h xs vs → ∀ n, RepVs B h (xs.drop n) (vs.drop n)
  | [], vs, a, n => by simp only [RepVs] at a; subst a; simp [RepVs]
  | y :: ys, vs, a, n => by
    cases n with
    | zero => exact a
    | succ n =>
      simp only [RepVs] at a
      obtain ⟨v, us, rfl, h1, h2⟩ := a
      exact h2.drop n
theorem RepVs.set {B : List Addr} {h : Heap} : ∀ {xs : List Val} {vs : List Value}, RepVs B h xs vs → ∀ {i : Nat} {x v}, RepV B h x v → RepVs B h (xs.set i x) (vs.set i v)
  | [], vs, a, i, x, v, r => by simp only [RepVs] at a; subst a; simp [RepVs]
  | y :: ys, vs, a, i, x, v, r => by
    simp only [RepVs] at a
    obtain ⟨v', us, rfl, h1, h2⟩ := a
    cases i with
    | zero => exact RepVs.cons r h2
    | succ i => exact RepVs.cons h1 (h2.set r)
/-- all tuples of h stand in h' -/
noncomputable def TupKeep (h h' : Heap) : Prop := ∀ a items, h.IsTuple a items → h'.IsTuple a items
theorem TupKeep.refl (h : Heap) : TupKeep h h := fun z9a z9b x => x
theorem TupKeep.trans {a b c : Heap} (x : TupKeep a b) (y : TupKeep b c) : TupKeep a c := fun z9a z9b z => y _ _ (x _ _ z)
theorem TupKeep.of_keeps {h h' : Heap} (k : ∀ b o, h.get? b = some o → h'.get? b = some o) : TupKeep h h' := fun _ _ ⟨o, ho, r⟩ => ⟨o, k _ _ ho, r⟩
mutual
theorem RepV.keep {B : List Addr} {h h' : Heap} (k : TupKeep h h') : ∀ {d : Val} {v : Value}, RepV B h d v → RepV B h' d v
  | .none, _, x => x
  | .bool _, _, x => x
  | .int _, _, x => x
  | .str _, _, x => x
  | .tup xs, _, x => by
    simp only [RepV] at x ⊢
    obtain ⟨a, vs, e, t, nb, r⟩ := x
    exact ⟨a, vs, e, k _ _ t, nb, RepVs.keep k r⟩
  | .ref _, _, x => x
  | .blt _, _, x => x
  | .typ _, _, x => x
theorem RepVs.keep {B : List Addr} {h h' : Heap} (k : TupKeep h h') : ∀ {ds : List Val} {vs : List Value}, RepVs B h ds vs → RepVs B h' ds vs
  | [], _, x => x
  | d :: ds, _, x => by
    simp only [RepVs] at x ⊢
    obtain ⟨v, ws, e, r, rs⟩ := x
    exact ⟨v, ws, e, RepV.keep k r, RepVs.keep k rs⟩
end
mutual
theorem RepV.away {B B' : List Addr} {h : Heap} (k : ∀ a ∈ B', a ∈ B ∨ h.get? a = none) : ∀ {d : Val} {v : Value}, RepV B h d v → RepV B' h d v
  | .none, _, x => x
  | .bool _, _, x => x
  | .int _, _, x => x
  | .str _, _, x => x
  | .tup xs, _, x => by
    simp only [RepV] at x ⊢
    obtain ⟨a, vs, e, t, nb, r⟩ := x
    refine ⟨a, vs, e, t, fun hb => ?_, RepVs.away k r⟩
    rcases k a hb with h1 | h1
    · exact nb h1
    · obtain ⟨o, ho, _⟩ := t; rw [h1] at ho; cases ho
  | .ref _, _, x => x
  | .blt _, _, x => x
  | .typ _, _, x => x
theorem RepVs.away {B B' : List Addr} {h : Heap} (k : ∀ a ∈ B', a ∈ B ∨ h.get? a = none) : ∀ {ds : List Val} {vs : List Value}, RepVs B h ds vs → RepVs B' h ds vs
  | [], _, x => x
  | d :: ds, _, x => by
    simp only [RepVs] at x ⊢
    obtain ⟨v, ws, e, r, rs⟩ := x
    exact ⟨v, ws, e, RepV.away k r, RepVs.away k rs⟩
end
/-- mutable things -/
inductive MObj where
  | list (xs : List Val) | idict (kvs : List (Int × Val)) | sdict (kvs : List (Str × Val)) | inst (C d : Addr) | iset (ks : List Nat)
noncomputable abbrev Store := Addr → Option MObj
noncomputable def Store.set (σ : Store) (a : Addr) (o : MObj) : Store := fun b => if b = a then some o else σ b
@[simp] theorem Store.set_same (σ : Store) (a : Addr) (o : MObj) : σ.set a o a = some o := by simp [Store.set]
theorem Store.set_other (σ : Store) {a b : Addr} (o : MObj) (h : b ≠ a) : σ.set a o b = σ b := by simp [Store.set, h]
theorem Store.set_set (σ : Store) (a : Addr) (o o' : MObj) : (σ.set a o).set a o' = σ.set a o' := by funext b; unfold Store.set; split <;> rfl
theorem Store.set_comm (σ : Store) {a b : Addr} (o o' : MObj) (h : a ≠ b) : (σ.set a o).set b o' = (σ.set b o').set a o := by
  funext c; unfold Store.set
  by_cases h1 : c = b
  · subst h1
    have h2 : ¬ c = a := fun e => h e.symm
    simp [h2]
  · by_cases h2 : c = a
    · subst h2; simp [h]
    · simp [h1, h2]
theorem Store.set_self (σ : Store) {a : Addr} {o : MObj} (h : σ a = some o) : σ.set a o = σ := by
  funext c; unfold Store.set; split
  · rename_i e; subst e; exact h.symm
  · rfl
inductive RepKV (B : List Addr) (h : Heap) {K : Type} : List (K × Val) → List (K × Value) → Prop
  | nil : RepKV B h [] []
  | cons {k d v ds vs} : RepV B h d v → RepKV B h ds vs → RepKV B h ((k, d) :: ds) ((k, v) :: vs)
theorem RepKV.keep {B : List Addr} {h h' : Heap} {K : Type} (k : TupKeep h h') {ds : List (K × Val)} {vs} (x : RepKV B h ds vs) : RepKV B h' ds vs := by
  induction x with
  | nil => exact .nil
  | cons a _ ih => exact .cons (a.keep k) ih
/-- a set of small ints, as it lies -/
noncomputable def setTab (w : World) (ks : List Nat) : SetTable := { mask := 7, place := ks.toArray, dummies := #[], finger := 0, led := !w.params.followText "set-order", moves := 0, plain := true }
noncomputable def setEs (ks : List Nat) (tk : Nat → Tok) : Array (Int × Value) := (ks.map fun (k : Nat) => ((k : Int), Value.int (k : Int) (tk k))).toArray
noncomputable def setObj (w : World) (ks : List Nat) (tk : Nat → Tok) (ep : Nat) : Obj := { cls := .type "set", dict := none, data := .set (setEs ks tk) ep (setTab w ks), slots := #[] }
noncomputable def RepO (prog : Program) (w : World) (B : List Addr) (h : Heap) (a : Addr) : MObj → Prop
  | .list xs => ∃ vs, h.PlainList a (List.toArray vs) ∧ RepVs B h xs vs
  | .idict kvs => ∃ ws, h.DictOf (intKind prog w) a ws ∧ RepKV B h kvs ws
  | .sdict kvs => ∃ ws, h.DictOf (strKind prog w) a ws ∧ RepKV B h kvs ws
  | .inst C d => ∃ sl, h.get? a = some ⟨.ref C, some d, .plain, sl⟩
  | .iset ks => ∃ tk ep, h.get? a = some (setObj w ks tk ep)
theorem RepO.there {prog w B h a} {o : MObj} (x : RepO prog w B h a o) : ∃ ob, h.get? a = some ob ∧ (∀ vs, ob.data ≠ .fields vs) ∧ (∀ v, ob.data ≠ .cell v) ∧ ob.cls ≠ .type "tuple" := by
  cases o with
  | list xs => obtain ⟨vs, ⟨n, ho⟩, _⟩ := x; exact ⟨_, ho, (by intro _ e; cases e), (by intro _ e; cases e), (by show Value.type "list" ≠ Value.type "tuple"; decide)⟩
  | idict kvs => obtain ⟨ws, ⟨o, es, ep, ho, hc, hd, _⟩, _⟩ := x; exact ⟨o, ho, (by rw [hd]; intro _ e; cases e), (by rw [hd]; intro _ e; cases e), (by rw [hc.1]; decide)⟩
  | sdict kvs => obtain ⟨ws, ⟨o, es, ep, ho, hc, hd, _⟩, _⟩ := x; exact ⟨o, ho, (by rw [hd]; intro _ e; cases e), (by rw [hd]; intro _ e; cases e), (by rw [hc.1]; decide)⟩
  | inst C d => obtain ⟨sl, ho⟩ := x; exact ⟨_, ho, (by intro _ e; cases e), (by intro _ e; cases e), (by intro e; cases e)⟩
  | iset ks => obtain ⟨tk, ep, ho⟩ := x; exact ⟨_, ho, (by intro _ e; cases e), (by intro _ e; cases e), (by show Value.type "set" ≠ Value.type "tuple"; decide)⟩
theorem RepO.lt {prog w B h a} {o : MObj} (x : RepO prog w B h a o) : a < h.objs.size := let ⟨_, ho, _⟩ := x.there; Heap.lt_size ho
theorem RepO.notTuple {prog w B h a items} {o : MObj} (x : RepO prog w B h a o) (t : h.IsTuple a items) : False := by
  obtain ⟨ob, ho, _, _, hc⟩ := x.there
  obtain ⟨o', ho', hc', _⟩ := t
  rw [ho] at ho'; cases ho'; exact hc hc'
/-- what is at a stays, and the tuples stay -/
theorem RepO.keep {prog w B h h' a} (k : TupKeep h h') (ka : ∀ o, h.get? a = some o → h'.get? a = some o) {o : MObj} (x : RepO prog w B h a o) : RepO prog w B h' a o := by
  cases o with
  | list xs => obtain ⟨vs, ⟨n, ho⟩, rs⟩ := x; exact ⟨vs, ⟨n, ka _ ho⟩, rs.keep k⟩
  | idict kvs => obtain ⟨ws, ⟨o, es, ep, ho, r⟩, rs⟩ := x; exact ⟨ws, ⟨o, es, ep, ka _ ho, r⟩, rs.keep k⟩
  | sdict kvs => obtain ⟨ws, ⟨o, es, ep, ho, r⟩, rs⟩ := x; exact ⟨ws, ⟨o, es, ep, ka _ ho, r⟩, rs.keep k⟩
  | inst C d => obtain ⟨sl, ho⟩ := x; exact ⟨sl, ka _ ho⟩
  | iset ks => obtain ⟨tk, ep, ho⟩ := x; exact ⟨tk, ep, ka _ ho⟩
/-- a heap with some places wiped -/
noncomputable def wipe (h : Heap) (P : Addr → Prop) : Heap :=
  open Classical in { h with objs := h.objs.mapIdx fun i o => if P i then { cls := .none, data := .freed } else o }
theorem wipe_get {h : Heap} {P : Addr → Prop} {b : Addr} {o : Obj} : (wipe h P).get? b = some o ↔ ¬ P b ∧ h.get? b = some o := by
  classical
  rw [Heap.get?_some_iff, Heap.get?_some_iff]
  unfold wipe
  simp only [Array.getElem?_mapIdx]
  by_cases hp : P b
  · constructor
    · rintro ⟨h1, h2⟩
      exfalso
      cases hx : h.objs[b]? with
      | none => rw [hx] at h1; cases h1
      | some x => rw [hx] at h1; simp only [Option.map_some, if_pos hp, Option.some.injEq] at h1; subst h1; cases h2
    · rintro ⟨h1, _⟩; exact absurd hp h1
  · simp only [hp, if_false, not_false_iff, true_and, Option.map_id', id]
theorem still {x a : Addr} {h h' : Heap} (hs : Heap.SameBut x h h') (hx : ∃ o, h'.get? x = some o) (ha : (h.get? a).isSome = true) : (h'.get? a).isSome = true := by
  by_cases e : a = x
  · subst e; obtain ⟨o, ho⟩ := hx; rw [ho]; rfl
  · rw [hs.2 a e]; exact ha
/-- what stays the same through a function's run -/
structure Cx where
  prog : Program
  w : World
  A : Around
  env : Env
  h₁ : Heap
  os : OsState
  frs : List (Addr × Obj)
  room : Nat
  quiet : Bool
  /-- tuples that are written anew (a zip's own): no value that is told of is one of them -/
  bad : List Addr
  /-- the written part of the top -/
  K : Frag
structure Cx.Ok (C : Cx) : Prop where
  depth : C.A.depth + C.room < recursionLimit
  units : C.A.units + 20 * C.room + 20 < cLine
  calm : C.quiet = true → C.A.handled = none
  kind : C.env.scope.kind = .function
  globals : C.env.globals = mainGlobals
  builtins : C.env.builtins = builtinsNs
  kin : C.K.In C.h₁
  hasf : ∃ l, C.A.frames = some l
  nolimit : C.h₁.NoLimit
  apart : C.env.cells.Pairwise fun x y => x.2 ≠ y.2
  stack : ∀ l, C.A.frames = some l → ∀ e ∈ l, e.scope.kind ≠ .module ∧ ∃ L, e.frame = some L ∧ (L = C.env.locals ∨ ∃ o, (L, o) ∈ C.frs)
noncomputable abbrev Vars := Str → Option Val
noncomputable def Vars.set (ρ : Vars) (x : Str) (v : Val) : Vars := fun y => if y = x then some v else ρ y
structure St (C : Cx) (base : Heap) (ρ : Vars) (σ : Store) (s : Shared) : Prop where
  ok : C.Ok
  gens : s.gens = #[]
  os : s.os = C.os
  b1 : C.h₁.StaysIn base
  b2 : base.StaysIn s.heap
  ns : ∃ m, s.heap.Ns C.env.locals m ∧ ∀ x v, ρ x = some v → C.env.kindOf x = some .local → ∃ u, m x = some u ∧ RepV C.bad s.heap v u
  cells : ∀ x c, C.env.cells.lookup x = some c → ∃ u, s.heap.IsCell c u ∧ ∀ v, ρ x = some v → (C.env.kindOf x = some .cell ∨ C.env.kindOf x = some .free) → ∃ u', u = some u' ∧ RepV C.bad s.heap v u'
  allcells : ∀ x, (C.env.kindOf x = some .cell ∨ C.env.kindOf x = some .free) → (C.env.cells.lookup x).isSome = true
  bad : ∀ a ∈ C.bad, C.h₁.get? a = none ∧ ∃ items, s.heap.IsTuple a items
  own : base.get? C.env.locals = none
  ownc : ∀ x c, C.env.cells.lookup x = some c → C.env.kindOf x = some .cell → base.get? c = none
  frs : ∀ p ∈ C.frs, (∃ sl, s.heap.get? p.1 = some { p.2 with slots := sl }) ∧ base.get? p.1 = none ∧ (∃ es ep, p.2.data = .dict es ep) ∧ p.1 ≠ C.env.locals
  store : ∀ a o, σ a = some o → RepO C.prog C.w C.bad s.heap a o ∧ base.get? a = none ∧ a ≠ C.env.locals ∧ ∀ p ∈ C.frs, p.1 ≠ a
/-- the places that a step may change -/
noncomputable def Cx.Loose (C : Cx) (σ : Store) (b : Addr) : Prop :=
  (∃ o, σ b = some o) ∨ b = C.env.locals ∨ (∃ p ∈ C.frs, p.1 = b) ∨ (∃ x, C.env.cells.lookup x = some b ∧ C.env.kindOf x = some .cell)
theorem St.loose {C base ρ σ s} (H : St C base ρ σ s) {b : Addr} (x : C.Loose σ b) : base.get? b = none := by
  rcases x with ⟨o, h⟩ | rfl | ⟨p, hp, rfl⟩ | ⟨x, h1, h2⟩
  · exact (H.store _ _ h).2.1
  · exact H.own
  · exact (H.frs p hp).2.1
  · exact H.ownc _ _ h1 h2
theorem IsCell.notTuple {h : Heap} {c : Addr} {u items} (x : h.IsCell c u) (t : h.IsTuple c items) : False := by
  obtain ⟨o, ho, hd⟩ := x
  obtain ⟨o', ho', _, n, hd'⟩ := t
  rw [ho] at ho'; cases ho'; rw [hd] at hd'; cases hd'
theorem Ns.notTuple {h : Heap} {c : Addr} {m items} (x : h.Ns c m) (t : h.IsTuple c items) : False := by
  obtain ⟨o, es, ep, ho, hd, _⟩ := x
  obtain ⟨o', ho', _, n, hd'⟩ := t
  rw [ho] at ho'; cases ho'; rw [hd] at hd'; cases hd'
theorem St.notTuple {C base ρ σ s} (H : St C base ρ σ s) {b : Addr} {items} (x : C.Loose σ b) (t : s.heap.IsTuple b items) : False := by
  rcases x with ⟨o, h⟩ | rfl | ⟨p, hp, rfl⟩ | ⟨x, h1, h2⟩
  · exact (H.store _ _ h).1.notTuple t
  · obtain ⟨m, hn, _⟩ := H.ns; exact Ns.notTuple hn t
  · obtain ⟨⟨sl, hs⟩, _, ⟨es, ep, hd⟩, _⟩ := H.frs p hp
    obtain ⟨o', ho', _, n, hd'⟩ := t
    rw [hs] at ho'; cases ho'; simp only [] at hd'; rw [hd] at hd'; cases hd'
  · obtain ⟨u, hc, _⟩ := H.cells _ _ h1; exact IsCell.notTuple hc t
/-- the base widened to all that a step must leave alone -/
theorem St.rebase {C base ρ σ s} (H : St C base ρ σ s) : St C (wipe s.heap (C.Loose σ)) ρ σ s where
  ok := H.ok
  gens := H.gens
  os := H.os
  b1 := fun b o e => wipe_get.mpr ⟨(fun x => by have := H.b1 b o e; rw [H.loose x] at this; cases this), H.b2 b o (H.b1 b o e)⟩
  b2 := fun b o e => (wipe_get.mp e).2
  ns := H.ns
  cells := H.cells
  allcells := H.allcells
  bad := H.bad
  own := by
    cases h : (wipe s.heap (C.Loose σ)).get? C.env.locals with
    | none => rfl
    | some o => exact absurd (.inr (.inl rfl)) (wipe_get.mp h).1
  ownc := fun x c h1 h2 => by
    cases h : (wipe s.heap (C.Loose σ)).get? c with
    | none => rfl
    | some o => exact absurd (.inr (.inr (.inr ⟨x, h1, h2⟩))) (wipe_get.mp h).1
  frs := fun p hp => ⟨(H.frs p hp).1, by
    cases h : (wipe s.heap (C.Loose σ)).get? p.1 with
    | none => rfl
    | some o => exact absurd (.inr (.inr (.inl ⟨p, hp, rfl⟩))) (wipe_get.mp h).1, (H.frs p hp).2.2⟩
  store := fun a o e => ⟨(H.store a o e).1, by
    cases h : (wipe s.heap (C.Loose σ)).get? a with
    | none => rfl
    | some o' => exact absurd (.inl ⟨o, e⟩) (wipe_get.mp h).1, (H.store a o e).2.2⟩
theorem St.narrow {C B base ρ σ s} (H : St C B ρ σ s) (h1 : C.h₁.StaysIn base) (hB : base.StaysIn B) : St C base ρ σ s := by
  have no : ∀ b, B.get? b = none → base.get? b = none := fun b hb => by
    cases h : base.get? b with
    | none => rfl
    | some o => rw [hB b o h] at hb; cases hb
  exact ⟨H.ok, H.gens, H.os, h1, fun b o e => H.b2 b o (hB b o e), H.ns, H.cells, H.allcells, H.bad, no _ H.own, fun x c a b => no _ (H.ownc x c a b),
    fun p hp => ⟨(H.frs p hp).1, no _ (H.frs p hp).2.1, (H.frs p hp).2.2⟩, fun a o e => ⟨(H.store a o e).1, no _ (H.store a o e).2.1, (H.store a o e).2.2⟩⟩
theorem St.base_in {C base ρ σ s} (H : St C base ρ σ s) : base.StaysIn (wipe s.heap (C.Loose σ)) :=
  fun b o e => wipe_get.mpr ⟨(fun x => by rw [H.loose x] at e; cases e), H.b2 b o e⟩
/-- the tuples stand in the widened base -/
theorem St.tuples {C base ρ σ s} (H : St C base ρ σ s) : TupKeep s.heap (wipe s.heap (C.Loose σ)) :=
  fun z9a z9b t => let ⟨o, ho, r⟩ := t; ⟨o, wipe_get.mpr ⟨fun x => H.notTuple x t, ho⟩, r⟩
/-- what a run of a step leaves alone -/
structure Pers (C : Cx) (σ : Store) (s s' : Shared) : Prop where
  tup : TupKeep s.heap s'.heap
  keep : ∀ b o, s.heap.get? b = some o → ¬ C.Loose σ b → s'.heap.get? b = some o
theorem Pers.rep {C σ s s'} (P : Pers C σ s s') {d v} (r : RepV C.bad s.heap d v) : RepV C.bad s'.heap d v := r.keep P.tup
theorem Pers.reps {C σ s s'} (P : Pers C σ s s') {d v} (r : RepVs C.bad s.heap d v) : RepVs C.bad s'.heap d v := r.keep P.tup
/-- an exception of class c in flight in the frame L: an object that the base does not hold -/
noncomputable def Exn (base : Heap) (L : Addr) (e : Value) (c : Addr) (h : Heap) : Prop :=
  ∃ a a0, e = .ref a ∧ base.get? a = none ∧ ((∃ oe vs, h.get? a = some oe ∧ oe.cls = .ref c ∧ oe.data = .fields vs ∧ vs[0]? = some a0 ∧ vs[1]? = some .none) ∨
    ∃ fl, (fl = .none ∨ fl = rawInt L) ∧ h.TracedAtW base a (.ref c) a0 fl)
theorem Exn.narrow {B base L e c h} (x : Exn B L e c h) (hB : base.StaysIn B) : Exn base L e c h := by
  have no : ∀ b, B.get? b = none → base.get? b = none := fun b hb => by
    cases h : base.get? b with
    | none => rfl
    | some o => rw [hB b o h] at hb; cases hb
  obtain ⟨a, a0, h1, h2, h3⟩ := x
  refine ⟨a, a0, h1, no _ h2, ?_⟩
  rcases h3 with h3 | ⟨fl, hf, oe, vs, T, oT, ts, k1, k2, k3, k4, k5, k6⟩
  · exact .inl h3
  · exact .inr ⟨fl, hf, oe, vs, T, oT, ts, k1, k2, k3, k4, no _ k5, k6⟩
noncomputable abbrev XPost := Addr → Vars → Store → Prop
noncomputable def noX : XPost := fun z9a z9b z9c => False
/-- the triple: from any state that C, ρ, σ tell, t ends in Q or raises into X -/
noncomputable def Tp (C : Cx) (ρ : Vars) (σ : Store) {α : Type} (t : Sem α) (Q : α → Heap → Vars → Store → Prop) (X : XPost) : Prop :=
  ∀ base s, St C base ρ σ s → wpAny (model C.prog C.w) C.A t (fun a s' => ∃ ρ' σ', St C base ρ' σ' s' ∧ Q a s'.heap ρ' σ') (fun e s' => ∃ c ρ' σ', Exn base C.env.locals e c s'.heap ∧ St C base ρ' σ' s' ∧ X c ρ' σ') s
theorem Tp.run {C ρ σ base s} {α : Type} {t : Sem α} {Q : α → Heap → Vars → Store → Prop} {X : XPost} {Q' : α → Shared → Prop} {E' : Value → Shared → Prop}
    (h : Tp C ρ σ t Q X) (H : St C base ρ σ s)
    (hQ : ∀ a ρ' σ' s', St C base ρ' σ' s' → Pers C σ s s' → Q a s'.heap ρ' σ' → Q' a s')
    (hX : ∀ e c ρ' σ' s', Exn base C.env.locals e c s'.heap → St C base ρ' σ' s' → Pers C σ s s' → X c ρ' σ' → E' e s') :
    wpAny (model C.prog C.w) C.A t Q' E' s := by
  have pers : ∀ {ρ' σ' s'}, St C (wipe s.heap (C.Loose σ)) ρ' σ' s' → Pers C σ s s' := fun H' =>
    ⟨fun a items t => (TupKeep.of_keeps H'.b2) a items (H.tuples a items t), fun b o e hn => H'.b2 b o (wipe_get.mpr ⟨hn, e⟩)⟩
  refine wpAny_mono (h _ s H.rebase) ?_ ?_
  · rintro a s' ⟨ρ', σ', H', q⟩
    exact hQ a ρ' σ' s' (H'.narrow H.b1 H.base_in) (pers H') q
  · rintro e s' ⟨c, ρ', σ', x, H', q⟩
    exact hX e c ρ' σ' s' (x.narrow H.base_in) (H'.narrow H.b1 H.base_in) (pers H') q
theorem Tp.mono {C ρ σ} {α : Type} {t : Sem α} {Q Q' : α → Heap → Vars → Store → Prop} {X X' : XPost} (h : Tp C ρ σ t Q X) (hQ : ∀ a h' ρ' σ', Q a h' ρ' σ' → Q' a h' ρ' σ') (hX : ∀ c ρ' σ', X c ρ' σ' → X' c ρ' σ') : Tp C ρ σ t Q' X' :=
  fun base s H => wpAny_mono (h base s H) (fun _ _ ⟨ρ', σ', a, b⟩ => ⟨ρ', σ', a, hQ _ _ _ _ b⟩) (fun _ _ ⟨c, ρ', σ', a, b, d⟩ => ⟨c, ρ', σ', a, b, hX _ _ _ d⟩)
/-- an expression: it ends in a value -/
noncomputable def Ev (C : Cx) (ρ : Vars) (σ : Store) (e : Expr) (Q : Val → Store → Prop) (X : XPost) : Prop :=
  Tp C ρ σ (eval e C.env) (fun v h ρ' σ' => ρ' = ρ ∧ ∃ d, RepV C.bad h d v ∧ Q d σ') X
inductive Out where | next | brk | cont | ret (v : Val)
noncomputable def RepF (B : List Addr) (h : Heap) : Out → Flow → Prop
  | .next, f => f = .next
  | .brk, f => f = .brk
  | .cont, f => f = .cont
  | .ret d, f => ∃ v, f = .ret v ∧ RepV B h d v
/-- statements -/
noncomputable def Ex (C : Cx) (ρ : Vars) (σ : Store) (b : List Stmt) (Q : Out → Vars → Store → Prop) (X : XPost) : Prop :=
  Tp C ρ σ (execs b C.env) (fun f h ρ' σ' => ∃ o, RepF C.bad h o f ∧ Q o ρ' σ') X
noncomputable def Ex1 (C : Cx) (ρ : Vars) (σ : Store) (b : Stmt) (Q : Out → Vars → Store → Prop) (X : XPost) : Prop :=
  Tp C ρ σ (exec b C.env) (fun f h ρ' σ' => ∃ o, RepF C.bad h o f ∧ Q o ρ' σ') X
section
variable {C : Cx} {base : Heap} {ρ : Vars} {σ : Store} {s : Shared}
theorem St.toks (H : St C base ρ σ s) (t : Nat) : St C base ρ σ { s with toks := t } :=
  ⟨H.ok, H.gens, H.os, H.b1, H.b2, H.ns, H.cells, H.allcells, H.bad, H.own, H.ownc, H.frs, H.store⟩
theorem St.grow (H : St C base ρ σ s) {h' : Heap} (k : ∀ b o, s.heap.get? b = some o → h'.get? b = some o) {t : Nat} : St C base ρ σ { s with heap := h', toks := t } where
  ok := H.ok
  gens := H.gens
  os := H.os
  b1 := H.b1
  b2 := fun b o e => k _ _ (H.b2 b o e)
  ns := let ⟨m, hn, r⟩ := H.ns; ⟨m, hn.keeps k, fun x v e l => let ⟨u, h1, h2⟩ := r x v e l; ⟨u, h1, h2.keep (.of_keeps k)⟩⟩
  cells := fun x c e => let ⟨u, h1, h2⟩ := H.cells x c e; ⟨u, h1.keeps k, fun v hv hk => let ⟨u', e1, r⟩ := h2 v hv hk; ⟨u', e1, r.keep (.of_keeps k)⟩⟩
  allcells := H.allcells
  bad := fun a ha => ⟨(H.bad a ha).1, let ⟨items, x⟩ := (H.bad a ha).2; ⟨items, TupKeep.of_keeps k _ _ x⟩⟩
  own := H.own
  ownc := H.ownc
  frs := fun p hp => let ⟨⟨sl, h1⟩, h2⟩ := H.frs p hp; ⟨⟨sl, k _ _ h1⟩, h2⟩
  store := fun a o e => let ⟨h1, h2⟩ := H.store a o e; ⟨h1.keep (.of_keeps k) (k _), h2⟩
theorem St.push (H : St C base ρ σ s) (o : Obj) {t : Nat} : St C base ρ σ { s with heap := s.heap.push o, toks := t } := H.grow fun z9a z9b e => Heap.get?_push_of_some _ e
theorem St.fresh (H : St C base ρ σ s) : σ s.heap.objs.size = none := by
  cases h : σ s.heap.objs.size with
  | none => rfl
  | some o => exact absurd (H.store _ _ h).1.lt (Nat.lt_irrefl _)
theorem St.newAddr (H : St C base ρ σ s) {a : Addr} (ha : s.heap.get? a = none) : base.get? a = none ∧ a ≠ C.env.locals ∧ ∀ p ∈ C.frs, p.1 ≠ a := by
  refine ⟨?_, ?_, ?_⟩
  · cases h : base.get? a with
    | none => rfl
    | some o => rw [H.b2 _ _ h] at ha; cases ha
  · rintro rfl
    obtain ⟨m, ⟨o, _, _, ho, _⟩, _⟩ := H.ns
    rw [ho] at ha; cases ha
  · rintro p hp rfl
    obtain ⟨⟨sl, h1⟩, _⟩ := H.frs p hp
    rw [h1] at ha; cases ha
theorem St.notBad (H : St C base ρ σ s) {a : Addr} (ha : s.heap.get? a = none) : a ∉ C.bad := fun h => by
  obtain ⟨items, o, ho, _⟩ := (H.bad a h).2
  rw [ha] at ho; cases ho
theorem St.ofTop (H : St C base ρ σ s) {d : Val} {v : Value} (r : RepV [] C.h₁ d v) : RepV C.bad s.heap d v :=
  (r.away (B' := C.bad) fun a ha => .inr (H.bad a ha).1).keep (.of_keeps fun b o e => H.b2 b o (H.b1 b o e))
/-- a new mutable thing is told of -/
theorem St.track (H : St C base ρ σ s) {a : Addr} {o : MObj} (ha : σ a = none) (r : RepO C.prog C.w C.bad s.heap a o) (hb : base.get? a = none ∧ a ≠ C.env.locals ∧ ∀ p ∈ C.frs, p.1 ≠ a) : St C base ρ (σ.set a o) s :=
  ⟨H.ok, H.gens, H.os, H.b1, H.b2, H.ns, H.cells, H.allcells, H.bad, H.own, H.ownc, H.frs, fun b ob e => by
    unfold Store.set at e
    split at e
    · rename_i q; subst q; cases e; exact ⟨r, hb⟩
    · exact H.store b ob e⟩
/-- what is not needed is forgotten -/
theorem St.forget (H : St C base ρ σ s) {σ' : Store} (h : ∀ a o, σ' a = some o → σ a = some o) : St C base ρ σ' s :=
  ⟨H.ok, H.gens, H.os, H.b1, H.b2, H.ns, H.cells, H.allcells, H.bad, H.own, H.ownc, H.frs, fun b ob e => H.store b ob (h b ob e)⟩
/-- one tracked thing changes -/
theorem St.upd (H : St C base ρ σ s) {a : Addr} {o o' : MObj} {h' : Heap} {t : Nat} (ha : σ a = some o) (hs : Heap.SameBut a s.heap h') (r : TupKeep s.heap h' → RepO C.prog C.w C.bad h' a o') :
    St C base ρ (σ.set a o') { s with heap := h', toks := t } ∧ TupKeep s.heap h' := by
  obtain ⟨r0, b0, l0, f0⟩ := H.store a o ha
  have tk : TupKeep s.heap h' := fun b items t => by
    have hb : b ≠ a := fun e => by subst e; exact r0.notTuple t
    obtain ⟨ob, ho, x⟩ := t
    exact ⟨ob, (hs.2 b hb).trans ho, x⟩
  refine ⟨?_, tk⟩
  have ck : ∀ c u, s.heap.IsCell c u → h'.IsCell c u := fun c u x => by
    obtain ⟨ob, ho, hd⟩ := x
    obtain ⟨oa, hoa, _, hnc, _⟩ := r0.there
    have hb : c ≠ a := fun e => by subst e; rw [ho] at hoa; cases hoa; exact hnc _ hd
    exact ⟨ob, (hs.2 c hb).trans ho, hd⟩
  refine ⟨H.ok, H.gens, H.os, H.b1, fun b ob e => (hs.2 b fun q => by subst q; rw [b0] at e; cases e).trans (H.b2 b ob e), ?_, ?_, H.allcells, fun a ha => ⟨(H.bad a ha).1, let ⟨items, x⟩ := (H.bad a ha).2; ⟨items, tk _ _ x⟩⟩, H.own, H.ownc, ?_, ?_⟩
  · obtain ⟨m, hn, x⟩ := H.ns
    exact ⟨m, hn.sameBut hs (Ne.symm l0), fun x' v e l => let ⟨u, h1, h2⟩ := x x' v e l; ⟨u, h1, h2.keep tk⟩⟩
  · intro x c e
    obtain ⟨u, h1, h2⟩ := H.cells x c e
    exact ⟨u, ck _ _ h1, fun v hv hk => let ⟨u', e1, r⟩ := h2 v hv hk; ⟨u', e1, r.keep tk⟩⟩
  · intro p hp
    obtain ⟨⟨sl, h1⟩, h2⟩ := H.frs p hp
    exact ⟨⟨sl, (hs.2 _ (f0 p hp)).trans h1⟩, h2⟩
  · intro b ob e
    unfold Store.set at e
    split at e
    · rename_i q; subst q; cases e; exact ⟨r tk, b0, l0, f0⟩
    · rename_i q
      obtain ⟨h1, h2⟩ := H.store b ob e
      exact ⟨h1.keep tk fun o ho => (hs.2 b q).trans ho, h2⟩
theorem St.setLocal (H : St C base ρ σ s) {x : Str} {d : Val} {v : Value} {h' : Heap} {t : Nat} (r : RepV C.bad s.heap d v)
    (hs : Heap.SameBut C.env.locals s.heap h') (hn : ∀ m, s.heap.Ns C.env.locals m → h'.Ns C.env.locals (fun y => if y = x then some v else m y)) (hx : C.env.kindOf x = some .local) :
    St C base (ρ.set x d) σ { s with heap := h', toks := t } := by
  have tk : TupKeep s.heap h' := fun b items t => by
    have hb : b ≠ C.env.locals := fun e => by subst e; obtain ⟨m, hn, _⟩ := H.ns; exact Ns.notTuple hn t
    obtain ⟨ob, ho, x⟩ := t
    exact ⟨ob, (hs.2 b hb).trans ho, x⟩
  refine ⟨H.ok, H.gens, H.os, H.b1, fun b ob e => (hs.2 b fun q => by subst q; rw [H.own] at e; cases e).trans (H.b2 b ob e), ?_, ?_, H.allcells, fun a ha => ⟨(H.bad a ha).1, let ⟨items, x⟩ := (H.bad a ha).2; ⟨items, tk _ _ x⟩⟩, H.own, H.ownc, ?_, ?_⟩
  · obtain ⟨m, hm, y⟩ := H.ns
    refine ⟨_, hn m hm, fun z u e l => ?_⟩
    unfold Vars.set at e
    by_cases q : z = x
    · subst q; rw [if_pos rfl] at e; cases e; exact ⟨v, by simp, r.keep tk⟩
    · rw [if_neg q] at e; obtain ⟨u', h1, h2⟩ := y z u e l; exact ⟨u', by simp [q, h1], h2.keep tk⟩
  · intro z c e
    obtain ⟨u, h1, h2⟩ := H.cells z c e
    obtain ⟨m, ⟨oL, es, ep, hoL, hdL, _⟩, _⟩ := H.ns
    have hc : c ≠ C.env.locals := fun q => by subst q; obtain ⟨o, ho, hd⟩ := h1; rw [ho] at hoL; cases hoL; rw [hd] at hdL; cases hdL
    refine ⟨u, h1.sameBut hs hc, fun v' hv hk => ?_⟩
    unfold Vars.set at hv
    have q : z ≠ x := fun q => by subst q; rw [hx] at hk; rcases hk with hk | hk <;> cases hk
    rw [if_neg q] at hv
    obtain ⟨u', e1, r'⟩ := h2 v' hv hk
    exact ⟨u', e1, r'.keep tk⟩
  · intro p hp
    obtain ⟨⟨sl, h1⟩, h2⟩ := H.frs p hp
    exact ⟨⟨sl, (hs.2 _ h2.2.2).trans h1⟩, h2⟩
  · intro b ob e
    obtain ⟨h1, h2⟩ := H.store b ob e
    exact ⟨h1.keep tk fun o ho => (hs.2 b h2.2.1).trans ho, h2⟩
theorem St.setCell (H : St C base ρ σ s) {x : Str} {c : Addr} {d : Val} {v : Value} {h' : Heap} {t : Nat} (r : RepV C.bad s.heap d v)
    (hc : C.env.cells.lookup x = some c) (hs : Heap.SameBut c s.heap h') (hn : h'.IsCell c (some v)) (hx : C.env.kindOf x = some .cell) :
    St C base (ρ.set x d) σ { s with heap := h', toks := t } := by
  obtain ⟨u₀, hu₀, _⟩ := H.cells x c hc
  have tk : TupKeep s.heap h' := fun b items t => by
    have hb : b ≠ c := fun e => by subst e; exact IsCell.notTuple hu₀ t
    obtain ⟨ob, ho, x⟩ := t
    exact ⟨ob, (hs.2 b hb).trans ho, x⟩
  obtain ⟨oc, hoc, hdc⟩ := id hu₀
  refine ⟨H.ok, H.gens, H.os, H.b1, fun b ob e => (hs.2 b fun q => by subst q; rw [H.ownc _ _ hc hx] at e; cases e).trans (H.b2 b ob e), ?_, ?_, H.allcells, fun a ha => ⟨(H.bad a ha).1, let ⟨items, x⟩ := (H.bad a ha).2; ⟨items, tk _ _ x⟩⟩, H.own, H.ownc, ?_, ?_⟩
  · obtain ⟨m, hm, y⟩ := H.ns
    have hL : C.env.locals ≠ c := fun q => by
      obtain ⟨oL, es, ep, hoL, hdL, _⟩ := hm
      rw [q] at hoL; rw [hoc] at hoL; cases hoL; rw [hdc] at hdL; cases hdL
    refine ⟨m, hm.sameBut hs hL, fun z u e l => ?_⟩
    unfold Vars.set at e
    have q : z ≠ x := fun q => by subst q; rw [hx] at l; cases l
    rw [if_neg q] at e
    obtain ⟨u', h1, h2⟩ := y z u e l; exact ⟨u', h1, h2.keep tk⟩
  · intro z c' e
    by_cases q : c' = c
    · subst q
      have hz : z = x := name_of_addr H.ok.apart (mem_of_lookup e) (mem_of_lookup hc)
      subst hz
      exact ⟨some v, hn, fun v' hv hk => by unfold Vars.set at hv; rw [if_pos rfl] at hv; cases hv; exact ⟨v, rfl, r.keep tk⟩⟩
    · obtain ⟨u, h1, h2⟩ := H.cells z c' e
      refine ⟨u, h1.sameBut hs q, fun v' hv hk => ?_⟩
      unfold Vars.set at hv
      have hz : z ≠ x := fun w => by subst w; rw [hc] at e; cases e; exact q rfl
      rw [if_neg hz] at hv
      obtain ⟨u', e1, r'⟩ := h2 v' hv hk
      exact ⟨u', e1, r'.keep tk⟩
  · intro p hp
    obtain ⟨⟨sl, h1⟩, h2⟩ := H.frs p hp
    have hb : p.1 ≠ c := fun q => by
      obtain ⟨es, ep, hd⟩ := h2.2.1
      rw [q, hoc] at h1
      have h3 := congrArg Obj.data (Option.some.inj h1)
      rw [hdc] at h3
      have h4 : Data.cell u₀ = p.2.data := h3
      rw [hd] at h4; cases h4
    exact ⟨⟨sl, (hs.2 _ hb).trans h1⟩, h2⟩
  · intro b ob e
    obtain ⟨h1, h2⟩ := H.store b ob e
    have hb : b ≠ c := fun q => by
      obtain ⟨o', ho', _, hn', _⟩ := h1.there
      rw [q, hoc] at ho'; cases ho'; exact hn' _ hdc
    exact ⟨h1.keep tk fun o ho => (hs.2 b hb).trans ho, h2⟩
end
end Mine
set_option tactic.hygienic false
namespace Mine
open PySem PySem.W PyProof.Rows PySem.Calls
noncomputable def Vp (C : Cx) (base : Heap) (ρ : Vars) (Q : Val → Store → Prop) : Value → Shared → Prop := fun v s' => ∃ d σ', St C base ρ σ' s' ∧ RepV C.bad s'.heap d v ∧ Q d σ'
noncomputable def Xp (C : Cx) (base : Heap) (X : XPost) : Value → Shared → Prop := fun e s' => ∃ c ρ' σ', Exn base C.env.locals e c s'.heap ∧ St C base ρ' σ' s' ∧ X c ρ' σ'
noncomputable abbrev Cx.M (C : Cx) : Model := model C.prog C.w
section
variable {C : Cx} {base : Heap} {ρ : Vars} {σ : Store} {s : Shared} {Q : Val → Store → Prop} {X : XPost}
theorem Ev.intro {e : Expr} (h : ∀ base s, St C base ρ σ s → wpAny C.M C.A (eval e C.env) (Vp C base ρ Q) (Xp C base X) s) : Ev C ρ σ e Q X :=
  fun base s H => wpAny_mono (h base s H) (fun v s' ⟨d, σ', a, b, c⟩ => ⟨ρ, σ', a, rfl, d, b, c⟩) fun z9a z9b x => x
theorem Ev.run {e : Expr} (h : Ev C ρ σ e Q X) (H : St C base ρ σ s) {Q' : Value → Shared → Prop} {E' : Value → Shared → Prop}
    (hQ : ∀ v d σ' s', St C base ρ σ' s' → Pers C σ s s' → RepV C.bad s'.heap d v → Q d σ' → Q' v s') (hX : ∀ e s', Xp C base X e s' → E' e s') :
    wpAny C.M C.A (eval e C.env) Q' E' s :=
  Tp.run h H (fun v ρ' σ' s' H' P ⟨e, d, r, q⟩ => by subst e; exact hQ v d σ' s' H' P r q) fun e c ρ' σ' s' x H' z9a q => hX _ _ ⟨c, ρ', σ', x, H', q⟩
theorem Ev.mono {e : Expr} {Q' : Val → Store → Prop} (h : Ev C ρ σ e Q X) (hq : ∀ d σ', Q d σ' → Q' d σ') : Ev C ρ σ e Q' X :=
  Tp.mono h (fun _ _ _ _ ⟨a, d, b, c⟩ => ⟨a, d, b, hq _ _ c⟩) fun z9a z9b z9c x => x
-- constants
theorem Ev.int {i : Int} {k pos} (h : Q (.int i) σ) : Ev C ρ σ (.Constant (.int i) k pos) Q X :=
  Ev.intro fun z9a s H => wpAny_Constant_int ⟨.int i, σ, H.toks _, by simp [RepV], h⟩
theorem Ev.none {k pos} (h : Q .none σ) : Ev C ρ σ (.Constant .none k pos) Q X :=
  Ev.intro fun z9a s H => wpAny_Constant_none ⟨.none, σ, H, by simp [RepV], h⟩
theorem Ev.bool {b k pos} (h : Q (.bool b) σ) : Ev C ρ σ (.Constant (.bool b) k pos) Q X :=
  Ev.intro fun z9a s H => wpAny_Constant_bool ⟨.bool b, σ, H, by simp [RepV], h⟩
theorem Ev.str {x : Str} {k pos} (h : Q (.str x) σ) : Ev C ρ σ (.Constant (.str x) k pos) Q X :=
  Ev.intro fun z9a s H => wpAny_Constant_str ⟨.str x, σ, H.toks _, by simp [RepV], h⟩
-- names
theorem load_local (H : St C base ρ σ s) {x : Str} {v : Val} {Q' : Value → Shared → Prop} {E'} (hv : ρ x = some v) (hk : C.env.kindOf x = some .local) (h : ∀ u, RepV C.bad s.heap v u → Q' u s) :
    wpAny C.M C.A (loadName C.env x) Q' E' s := by
  obtain ⟨m, hn, r⟩ := H.ns
  obtain ⟨u, h1, h2⟩ := r x v hv hk
  exact wpAny_loadName_local H.ok.kind hk hn h1 (h u h2)
theorem load_cell (H : St C base ρ σ s) {x : Str} {v : Val} {Q' : Value → Shared → Prop} {E'} (hv : ρ x = some v) (hk : C.env.kindOf x = some .cell) (h : ∀ u, RepV C.bad s.heap v u → Q' u s) :
    wpAny C.M C.A (loadName C.env x) Q' E' s := by
  obtain ⟨c, hc⟩ := Option.isSome_iff_exists.mp (H.allcells x (.inl hk))
  obtain ⟨u, h1, h2⟩ := H.cells x c hc
  obtain ⟨u', rfl, r⟩ := h2 v hv (.inl hk)
  exact wpAny_loadName_cell H.ok.kind hk hc h1 (h u' r)
theorem load_free (H : St C base ρ σ s) {x : Str} {v : Val} {Q' : Value → Shared → Prop} {E'} (hv : ρ x = some v) (hk : C.env.kindOf x = some .free) (h : ∀ u, RepV C.bad s.heap v u → Q' u s)
    (hn : (x == ("__classdict__" : Str)) = false := by decide) : wpAny C.M C.A (loadName C.env x) Q' E' s := by
  obtain ⟨c, hc⟩ := Option.isSome_iff_exists.mp (H.allcells x (.inr hk))
  obtain ⟨u, h1, h2⟩ := H.cells x c hc
  obtain ⟨u', rfl, r⟩ := h2 v hv (.inr hk)
  exact wpAny_loadName_free H.ok.kind hk hc h1 (h u' r) hn
theorem Ev.local {x : Str} {pos} {v : Val} (hv : ρ x = some v) (hk : C.env.kindOf x = some .local) (h : Q v σ) (hd : (x == ("__debug__" : Str)) = false := by decide) : Ev C ρ σ (.Name x pos) Q X :=
  Ev.intro fun z9a s H => wpAny_Name (load_local H hv hk fun u r => ⟨v, σ, H, r, h⟩) hd
theorem Ev.cell {x : Str} {pos} {v : Val} (hv : ρ x = some v) (hk : C.env.kindOf x = some .cell) (h : Q v σ) (hd : (x == ("__debug__" : Str)) = false := by decide) : Ev C ρ σ (.Name x pos) Q X :=
  Ev.intro fun z9a s H => wpAny_Name (load_cell H hv hk fun u r => ⟨v, σ, H, r, h⟩) hd
theorem Ev.free {x : Str} {pos} {v : Val} (hv : ρ x = some v) (hk : C.env.kindOf x = some .free) (h : Q v σ) (hd : (x == ("__debug__" : Str)) = false := by decide)
    (hn : (x == ("__classdict__" : Str)) = false := by decide) : Ev C ρ σ (.Name x pos) Q X :=
  Ev.intro fun z9a s H => wpAny_Name (load_free H hv hk (fun u r => ⟨v, σ, H, r, h⟩) hn) hd
/-- what a global name means at the top's end -/
noncomputable def Glo (h : Heap) (x : Str) (u : Value) : Prop :=
  (∃ mg, h.Ns mainGlobals mg ∧ mg x = some u) ∨ (∃ mg mb, h.Ns mainGlobals mg ∧ mg x = none ∧ h.Ns builtinsNs mb ∧ mb x = some u)
theorem St.top (H : St C base ρ σ s) : C.h₁.StaysIn s.heap := fun b o e => H.b2 b o (H.b1 b o e)
theorem load_global (H : St C base ρ σ s) {x : Str} {u : Value} {Q' : Value → Shared → Prop} {E'} (hg : Glo C.h₁ x u) (hk : C.env.kindOf x = some .globalImplicit) (h : Q' u s) :
    wpAny C.M C.A (loadName C.env x) Q' E' s := by
  unfold loadName Env.blockKind
  rw [H.ok.kind, hk]
  show wpAny C.M C.A (loadGlobal C.env x) Q' E' s
  unfold loadGlobal
  rw [H.ok.globals, H.ok.builtins]
  rcases hg with ⟨mg, h1, h2⟩ | ⟨mg, mb, h1, h2, h3, h4⟩
  · refine wpAny_bind (wpAny_nsGet (h1.keeps H.top) ?_)
    rw [h2]; exact wpAny_pure h
  · refine wpAny_bind (wpAny_nsGet (h1.keeps H.top) ?_)
    rw [h2]
    refine wpAny_bind (wpAny_nsGet (h3.keeps H.top) ?_)
    rw [h4]; exact wpAny_pure h
theorem Ev.global {x : Str} {pos} {u : Value} {d : Val} (hg : Glo C.h₁ x u) (r : RepV [] C.h₁ d u) (hk : C.env.kindOf x = some .globalImplicit) (h : Q d σ)
    (hd : (x == ("__debug__" : Str)) = false := by decide) : Ev C ρ σ (.Name x pos) Q X :=
  Ev.intro fun z9a s H => wpAny_Name (load_global H hg hk ⟨d, σ, H, H.ofTop r, h⟩) hd
-- operations on values
noncomputable def Bin (C : Cx) (ρ : Vars) (σ : Store) (t : Value → Value → Sem Value) (d₁ d₂ : Val) (Q : Val → Store → Prop) : Prop :=
  ∀ base s v₁ v₂, St C base ρ σ s → RepV C.bad s.heap d₁ v₁ → RepV C.bad s.heap d₂ v₂ → wpAny C.M C.A (t v₁ v₂) (Vp C base ρ Q) (fun z9a z9b => False) s
noncomputable def Una (C : Cx) (ρ : Vars) (σ : Store) (t : Value → Sem Value) (d : Val) (Q : Val → Store → Prop) : Prop :=
  ∀ base s v, St C base ρ σ s → RepV C.bad s.heap d v → wpAny C.M C.A (t v) (Vp C base ρ Q) (fun z9a z9b => False) s
noncomputable def Tru (C : Cx) (ρ : Vars) (σ : Store) (d : Val) (b : Bool) : Prop :=
  ∀ base s v, St C base ρ σ s → RepV C.bad s.heap d v → ∀ (Q : Bool → Shared → Prop) (E : Value → Shared → Prop), (∀ t, Q b { s with toks := t }) → wpAny C.M C.A (truthy v) Q E s
noncomputable abbrev P2b (C : Cx) (ρ : Vars) (f : Value → Value → Sem Value) (d₁ : Val) (Q : Val → Store → Prop) : Val → Store → Prop := fun d₂ σ₂ => Bin C ρ σ₂ f d₁ d₂ Q
noncomputable abbrev P2 (C : Cx) (ρ : Vars) (r : Expr) (f : Value → Value → Sem Value) (Q : Val → Store → Prop) (X : XPost) : Val → Store → Prop := fun d₁ σ₁ => Ev C ρ σ₁ r (P2b C ρ f d₁ Q) X
noncomputable abbrev P1 (C : Cx) (ρ : Vars) (f : Value → Sem Value) (Q : Val → Store → Prop) : Val → Store → Prop := fun d σ₁ => Una C ρ σ₁ f d Q
theorem Ev.binop {l r : Expr} {op pos} (h : Ev C ρ σ l (P2 C ρ r (binaryOp op) Q X) X) : Ev C ρ σ (.BinOp l op r pos) Q X :=
  Ev.intro fun z9a s H => wpAny_BinOp (h.run H (fun v₁ d₁ σ₁ s₁ H₁ P₁ r₁ h₁ => h₁.run H₁ (fun v₂ d₂ σ₂ s₂ H₂ P₂ r₂ h₂ => wpAny_mono (h₂ _ _ _ _ H₂ (P₂.rep r₁) r₂) (fun z9a z9b x => x) fun z9a z9b x => x.elim) fun z9a z9b x => x) fun z9a z9b x => x)
theorem Ev.unop {x : Expr} {op pos} (h : Ev C ρ σ x (P1 C ρ (unaryOp op) Q) X) : Ev C ρ σ (.UnaryOp op x pos) Q X :=
  Ev.intro fun z9a s H => wpAny_UnaryOp (h.run H (fun v d σ₁ s₁ H₁ P₁ r₁ h₁ => wpAny_mono (h₁ _ _ _ H₁ r₁) (fun z9a z9b x => x) fun z9a z9b x => x.elim) fun z9a z9b x => x)
theorem Ev.cmp {l r : Expr} {op pos} (h : Ev C ρ σ l (P2 C ρ r (compareOp op) Q X) X) (hm : behindInMarks op r = false := by with_unfolding_all rfl) :
    Ev C ρ σ (.Compare l [op] [r] pos) Q X :=
  Ev.intro fun z9a s H => wpAny_Compare1 (h.run H (fun v₁ d₁ σ₁ s₁ H₁ P₁ r₁ h₁ => h₁.run H₁ (fun v₂ d₂ σ₂ s₂ H₂ P₂ r₂ h₂ => wpAny_mono (h₂ _ _ _ _ H₂ (P₂.rep r₁) r₂) (fun z9a z9b x => x) fun z9a z9b x => x.elim) fun z9a z9b x => x) fun z9a z9b x => x) hm
/-- a test -/
noncomputable def Tst (C : Cx) (ρ : Vars) (σ : Store) (e : Expr) (Q : Bool → Store → Prop) (X : XPost) : Prop :=
  Tp C ρ σ (isTrue e C.env (eval e C.env)) (fun b z9a ρ' σ' => ρ' = ρ ∧ Q b σ') X
noncomputable def Tsts (C : Cx) (ρ : Vars) (σ : Store) (op : BoolOp) (es : List Expr) (Q : Bool → Store → Prop) (X : XPost) : Prop :=
  Tp C ρ σ (allTrue op es C.env) (fun b z9a ρ' σ' => ρ' = ρ ∧ Q b σ') X
noncomputable def Bp (C : Cx) (base : Heap) (ρ : Vars) (Q : Bool → Store → Prop) : Bool → Shared → Prop := fun b s' => ∃ σ', St C base ρ σ' s' ∧ Q b σ'
variable {B : Bool → Store → Prop}
theorem Tst.intro {e : Expr} (h : ∀ base s, St C base ρ σ s → wpAny C.M C.A (isTrue e C.env (eval e C.env)) (Bp C base ρ B) (Xp C base X) s) : Tst C ρ σ e B X :=
  fun base s H => wpAny_mono (h base s H) (fun v s' ⟨σ', a, b⟩ => ⟨ρ, σ', a, rfl, b⟩) fun z9a z9b x => x
theorem Tsts.intro {op} {e : List Expr} (h : ∀ base s, St C base ρ σ s → wpAny C.M C.A (allTrue op e C.env) (Bp C base ρ B) (Xp C base X) s) : Tsts C ρ σ op e B X :=
  fun base s H => wpAny_mono (h base s H) (fun v s' ⟨σ', a, b⟩ => ⟨ρ, σ', a, rfl, b⟩) fun z9a z9b x => x
theorem Tst.run {e : Expr} (h : Tst C ρ σ e B X) (H : St C base ρ σ s) {Q' : Bool → Shared → Prop} {E' : Value → Shared → Prop}
    (hQ : ∀ b σ' s', St C base ρ σ' s' → Pers C σ s s' → B b σ' → Q' b s') (hX : ∀ e s', Xp C base X e s' → E' e s') : wpAny C.M C.A (isTrue e C.env (eval e C.env)) Q' E' s :=
  Tp.run h H (fun v ρ' σ' s' H' P ⟨e, q⟩ => by subst e; exact hQ v σ' s' H' P q) fun e c ρ' σ' s' x H' z9a q => hX _ _ ⟨c, ρ', σ', x, H', q⟩
theorem Tsts.run {op} {e : List Expr} (h : Tsts C ρ σ op e B X) (H : St C base ρ σ s) {Q' : Bool → Shared → Prop} {E' : Value → Shared → Prop}
    (hQ : ∀ b σ' s', St C base ρ σ' s' → Pers C σ s s' → B b σ' → Q' b s') (hX : ∀ e s', Xp C base X e s' → E' e s') : wpAny C.M C.A (allTrue op e C.env) Q' E' s :=
  Tp.run h H (fun v ρ' σ' s' H' P ⟨e, q⟩ => by subst e; exact hQ v σ' s' H' P q) fun e c ρ' σ' s' x H' z9a q => hX _ _ ⟨c, ρ', σ', x, H', q⟩
noncomputable abbrev TvP (C : Cx) (ρ : Vars) (B : Bool → Store → Prop) : Val → Store → Prop := fun d σ₁ => ∃ b, Tru C ρ σ₁ d b ∧ B b σ₁
noncomputable abbrev TruP (B : Bool → Store → Prop) : Val → Store → Prop := fun d σ' => ∃ b, d = .bool b ∧ B b σ'
noncomputable abbrev NotP (B : Bool → Store → Prop) : Bool → Store → Prop := fun b σ' => B (!b) σ'
noncomputable abbrev AndP (C : Cx) (ρ : Vars) (rest : List Expr) (B : Bool → Store → Prop) (X : XPost) : Bool → Store → Prop := fun b σ' => (b = true → Tsts C ρ σ' .And rest B X) ∧ (b = false → B false σ')
noncomputable abbrev OrP (C : Cx) (ρ : Vars) (rest : List Expr) (B : Bool → Store → Prop) (X : XPost) : Bool → Store → Prop := fun b σ' => (b = true → B true σ') ∧ (b = false → Tsts C ρ σ' .Or rest B X)
noncomputable abbrev IfP (C : Cx) (ρ : Vars) (a b : Expr) (Q : Val → Store → Prop) (X : XPost) : Bool → Store → Prop := fun c σ' => (c = true → Ev C ρ σ' a Q X) ∧ (c = false → Ev C ρ σ' b Q X)
theorem truI {b : Bool} (h : B b σ) : TruP B (.bool b) σ := ⟨_, rfl, h⟩
theorem brF {P R : Prop} (h : R) : ∃ b, Val.bool false = .bool b ∧ (b = true → P) ∧ (b = false → R) := ⟨_, rfl, (fun q => nomatch q), fun z9a => h⟩
theorem brT {P R : Prop} (h : P) : ∃ b, Val.bool true = .bool b ∧ (b = true → P) ∧ (b = false → R) := ⟨_, rfl, fun z9a => h, (fun q => nomatch q)⟩
theorem brB {c : Bool} {P R : Prop} (h : c = true → P) (h' : c = false → R) : ∃ b, Val.bool c = .bool b ∧ (b = true → P) ∧ (b = false → R) := ⟨_, rfl, h, h'⟩
theorem Tst.val {e : Expr} (h : Ev C ρ σ e (TvP C ρ B) X) (he : ∀ whole, isTrue e C.env whole = (do let v ← whole; standAt e.pos; holding [v] (truthy v)) := by intro _; rfl) : Tst C ρ σ e B X :=
  Tst.intro fun z9a s H => wpAny_isTrue_value (h.run H (fun v d σ₁ s₁ H₁ P₁ r₁ ⟨b, h₁, q⟩ => h₁ _ _ _ H₁ r₁ _ _ fun t => ⟨σ₁, H₁.toks t, q⟩) fun z9a z9b x => x) (he _)
theorem Tst.not {x : Expr} {pos} (h : Tst C ρ σ x (NotP B) X) : Tst C ρ σ (.UnaryOp .Not x pos) B X :=
  Tst.intro fun z9a s H => wpAny_isTrue_Not (h.run H (fun b σ' s' H' z9a q => ⟨σ', H', q⟩) fun z9a z9b x => x)
theorem Tst.cmp {l r : Expr} {op pos} (h : Ev C ρ σ l (P2 C ρ r (compareOp op) (TruP B) X) X)
    (hm : behindInMarks op r = false := by with_unfolding_all rfl) : Tst C ρ σ (.Compare l [op] [r] pos) B X :=
  Tst.intro fun z9a s H => wpAny_isTrue_Compare1 (h.run H (fun v₁ d₁ σ₁ s₁ H₁ P₁ r₁ h₁ => h₁.run H₁ (fun v₂ d₂ σ₂ s₂ H₂ P₂ r₂ h₂ =>
    wpAny_mono (h₂ _ _ _ _ H₂ (P₂.rep r₁) r₂) (fun v s' ⟨d, σ', H', r', b, e, q⟩ => by
      subst e
      simp only [RepV] at r'; subst r'
      exact wpAny_truthy_bool ⟨σ', H', q⟩) fun z9a z9b x => x.elim) fun z9a z9b x => x) fun z9a z9b x => x) hm
theorem Tst.boolop {op es pos} (h : Tsts C ρ σ op es B X) : Tst C ρ σ (.BoolOp op es pos) B X :=
  Tst.intro fun z9a s H => wpAny_isTrue_BoolOp (h.run H (fun b σ' s' H' z9a q => ⟨σ', H', q⟩) fun z9a z9b x => x)
theorem Tsts.and_nil (h : B true σ) : Tsts C ρ σ .And [] B X := Tsts.intro fun z9a s H => wpAny_allTrue_And_nil ⟨σ, H, h⟩
theorem Tsts.or_nil (h : B false σ) : Tsts C ρ σ .Or [] B X := Tsts.intro fun z9a s H => wpAny_allTrue_Or_nil ⟨σ, H, h⟩
theorem Tsts.and_cons {x rest} (h : Tst C ρ σ x (AndP C ρ rest B X) X) : Tsts C ρ σ .And (x :: rest) B X :=
  Tsts.intro fun z9a s H => wpAny_allTrue_And_cons (h.run H (fun b σ' s' H' _ ⟨q1, q2⟩ => by
    cases b
    · exact ⟨σ', H', q2 rfl⟩
    · exact (q1 rfl).run H' (fun b σ' s' H' z9a q => ⟨σ', H', q⟩) fun z9a z9b x => x) fun z9a z9b x => x)
theorem Tsts.or_cons {x rest} (h : Tst C ρ σ x (OrP C ρ rest B X) X) : Tsts C ρ σ .Or (x :: rest) B X :=
  Tsts.intro fun z9a s H => wpAny_allTrue_Or_cons (h.run H (fun b σ' s' H' _ ⟨q1, q2⟩ => by
    cases b
    · exact (q2 rfl).run H' (fun b σ' s' H' z9a q => ⟨σ', H', q⟩) fun z9a z9b x => x
    · exact ⟨σ', H', q1 rfl⟩) fun z9a z9b x => x)
theorem Ev.ifexp {t a b : Expr} {pos} (h : Tst C ρ σ t (IfP C ρ a b Q X) X) : Ev C ρ σ (.IfExp t a b pos) Q X :=
  Ev.intro fun z9a s H => wpAny_IfExp (h.run H (fun c σ' s' H' _ ⟨q1, q2⟩ => by
    cases c
    · exact (q2 rfl).run H' (fun v d σ' s' H' z9a r q => ⟨d, σ', H', r, q⟩) fun z9a z9b x => x
    · exact (q1 rfl).run H' (fun v d σ' s' H' z9a r q => ⟨d, σ', H', r, q⟩) fun z9a z9b x => x) fun z9a z9b x => x)
/-- a BoolOp as a value -/
noncomputable def Evb (C : Cx) (ρ : Vars) (σ : Store) (pos : Pos) (op : BoolOp) (es : List Expr) (Q : Val → Store → Prop) (X : XPost) : Prop :=
  Tp C ρ σ (boolOp pos op (evalEach es C.env)) (fun v h ρ' σ' => ρ' = ρ ∧ ∃ d, RepV C.bad h d v ∧ Q d σ') X
theorem Ev.boolop {op es pos} (h : Evb C ρ σ pos op es Q X) : Ev C ρ σ (.BoolOp op es pos) Q X := h
theorem Evb.one {op e pos} (h : Ev C ρ σ e Q X) : Evb C ρ σ pos op [e] Q X := h
theorem boolOp_cons2 (pos : Pos) (op : BoolOp) (x y : Sem Value) (r : List (Sem Value)) : boolOp pos op (x :: y :: r) = (do
    let v ← x
    standAt pos
    let t ← holding [v] (truthy v)
    match op, t with
    | .And, false | .Or, true => pure v
    | _, _ => boolOp pos op (y :: r)) := rfl
theorem Evb.cons {op e e' rest pos} (h : Ev C ρ σ e (fun d σ' => ∃ b, Tru C ρ σ' d b ∧ (if b = (op == .And) then Evb C ρ σ' pos op (e' :: rest) Q X else Q d σ')) X) : Evb C ρ σ pos op (e :: e' :: rest) Q X := by
  intro base s H
  show wpAny C.M C.A (boolOp pos op (eval e C.env :: eval e' C.env :: evalEach rest C.env)) _ _ s
  rw [boolOp_cons2]
  refine wpAny_bind (h.run H (fun v d σ' s' H' P r ⟨b, ht, q⟩ => ?_) fun z9a z9b x => x)
  refine wpAny_bind (wpAny_standAt (wpAny_bind (wpAny_holding (ht _ _ _ H' r _ _ fun t => ?_))))
  cases op <;> cases b
  · have q : Q d σ' := q
    exact wpAny_pure ⟨ρ, σ', H'.toks t, rfl, d, r, q⟩
  · have q : Evb C ρ σ' pos .And (e' :: rest) Q X := q
    exact q _ _ (H'.toks t)
  · have q : Evb C ρ σ' pos .Or (e' :: rest) Q X := q
    exact q _ _ (H'.toks t)
  · have q : Q d σ' := q
    exact wpAny_pure ⟨ρ, σ', H'.toks t, rfl, d, r, q⟩
/-- several expressions, left to right -/
noncomputable def Evs (C : Cx) (ρ : Vars) (σ : Store) (es : List Expr) (Q : List Val → Store → Prop) (X : XPost) : Prop :=
  ∀ pos, Tp C ρ σ (spliced (backTo pos (starEach es C.env))) (fun vs h ρ' σ' => ρ' = ρ ∧ ∃ ds, RepVs C.bad h ds vs ∧ Q ds σ') X
variable {L : List Val → Store → Prop}
theorem Evs.run {es : List Expr} (h : Evs C ρ σ es L X) (H : St C base ρ σ s) {pos : Pos} {Q' : List Value → Shared → Prop} {E' : Value → Shared → Prop}
    (hQ : ∀ v d σ' s', St C base ρ σ' s' → Pers C σ s s' → RepVs C.bad s'.heap d v → L d σ' → Q' v s') (hX : ∀ e s', Xp C base X e s' → E' e s') :
    wpAny C.M C.A (spliced (backTo pos (starEach es C.env))) Q' E' s :=
  Tp.run (h pos) H (fun v ρ' σ' s' H' P ⟨e, d, r, q⟩ => by subst e; exact hQ v d σ' s' H' P r q) fun e c ρ' σ' s' x H' z9a q => hX _ _ ⟨c, ρ', σ', x, H', q⟩
theorem Evs.nil (h : L [] σ) : Evs C ρ σ [] L X := fun pos base s H => wpAny_items_nil ⟨ρ, σ, H, rfl, [], .nil, h⟩
noncomputable abbrev ConsL (L : List Val → Store → Prop) (d : Val) : List Val → Store → Prop := fun ds σ₂ => L (d :: ds) σ₂
noncomputable abbrev ConsP (C : Cx) (ρ : Vars) (rest : List Expr) (L : List Val → Store → Prop) (X : XPost) : Val → Store → Prop := fun d σ₁ => Evs C ρ σ₁ rest (ConsL L d) X
noncomputable abbrev TupP (Q : Val → Store → Prop) : List Val → Store → Prop := fun ds σ' => ds.length ≤ 1000 ∧ Q (.tup ds) σ'
noncomputable abbrev LstP (Q : Val → Store → Prop) : List Val → Store → Prop := fun ds σ' => ds.length ≤ 1000 ∧ ∀ a, σ' a = Option.none → Q (.ref a) (σ'.set a (.list ds))
theorem Evs.cons {e rest} (h : Ev C ρ σ e (ConsP C ρ rest L X) X) (he : starEach (e :: rest) C.env = (false, eval e C.env) :: starEach rest C.env := by rfl) :
    Evs C ρ σ (e :: rest) L X := fun pos base s H =>
  wpAny_items_cons (h.run H (fun v d σ₁ s₁ H₁ P₁ r₁ h₁ => h₁.run H₁ (fun vs ds σ₂ s₂ H₂ P₂ r₂ q => ⟨ρ, σ₂, H₂, rfl, d :: ds, .cons (P₂.rep r₁) r₂, q⟩) fun z9a z9b x => x) fun z9a z9b x => x) he
theorem Ev.tuple {es k pos} (h : Evs C ρ σ es (TupP Q) X) : Ev C ρ σ (.Tuple es k pos) Q X :=
  Ev.intro fun z9a s H => wpAny_Tuple (h.run H (fun vs ds σ' s' H' _ r ⟨hl, q⟩ => ⟨by rw [r.length]; show ds.length ≤ 2 ^ 24; lia, .tup ds, σ', H'.push _, by
    simp only [RepV]
    exact ⟨_, vs, rfl, ⟨_, Heap.get?_push_size _ rfl, rfl, _, rfl⟩, H'.notBad (Heap.get?_none_of_le (Nat.le_refl _)), r.keep (.of_keeps fun z9a z9b e => Heap.get?_push_of_some _ e)⟩, q⟩) fun z9a z9b x => x)
theorem Ev.list {es pos} (h : Evs C ρ σ es (LstP Q) X) : Ev C ρ σ (.List es pos) Q X :=
  Ev.intro fun z9a s H => wpAny_List (h.run H (fun vs ds σ' s' H' _ r ⟨hl, q⟩ => ⟨by rw [r.length]; show ds.length ≤ 2 ^ 24; lia, .ref s'.heap.objs.size, σ'.set s'.heap.objs.size (.list ds),
    (H'.push _).track H'.fresh ⟨vs, ⟨_, Heap.get?_push_size _ rfl⟩, r.keep (.of_keeps fun z9a z9b e => Heap.get?_push_of_some _ e)⟩ (H'.newAddr (Heap.get?_none_of_le (Nat.le_refl _))), by simp [RepV], q _ H'.fresh⟩) fun z9a z9b x => x)
-- subscripts
theorem Ev.sub {o i : Expr} {pos} (h : Ev C ρ σ o (P2 C ρ i (subscriptTail o i) Q X) X) : Ev C ρ σ (.Subscript o i pos) Q X :=
  Ev.intro fun z9a s H => Subscript_ (h.run H (fun v₁ d₁ σ₁ s₁ H₁ P₁ r₁ h₁ => h₁.run H₁ (fun v₂ d₂ σ₂ s₂ H₂ P₂ r₂ h₂ => wpAny_mono (h₂ _ _ _ _ H₂ (P₂.rep r₁) r₂) (fun z9a z9b x => x) fun z9a z9b x => x.elim) fun z9a z9b x => x) fun z9a z9b x => x)
end
end Mine
set_option tactic.hygienic false
namespace Mine
open PySem PySem.W PyProof.Rows PySem.Calls
mutual
noncomputable def Val.py : Val → PyData
  | .none => .none | .bool b => .bool b | .int i => .int i | .str x => .str x | .tup xs => .tuple (Val.pys xs)
  | .ref _ => .none | .blt _ => .none | .typ _ => .none
noncomputable def Val.pys : List Val → List PyData
  | [] => [] | x :: xs => x.py :: Val.pys xs
end
mutual
/-- plain data, no deeper than n -/
noncomputable def Val.fit : Nat → Val → Bool
  | _, .none => true | _, .bool _ => true | _, .int _ => true | _, .str x => PyData.strOk x
  | 0, .tup _ => false | n + 1, .tup xs => Val.fits n xs
  | _, .ref _ => false | _, .blt _ => false | _, .typ _ => false
noncomputable def Val.fits : Nat → List Val → Bool
  | _, [] => true | n, x :: xs => Val.fit n x && Val.fits n xs
end
theorem Val.pys_map (xs : List Val) : Val.pys xs = xs.map Val.py := by
  induction xs with
  | nil => rfl
  | cons x xs ih => simp [Val.pys, ih]
theorem Val.fits_all (n : Nat) (xs : List Val) : Val.fits n xs = xs.all (Val.fit n) := by
  induction xs with
  | nil => rfl
  | cons x xs ih => simp [Val.fits, ih]
mutual
theorem Val.fit_py : ∀ {n : Nat} {d : Val}, d.fit n = true → d.py.canLay0 = true ∧ d.py.depth ≤ n
  | _, .none, _ => ⟨rfl, Nat.zero_le _⟩
  | _, .bool _, _ => ⟨rfl, Nat.zero_le _⟩
  | _, .int _, _ => ⟨rfl, Nat.zero_le _⟩
  | _, .str x, h => ⟨by simpa [Val.fit, Val.py, PyData.canLay0] using h, Nat.zero_le _⟩
  | 0, .tup _, h => by simp [Val.fit] at h
  | n + 1, .tup xs, h => by
    have := Val.fits_py (n := n) (ds := xs) (by simpa [Val.fit] using h)
    exact ⟨by simpa [Val.py, PyData.canLay0] using this.1, by simp only [Val.py, PyData.depth]; lia⟩
  | _, .ref _, h => by simp [Val.fit] at h
  | _, .blt _, h => by simp [Val.fit] at h
  | _, .typ _, h => by simp [Val.fit] at h
theorem Val.fits_py : ∀ {n : Nat} {ds : List Val}, Val.fits n ds = true → PyData.canLayAll0 (Val.pys ds) = true ∧ PyData.depthAll (Val.pys ds) ≤ n
  | _, [], _ => ⟨rfl, Nat.zero_le _⟩
  | n, d :: ds, h => by
    have h' : d.fit n = true ∧ Val.fits n ds = true := by simpa [Val.fits] using h
    have h1 := Val.fit_py h'.1
    have h2 := Val.fits_py h'.2
    exact ⟨by simp [Val.pys, PyData.canLayAll0, h1.1, h2.1], by simp only [Val.pys, PyData.depthAll]; lia⟩
end
mutual
theorem RepV.reads {B : List Addr} {h : Heap} : ∀ {n : Nat} {d : Val} {v : Value}, d.fit n = true → RepV B h d v → ∃ as, Reads h v d.py as
  | _, .none, v, _, r => by simp only [RepV] at r; subst r; exact ⟨_, .none⟩
  | _, .bool b, v, _, r => by simp only [RepV] at r; subst r; exact ⟨_, .bool b⟩
  | _, .int i, v, _, r => by simp only [RepV] at r; obtain ⟨t, rfl⟩ := r; exact ⟨_, .int i t⟩
  | _, .str x, v, _, r => by simp only [RepV] at r; obtain ⟨t, rfl⟩ := r; exact ⟨_, .str x t⟩
  | 0, .tup _, _, h, _ => by simp [Val.fit] at h
  | n + 1, .tup xs, v, hf, r => by
    simp only [RepV] at r
    obtain ⟨a, vs, rfl, ⟨o, ho, hc, m, hd⟩, _, rs⟩ := r
    obtain ⟨as, hr⟩ := RepVs.reads (n := n) (by simpa [Val.fit] using hf) rs
    exact ⟨as, .tuple ho hc hd (by simpa using hr)⟩
  | _, .ref _, _, h, _ => by simp [Val.fit] at h
  | _, .blt _, _, h, _ => by simp [Val.fit] at h
  | _, .typ _, _, h, _ => by simp [Val.fit] at h
theorem RepVs.reads {B : List Addr} {h : Heap} : ∀ {n : Nat} {ds : List Val} {vs : List Value}, Val.fits n ds = true → RepVs B h ds vs → ∃ as, ReadsAll h vs (Val.pys ds) as
  | _, [], vs, _, r => by simp only [RepVs] at r; subst r; exact ⟨_, .nil⟩
  | n, d :: ds, vs, hf, r => by
    have h' : d.fit n = true ∧ Val.fits n ds = true := by simpa [Val.fits] using hf
    simp only [RepVs] at r
    obtain ⟨v, ws, rfl, r1, r2⟩ := r
    obtain ⟨as, h1⟩ := RepV.reads h'.1 r1
    obtain ⟨bs, h2⟩ := RepVs.reads h'.2 r2
    exact ⟨_, .cons h1 h2⟩
end
section
variable {C : Cx} {base : Heap} {ρ : Vars} {σ : Store} {s : Shared} {Q : Val → Store → Prop} {X : XPost}
theorem St.room (H : St C base ρ σ s) : C.A.units + 20 < cLine := by have := H.ok.units; lia
theorem Vp.here {d : Val} {v : Value} (H : St C base ρ σ s) (r : RepV C.bad s.heap d v) (q : Q d σ) : Vp C base ρ Q v s := ⟨d, σ, H, r, q⟩
-- ints
theorem Bin.add {a b : Int} (h : Q (.int (a + b)) σ) : Bin C ρ σ (binaryOp .Add) (.int a) (.int b) Q := by
  intro base s v₁ v₂ H r₁ r₂; simp only [RepV] at r₁ r₂; obtain ⟨t, rfl⟩ := r₁; obtain ⟨u, rfl⟩ := r₂
  exact PyProof.Rows.add_int (Vp.here (H.toks _) (by simp [RepV]) h)
theorem Bin.sub {a b : Int} (h : Q (.int (a - b)) σ) : Bin C ρ σ (binaryOp .Sub) (.int a) (.int b) Q := by
  intro base s v₁ v₂ H r₁ r₂; simp only [RepV] at r₁ r₂; obtain ⟨t, rfl⟩ := r₁; obtain ⟨u, rfl⟩ := r₂
  exact PyProof.Rows.sub_int' (Vp.here (H.toks _) (by simp [RepV]) h)
theorem Bin.mul {a b : Int} (ha : -(2 ^ 60) ≤ a ∧ a ≤ 2 ^ 60) (h : Q (.int (a * b)) σ) : Bin C ρ σ (binaryOp .Mult) (.int a) (.int b) Q := by
  intro base s v₁ v₂ H r₁ r₂; simp only [RepV] at r₁ r₂; obtain ⟨t, rfl⟩ := r₁; obtain ⟨u, rfl⟩ := r₂
  exact PyProof.Rows.mul_int (Vp.here (H.toks _) (by simp [RepV]) h) (PySem.IntMulOk.of_left (PySem.intBits_le_64 (by lia) (by lia)))
theorem Bin.mod {a b : Int} (hb : b ≠ 0) (h : Q (.int (a.fmod b)) σ) : Bin C ρ σ (binaryOp .Mod) (.int a) (.int b) Q := by
  intro base s v₁ v₂ H r₁ r₂; simp only [RepV] at r₁ r₂; obtain ⟨t, rfl⟩ := r₁; obtain ⟨u, rfl⟩ := r₂
  exact PyProof.Rows.mod_int' hb (Vp.here (H.toks _) (by simp [RepV]) h)
theorem Bin.floordiv {a b : Int} (hb : b ≠ 0) (hp : Builtin.divisionGoesByPylong a b = false) (h : Q (.int (a.fdiv b)) σ) : Bin C ρ σ (binaryOp .FloorDiv) (.int a) (.int b) Q := by
  intro base s v₁ v₂ H r₁ r₂; simp only [RepV] at r₁ r₂; obtain ⟨t, rfl⟩ := r₁; obtain ⟨u, rfl⟩ := r₂
  exact PyProof.Rows.floordiv_int hb (Vp.here (H.toks _) (by simp [RepV]) h) (.inl hp)
theorem Bin.pow {a n : Int} (hn : 0 ≤ n) (hsz : (Builtin.Int.intBits a : Int) * n ≤ 2 ^ 27) (h : Q (.int (a ^ n.toNat)) σ) : Bin C ρ σ (binaryOp .Pow) (.int a) (.int n) Q := by
  intro base s v₁ v₂ H r₁ r₂; simp only [RepV] at r₁ r₂; obtain ⟨t, rfl⟩ := r₁; obtain ⟨u, rfl⟩ := r₂
  exact PyProof.Rows.pow_int hn hsz (Vp.here (H.toks _) (by simp [RepV]) h)
theorem Bin.rshift {a n : Int} (hn : 0 ≤ n) (h : Q (.int (a.fdiv (2 ^ n.toNat))) σ) : Bin C ρ σ (binaryOp .RShift) (.int a) (.int n) Q := by
  intro base s v₁ v₂ H r₁ r₂; simp only [RepV] at r₁ r₂; obtain ⟨t, rfl⟩ := r₁; obtain ⟨u, rfl⟩ := r₂
  exact PyProof.Rows.rshift_int hn (Vp.here (H.toks _) (by simp [RepV]) h)
theorem Bin.bitand {a b : Int} (h : Q (.int (Builtin.bitAnd a b)) σ) : Bin C ρ σ (binaryOp .BitAnd) (.int a) (.int b) Q := by
  intro base s v₁ v₂ H r₁ r₂; simp only [RepV] at r₁ r₂; obtain ⟨t, rfl⟩ := r₁; obtain ⟨u, rfl⟩ := r₂
  exact PyProof.Rows.and_int (Vp.here (H.toks _) (by simp [RepV]) h)
theorem Una.neg {a : Int} (h : Q (.int (-a)) σ) : Una C ρ σ (unaryOp .USub) (.int a) Q := by
  intro base s v₁ H r₁; simp only [RepV] at r₁; obtain ⟨t, rfl⟩ := r₁
  exact PyProof.Rows.neg_int (Vp.here (H.toks _) (by simp [RepV]) h)
theorem Bin.lt {a b : Int} (h : Q (.bool (decide (a < b))) σ) : Bin C ρ σ (compareOp .Lt) (.int a) (.int b) Q := by
  intro base s v₁ v₂ H r₁ r₂; simp only [RepV] at r₁ r₂; obtain ⟨t, rfl⟩ := r₁; obtain ⟨u, rfl⟩ := r₂
  exact PyProof.Rows.lt_int (Vp.here H (by simp [RepV]) h)
theorem Bin.le {a b : Int} (h : Q (.bool (decide (a ≤ b))) σ) : Bin C ρ σ (compareOp .LtE) (.int a) (.int b) Q := by
  intro base s v₁ v₂ H r₁ r₂; simp only [RepV] at r₁ r₂; obtain ⟨t, rfl⟩ := r₁; obtain ⟨u, rfl⟩ := r₂
  exact PyProof.Rows.le_int (Vp.here H (by simp [RepV]) h)
theorem Bin.gt {a b : Int} (h : Q (.bool (decide (b < a))) σ) : Bin C ρ σ (compareOp .Gt) (.int a) (.int b) Q := by
  intro base s v₁ v₂ H r₁ r₂; simp only [RepV] at r₁ r₂; obtain ⟨t, rfl⟩ := r₁; obtain ⟨u, rfl⟩ := r₂
  exact PyProof.Rows.gt_int (Vp.here H (by simp [RepV]) h)
theorem Bin.ge {a b : Int} (h : Q (.bool (decide (b ≤ a))) σ) : Bin C ρ σ (compareOp .GtE) (.int a) (.int b) Q := by
  intro base s v₁ v₂ H r₁ r₂; simp only [RepV] at r₁ r₂; obtain ⟨t, rfl⟩ := r₁; obtain ⟨u, rfl⟩ := r₂
  exact PyProof.Rows.ge_int (Vp.here H (by simp [RepV]) h)
theorem Tru.bool {b : Bool} : Tru C ρ σ (.bool b) b := by
  intro base s v H r Q' E' h; simp only [RepV] at r; subst r
  exact wpAny_truthy_bool (h s.toks)
noncomputable def Val.isNone : Val → Bool
  | .none => true
  | _ => false
theorem RepV.isNone {B : List Addr} {h : Heap} {d : Val} {v : Value} (r : RepV B h d v) : (v == .none) = d.isNone := by
  cases d <;> simp only [RepV] at r
  case none => subst r; rfl
  case bool => subst r; rfl
  case int => obtain ⟨t, rfl⟩ := r; rfl
  case str => obtain ⟨t, rfl⟩ := r; rfl
  case tup => obtain ⟨a, vs, rfl, _⟩ := r; rfl
  case ref => subst r; rfl
  case blt => subst r; rfl
  case typ => subst r; rfl
theorem Bin.isNone {d : Val} (h : Q (.bool d.isNone) σ) : Bin C ρ σ (compareOp .Is) d .none Q := by
  intro base s v₁ v₂ H r₁ r₂; simp only [RepV] at r₂; subst r₂
  exact is_none (Vp.here H (by simp only [RepV]; rw [r₁.isNone]) h)
theorem Bin.isNotNone {d : Val} (h : Q (.bool (!d.isNone)) σ) : Bin C ρ σ (compareOp .IsNot) d .none Q := by
  intro base s v₁ v₂ H r₁ r₂; simp only [RepV] at r₂; subst r₂
  exact isNot_none (Vp.here H (by simp only [RepV]; rw [r₁.isNone]) h)
-- equality of plain data
theorem Bin.eq {a b : Val} (ha : a.fit 8 = true) (hb : b.fit 8 = true) (h : Q (.bool (PyData.eqv a.py b.py)) σ) : Bin C ρ σ (compareOp .Eq) a b Q := by
  intro base s v₁ v₂ H r₁ r₂
  obtain ⟨as, h1⟩ := r₁.reads ha
  obtain ⟨bs, h2⟩ := r₂.reads hb
  have := H.room
  refine SeqAt.compareEq_reads h1 h2 (Val.fit_py ha).1 (Val.fit_py hb).1 ?_ (Vp.here H (by simp [RepV]) h)
  have := (Val.fit_py ha).2
  lia
theorem Bin.ne {a b : Val} (ha : a.fit 8 = true) (hb : b.fit 8 = true) (h : Q (.bool (!PyData.eqv a.py b.py)) σ) : Bin C ρ σ (compareOp .NotEq) a b Q := by
  intro base s v₁ v₂ H r₁ r₂
  obtain ⟨as, h1⟩ := r₁.reads ha
  obtain ⟨bs, h2⟩ := r₂.reads hb
  have := H.room
  refine SeqAt.compareNe_reads h1 h2 (Val.fit_py ha).1 (Val.fit_py hb).1 ?_ (Vp.here H (by simp [RepV]) h)
  have := (Val.fit_py ha).2
  lia
theorem list_reads (H : St C base ρ σ s) {a : Addr} {xs : List Val} {n : Nat} (hl : σ a = some (.list xs)) (hf : Val.fits n xs = true) : ∃ as, Reads s.heap (.ref a) (.list (Val.pys xs)) as := by
  obtain ⟨vs, ⟨m, ho⟩, rs⟩ := (H.store a _ hl).1
  obtain ⟨as, hr⟩ := rs.reads hf
  exact ⟨_, .list ho rfl rfl (by simpa using hr)⟩
theorem Bin.eqList {a b : Addr} {xs ys : List Val} (ha : σ a = some (.list xs)) (hb : σ b = some (.list ys)) (fa : Val.fits 8 xs = true) (fb : Val.fits 8 ys = true)
    (h : Q (.bool (PyData.eqvAll (Val.pys xs) (Val.pys ys))) σ) : Bin C ρ σ (compareOp .Eq) (.ref a) (.ref b) Q := by
  intro base s v₁ v₂ H r₁ r₂; simp only [RepV] at r₁ r₂; subst r₁ r₂
  obtain ⟨as, h1⟩ := list_reads H ha fa
  obtain ⟨bs, h2⟩ := list_reads H hb fb
  have := H.room
  refine SeqAt.compareEq_reads h1 h2 (by simpa [PyData.canLay0] using (Val.fits_py fa).1) (by simpa [PyData.canLay0] using (Val.fits_py fb).1) ?_ (Vp.here (d := .bool (PyData.eqv (.list (Val.pys xs)) (.list (Val.pys ys)))) H (by simp [RepV]) (by show Q (.bool (PyData.eqvAll _ _)) σ; exact h))
  have := (Val.fits_py fa).2
  simp only [PyData.depth]
  lia
theorem Bin.neList {a b : Addr} {xs ys : List Val} (ha : σ a = some (.list xs)) (hb : σ b = some (.list ys)) (fa : Val.fits 8 xs = true) (fb : Val.fits 8 ys = true)
    (h : Q (.bool (!PyData.eqvAll (Val.pys xs) (Val.pys ys))) σ) : Bin C ρ σ (compareOp .NotEq) (.ref a) (.ref b) Q := by
  intro base s v₁ v₂ H r₁ r₂; simp only [RepV] at r₁ r₂; subst r₁ r₂
  obtain ⟨as, h1⟩ := list_reads H ha fa
  obtain ⟨bs, h2⟩ := list_reads H hb fb
  have := H.room
  refine SeqAt.compareNe_reads h1 h2 (by simpa [PyData.canLay0] using (Val.fits_py fa).1) (by simpa [PyData.canLay0] using (Val.fits_py fb).1) ?_ (Vp.here (d := .bool (!PyData.eqv (.list (Val.pys xs)) (.list (Val.pys ys)))) H (by simp [RepV]) (by show Q (.bool (!PyData.eqvAll _ _)) σ; exact h))
  have := (Val.fits_py fa).2
  simp only [PyData.depth]
  lia
-- membership
theorem Bin.inTup {d : Val} {xs : List Val} (hd : d.fit 8 = true) (hx : Val.fits 8 xs = true) (h : Q (.bool (xs.any fun y => PyData.eqv y.py d.py)) σ) : Bin C ρ σ (compareOp .In) d (.tup xs) Q := by
  intro base s v₁ v₂ H r₁ r₂
  obtain ⟨as, h1⟩ := r₁.reads hd
  obtain ⟨bs, h2⟩ := RepV.reads (n := 9) (d := .tup xs) (by simpa [Val.fit] using hx) r₂
  have := H.room
  have e : (Val.pys xs).any (fun y => PyData.eqv y d.py) = xs.any fun y => PyData.eqv y.py d.py := by rw [Val.pys_map, List.any_map]; rfl
  refine SeqAt.in_tuple_reads h2 h1 (Val.fits_py hx).1 (Val.fit_py hd).1 ?_ (by rw [e]; exact Vp.here H (by simp [RepV]) h)
  have := (Val.fit_py hd).2
  lia
theorem Bin.notInTup {d : Val} {xs : List Val} (hd : d.fit 8 = true) (hx : Val.fits 8 xs = true) (h : Q (.bool (!xs.any fun y => PyData.eqv y.py d.py)) σ) : Bin C ρ σ (compareOp .NotIn) d (.tup xs) Q := by
  intro base s v₁ v₂ H r₁ r₂
  obtain ⟨as, h1⟩ := r₁.reads hd
  obtain ⟨bs, h2⟩ := RepV.reads (n := 9) (d := .tup xs) (by simpa [Val.fit] using hx) r₂
  have := H.room
  have e : (Val.pys xs).any (fun y => PyData.eqv y d.py) = xs.any fun y => PyData.eqv y.py d.py := by rw [Val.pys_map, List.any_map]; rfl
  refine SeqAt.notIn_tuple_reads h2 h1 (Val.fits_py hx).1 (Val.fit_py hd).1 ?_ (by rw [e]; exact Vp.here H (by simp [RepV]) h)
  have := (Val.fit_py hd).2
  lia
theorem Bin.inList {d : Val} {a : Addr} {xs : List Val} (ha : σ a = some (.list xs)) (hd : d.fit 8 = true) (hx : Val.fits 8 xs = true) (h : Q (.bool (xs.any fun y => PyData.eqv y.py d.py)) σ) :
    Bin C ρ σ (compareOp .In) d (.ref a) Q := by
  intro base s v₁ v₂ H r₁ r₂; simp only [RepV] at r₂; subst r₂
  obtain ⟨as, h1⟩ := r₁.reads hd
  obtain ⟨bs, h2⟩ := list_reads H ha hx
  have := H.room
  have e : (Val.pys xs).any (fun y => PyData.eqv y d.py) = xs.any fun y => PyData.eqv y.py d.py := by rw [Val.pys_map, List.any_map]; rfl
  refine SeqAt.in_list_reads h2 h1 (Val.fits_py hx).1 (Val.fit_py hd).1 ?_ (by rw [e]; exact Vp.here H (by simp [RepV]) h)
  have := (Val.fit_py hd).2
  lia
theorem Bin.notInList {d : Val} {a : Addr} {xs : List Val} (ha : σ a = some (.list xs)) (hd : d.fit 8 = true) (hx : Val.fits 8 xs = true) (h : Q (.bool (!xs.any fun y => PyData.eqv y.py d.py)) σ) :
    Bin C ρ σ (compareOp .NotIn) d (.ref a) Q := by
  intro base s v₁ v₂ H r₁ r₂; simp only [RepV] at r₂; subst r₂
  obtain ⟨as, h1⟩ := r₁.reads hd
  obtain ⟨bs, h2⟩ := list_reads H ha hx
  have := H.room
  have e : (Val.pys xs).any (fun y => PyData.eqv y d.py) = xs.any fun y => PyData.eqv y.py d.py := by rw [Val.pys_map, List.any_map]; rfl
  refine SeqAt.notIn_list_reads h2 h1 (Val.fits_py hx).1 (Val.fit_py hd).1 ?_ (by rw [e]; exact Vp.here H (by simp [RepV]) h)
  have := (Val.fit_py hd).2
  lia
-- dicts
noncomputable def kvAt {K : Type} [DecidableEq K] (kvs : List (K × Val)) (k : K) : Option Val := (kvs.find? fun kv => kv.1 = k).map (·.2)
noncomputable def kvSet {K : Type} [DecidableEq K] (kvs : List (K × Val)) (k : K) (v : Val) : List (K × Val) :=
  if kvs.any (fun kv => kv.1 = k) then kvs.map (fun kv => if kv.1 = k then (kv.1, v) else kv) else kvs ++ [(k, v)]
theorem RepKV.length {B : List Addr} {h : Heap} {K : Type} {kvs : List (K × Val)} {ws} (r : RepKV B h kvs ws) : ws.length = kvs.length := by
  induction r with
  | nil => rfl
  | cons _ _ ih => simp [ih]
theorem RepKV.at {B : List Addr} {h : Heap} {K : Type} [DecidableEq K] {kvs : List (K × Val)} {ws} (r : RepKV B h kvs ws) (k : K) :
    (kvAt kvs k = none ∧ valueAt ws k = none) ∨ ∃ d v, kvAt kvs k = some d ∧ valueAt ws k = some v ∧ RepV B h d v := by
  induction r with
  | nil => exact .inl ⟨rfl, rfl⟩
  | @cons k' d v ds vs r' _ ih =>
    simp only [kvAt, valueAt, List.find?_cons] at ih ⊢
    by_cases e : k' = k
    · simp only [e, decide_true]; exact .inr ⟨d, v, rfl, rfl, r'⟩
    · simp only [e, decide_false]; exact ih
theorem RepKV.any {B : List Addr} {h : Heap} {K : Type} [DecidableEq K] {kvs : List (K × Val)} {ws} (r : RepKV B h kvs ws) (k : K) : (ws.any fun kv => kv.1 = k) = kvs.any fun kv => kv.1 = k := by
  induction r with
  | nil => rfl
  | cons _ _ ih => simp only [List.any_cons, ih]
theorem RepKV.append {B : List Addr} {h : Heap} {K : Type} {kvs kvs' : List (K × Val)} {ws ws'} (r : RepKV B h kvs ws) (r' : RepKV B h kvs' ws') : RepKV B h (kvs ++ kvs') (ws ++ ws') := by
  induction r with
  | nil => exact r'
  | cons a _ ih => exact .cons a ih
theorem RepKV.setAt {B : List Addr} {h : Heap} {K : Type} [DecidableEq K] {kvs : List (K × Val)} {ws} (r : RepKV B h kvs ws) (k : K) {d v} (rv : RepV B h d v) : RepKV B h (kvSet kvs k d) (stored ws k v) := by
  unfold kvSet stored
  rw [r.any k]
  split
  · induction r with
    | nil => exact .nil
    | @cons k' d' v' ds vs r' rs ih =>
      simp only [List.map_cons]
      by_cases e : k' = k
      · simp only [e, if_true]
        refine .cons rv ?_
        clear ih
        induction rs with
        | nil => exact .nil
        | @cons k'' d'' v'' ds vs r'' rs ih' =>
          simp only [List.map_cons]
          by_cases e'' : k'' = k
          · simp only [e'', if_true]; exact .cons rv (ih' (by simp [e]))
          · simp only [e'', if_false]; exact .cons r'' (ih' (by simp [e]))
      · simp only [e, if_false]
        rename_i hany
        exact .cons r' (ih (by simpa [e] using hany))
  · exact r.append (.cons rv .nil)
theorem isInt_self (i : Int) (t : Tok) : Value.isInt i (.int i t) = true := by simp [Value.isInt]
theorem isStrOf_self (x : Str) (t : Tok) : Value.isStrOf x (.str x t) = true := by simp [Value.isStrOf]
theorem not_sys (H : St C base ρ σ s) (h1 : (C.h₁.get? sysModules).isSome = true) {a : Addr} {o : MObj} (h : σ a = some o) : (a == sysModules) = false := by
  obtain ⟨o', ho⟩ := Option.isSome_iff_exists.mp h1
  have hb := H.b1 _ _ ho
  rw [beq_eq_false_iff_ne]
  rintro rfl
  rw [(H.store _ _ h).2.1] at hb; cases hb
theorem Bin.inIdict {k : Int} {a : Addr} {kvs : List (Int × Val)} (ha : σ a = some (.idict kvs)) (hm : (C.h₁.get? sysModules).isSome = true) (h : Q (.bool (kvAt kvs k).isSome) σ) : Bin C ρ σ (compareOp .In) (.int k) (.ref a) Q := by
  intro base s v₁ v₂ H r₁ r₂; simp only [RepV] at r₁ r₂; obtain ⟨t, rfl⟩ := r₁; subst r₂
  obtain ⟨ws, hd, rk⟩ := (H.store a _ ha).1
  refine wpAny_in_of (knd := intKind C.prog C.w) (k := k) (isInt_self k t) (not_sys H hm ha) hd.mapOf ?_
  have e : (valueAt ws k).isSome = (kvAt kvs k).isSome := by rcases rk.at k with ⟨h1, h2⟩ | ⟨d, v, h1, h2, _⟩ <;> rw [h1, h2] <;> rfl
  rw [e]
  exact Vp.here (H.toks _) (by simp [RepV]) h
theorem Bin.notInIdict {k : Int} {a : Addr} {kvs : List (Int × Val)} (ha : σ a = some (.idict kvs)) (hm : (C.h₁.get? sysModules).isSome = true) (h : Q (.bool (!(kvAt kvs k).isSome)) σ) : Bin C ρ σ (compareOp .NotIn) (.int k) (.ref a) Q := by
  intro base s v₁ v₂ H r₁ r₂; simp only [RepV] at r₁ r₂; obtain ⟨t, rfl⟩ := r₁; subst r₂
  obtain ⟨ws, hd, rk⟩ := (H.store a _ ha).1
  refine wpAny_notIn_of (knd := intKind C.prog C.w) (k := k) (isInt_self k t) (not_sys H hm ha) hd.mapOf ?_
  have e : (valueAt ws k).isSome = (kvAt kvs k).isSome := by rcases rk.at k with ⟨h1, h2⟩ | ⟨d, v, h1, h2, _⟩ <;> rw [h1, h2] <;> rfl
  rw [e]
  exact Vp.here (H.toks _) (by simp [RepV]) h
-- items
theorem seqIndex_nat (k n : Nat) (h : k < n) : seqIndex? (k : Int) n = some k := by
  unfold seqIndex?; simp; lia
theorem Bin.itemTup {o i : Expr} {xs : List Val} {k : Int} {d : Val} (h0 : 0 ≤ k) (hx : xs[k.toNat]? = some d) (h : Q d σ) (hsz : xs.length < 2 ^ 62)
    (hs : ∀ a b, subscripted i false a b = operate [a, b] (getItem a b) := by intro _ _; rfl) : Bin C ρ σ (subscriptTail o i) (.tup xs) (.int k) Q := by
  intro base s v₁ v₂ H r₁ r₂; simp only [RepV] at r₁ r₂; obtain ⟨a, vs, rfl, ht, _, rs⟩ := r₁; obtain ⟨u, rfl⟩ := r₂
  obtain ⟨v, hv, r⟩ := rs.get hx
  have hlt : k.toNat < vs.length := (List.getElem?_eq_some_iff.mp hv).1
  have hl := rs.length
  obtain ⟨j, rfl⟩ := Int.eq_ofNat_of_zero_le h0
  have hv' : vs[j]? = some v := hv
  have hlt' : j < vs.length := hlt
  exact tail_any (IsTup.typeIs (items := vs.toArray) ht) slot_tuple_getitem.lookup (getItem_tuple (items := vs.toArray) ht (by lia) (by lia) (by rw [List.size_toArray]; exact seqIndex_nat j _ hlt') (by simpa using hv') (Vp.here H r h)) (hs _ _)
theorem Bin.itemList {o i : Expr} {a : Addr} {xs : List Val} {k : Int} {d : Val} (ha : σ a = some (.list xs)) (h0 : 0 ≤ k) (hk : k < 2 ^ 62) (hx : xs[k.toNat]? = some d) (h : Q d σ)
    (hs : ∀ a b, subscripted i false a b = operate [a, b] (getItem a b) := by intro _ _; rfl) : Bin C ρ σ (subscriptTail o i) (.ref a) (.int k) Q := by
  intro base s v₁ v₂ H r₁ r₂; simp only [RepV] at r₁ r₂; subst r₁; obtain ⟨u, rfl⟩ := r₂
  obtain ⟨vs, hl, rs⟩ := (H.store a _ ha).1
  obtain ⟨v, hv, r⟩ := rs.get hx
  exact tail_any hl.isList.typeIs slot_list_getitem.lookup (wpAny_getItem_list hl.isList h0 (by lia) (by simpa using hv) (Vp.here H r h)) (hs _ _)
theorem Bin.itemIdict {o i : Expr} {a : Addr} {kvs : List (Int × Val)} {k : Int} {d : Val} (ha : σ a = some (.idict kvs)) (hx : kvAt kvs k = some d) (h : Q d σ)
    (hs : ∀ a b, subscripted i false a b = operate [a, b] (getItem a b) := by intro _ _; rfl) : Bin C ρ σ (subscriptTail o i) (.ref a) (.int k) Q := by
  intro base s v₁ v₂ H r₁ r₂; simp only [RepV] at r₁ r₂; subst r₁; obtain ⟨u, rfl⟩ := r₂
  obtain ⟨ws, hd, rk⟩ := (H.store a _ ha).1
  rcases rk.at k with ⟨h1, _⟩ | ⟨d', v, h1, h2, r⟩
  · rw [h1] at hx; cases hx
  · rw [h1] at hx; cases hx
    exact tail_any hd.mapOf.typeIs slot_dict_getitem.lookup (wpAny_getItem_of (knd := intKind C.prog C.w) (isInt_self k u) hd.mapOf h2 (Vp.here (H.toks _) r h)) (hs _ _)
theorem Bin.itemSdict {o i : Expr} {a : Addr} {kvs : List (Str × Val)} {k : Str} {d : Val} (ha : σ a = some (.sdict kvs)) (hx : kvAt kvs k = some d) (h : Q d σ)
    (hs : ∀ a b, subscripted i false a b = operate [a, b] (getItem a b) := by intro _ _; rfl) : Bin C ρ σ (subscriptTail o i) (.ref a) (.str k) Q := by
  intro base s v₁ v₂ H r₁ r₂; simp only [RepV] at r₁ r₂; subst r₁; obtain ⟨u, rfl⟩ := r₂
  obtain ⟨ws, hd, rk⟩ := (H.store a _ ha).1
  rcases rk.at k with ⟨h1, _⟩ | ⟨d', v, h1, h2, r⟩
  · rw [h1] at hx; cases hx
  · rw [h1] at hx; cases hx
    exact tail_any hd.mapOf.typeIs slot_dict_getitem.lookup (wpAny_getItem_of (knd := strKind C.prog C.w) (isStrOf_self k u) hd.mapOf h2 (Vp.here (H.toks _) r h)) (hs _ _)
end
end Mine
set_option tactic.hygienic false
namespace Mine
open PySem PySem.W PyProof.Rows PySem.Calls
section
variable {C : Cx} {base : Heap} {ρ : Vars} {σ : Store} {s : Shared} {Q : Out → Vars → Store → Prop} {X : XPost}
-- statements
theorem setItem_plain {prog : Program} {w : World} {A : Around} {E : Value → Shared → Prop} {s : Shared} {l : Addr} {items : Array Value} {k : Int} {t : Tok} {v : Value} {Q : Unit → Shared → Prop} (hl : s.heap.PlainList l items)
    (h0 : 0 ≤ k) (hfit : k < 2 ^ 63) (hn : k < items.size)
    (hQ : ∀ h', h'.PlainList l (items.setIfInBounds k.toNat v) → Heap.SameBut l s.heap h' → Q () { s with heap := h' }) :
    wpAny (model prog w) A (setItem (.ref l) (.int k t) v) Q E s := by
  obtain ⟨ne, ho⟩ := id hl
  have hl' := hl.isList
  unfold setItem
  try with_reducible refine wpAny_holding ?_
  first | refine wpAny_bind (wpAny_pure ?_) | skip
  refine wpAny_bind (wpAny_sequenceKey hl'.typeIs (by decide) ?_)
  refine wpAny_bind (wpAny_callSpecial?_slot (name := Str.ofString "__setitem__") hl'.typeIs slot_list_setitem
    (wpAny_call_entry slot_list_setitem hl'.typeIs entry_list_setitem ?_ (args_list_setitem _ _ _)))
  show wpAny _ _ (Builtin.List.listSubscript? (.int k t) >>= _) _ _ s
  refine wpAny_bind (wpAny_listSubscript_int (fitsIndex_of h0 hfit) ?_)
  clear hfit
  obtain ⟨j, rfl⟩ := Int.eq_ofNat_of_zero_le h0
  have hj : j < items.size := by lia
  have hx' : items[j]? = some items[j] := Array.getElem?_eq_getElem hj
  show wpAny _ _ ((seqItemAt l j >>= fun r => pure (r.map (j, ·))) >>= _) _ _ s
  refine wpAny_bind (wpAny_bind (wpAny_seqItemAt ho rfl (wpAny_pure ?_)))
  rw [hx']
  show wpAny _ _ (setSeqItemAt l j v >>= _) _ _ s
  have e : Obj.mapSeq (·.setIfInBounds j v) { cls := .type "list", data := .seq items ne } = { cls := .type "list", data := .seq (items.setIfInBounds j v) ne } := by simp [Obj.mapSeq]
  have hfin : (s.heap.update l (Obj.mapSeq (·.setIfInBounds j v))).PlainList l (items.setIfInBounds j v) :=
    ⟨ne, by rw [Heap.get?_update_self _ ho (by rw [e]; rfl), e]⟩
  refine wpAny_bind (wpAny_setSeqItemAt ho rfl ?_)
  first
    | exact wpAny_bind (wpAny_pure (wpAny_pure ⟨.none, rfl, wpAny_pure (hQ _ hfin (Heap.SameBut.update ..))⟩))
    | exact wpAny_pure ⟨.none, rfl, wpAny_pure (hQ _ hfin (Heap.SameBut.update ..))⟩
noncomputable def Fp (C : Cx) (base : Heap) (Q : Out → Vars → Store → Prop) : Flow → Shared → Prop := fun f s' => ∃ o ρ' σ', St C base ρ' σ' s' ∧ RepF C.bad s'.heap o f ∧ Q o ρ' σ'
theorem Ex1.intro {b : Stmt} (h : ∀ base s, St C base ρ σ s → wpAny C.M C.A (exec b C.env) (Fp C base Q) (Xp C base X) s) : Ex1 C ρ σ b Q X :=
  fun base s H => wpAny_mono (h base s H) (fun f s' ⟨o, ρ', σ', a, r, q⟩ => ⟨ρ', σ', a, o, r, q⟩) fun z9a z9b x => x
theorem Ex.intro {b : List Stmt} (h : ∀ base s, St C base ρ σ s → wpAny C.M C.A (execs b C.env) (Fp C base Q) (Xp C base X) s) : Ex C ρ σ b Q X :=
  fun base s H => wpAny_mono (h base s H) (fun f s' ⟨o, ρ', σ', a, r, q⟩ => ⟨ρ', σ', a, o, r, q⟩) fun z9a z9b x => x
theorem Ex1.run {b : Stmt} (h : Ex1 C ρ σ b Q X) (H : St C base ρ σ s) {Q' : Flow → Shared → Prop} {E' : Value → Shared → Prop}
    (hQ : ∀ f o ρ' σ' s', St C base ρ' σ' s' → Pers C σ s s' → RepF C.bad s'.heap o f → Q o ρ' σ' → Q' f s') (hX : ∀ e s', Xp C base X e s' → E' e s') : wpAny C.M C.A (exec b C.env) Q' E' s :=
  Tp.run h H (fun f ρ' σ' s' H' P ⟨o, r, q⟩ => hQ f o ρ' σ' s' H' P r q) fun e c ρ' σ' s' x H' z9a q => hX _ _ ⟨c, ρ', σ', x, H', q⟩
theorem Ex.run {b : List Stmt} (h : Ex C ρ σ b Q X) (H : St C base ρ σ s) {Q' : Flow → Shared → Prop} {E' : Value → Shared → Prop}
    (hQ : ∀ f o ρ' σ' s', St C base ρ' σ' s' → Pers C σ s s' → RepF C.bad s'.heap o f → Q o ρ' σ' → Q' f s') (hX : ∀ e s', Xp C base X e s' → E' e s') : wpAny C.M C.A (execs b C.env) Q' E' s :=
  Tp.run h H (fun f ρ' σ' s' H' P ⟨o, r, q⟩ => hQ f o ρ' σ' s' H' P r q) fun e c ρ' σ' s' x H' z9a q => hX _ _ ⟨c, ρ', σ', x, H', q⟩
theorem Ex.nil (h : Q .next ρ σ) : Ex C ρ σ [] Q X := Ex.intro fun z9a s H => wpAny_execs_nil ⟨.next, ρ, σ, H, by simp [RepF], h⟩
/-- what is asked and the names are given short names of their own -/
theorem Ex.lq {b} (h : let Q' := Q; Ex C ρ σ b Q' X) : Ex C ρ σ b Q X := h
theorem Ex.lr {b} (h : let Q' := Q; let ρ' := ρ; Ex C ρ' σ b Q' X) : Ex C ρ σ b Q X := h
/-- what is asked after a statement, the rest following -/
noncomputable abbrev Seq (C : Cx) (rest : List Stmt) (Q : Out → Vars → Store → Prop) (X : XPost) : Out → Vars → Store → Prop := fun o ρ' σ' => match o with | .next => Ex C ρ' σ' rest Q X | o => Q o ρ' σ'
noncomputable abbrev Br (C : Cx) (ρ : Vars) (b o : List Stmt) (Q : Out → Vars → Store → Prop) (X : XPost) : Bool → Store → Prop := fun c σ' => (c = true → Ex C ρ σ' b Q X) ∧ (c = false → Ex C ρ σ' o Q X)
noncomputable abbrev RetP (ρ : Vars) (Q : Out → Vars → Store → Prop) : Val → Store → Prop := fun d σ' => Q (.ret d) ρ σ'
noncomputable abbrev NextP (Q : Out → Vars → Store → Prop) : Vars → Store → Prop := Q .next
theorem Ex.cons {b rest} (h : Ex1 C ρ σ b (Seq C rest Q X) X) : Ex C ρ σ (b :: rest) Q X :=
  Ex.intro fun z9a s H => wpAny_execs_cons (h.run H (fun f o ρ' σ' s' H' P r q => by
    cases o with
    | next => simp only [RepF] at r; subst r; exact q.run H' (fun f o ρ' σ' s' H' P r q => ⟨o, ρ', σ', H', r, q⟩) fun z9a z9b x => x
    | brk => have q : Q .brk ρ' σ' := q; simp only [RepF] at r; subst r; exact ⟨.brk, ρ', σ', H', by simp [RepF], q⟩
    | cont => have q : Q .cont ρ' σ' := q; simp only [RepF] at r; subst r; exact ⟨.cont, ρ', σ', H', by simp [RepF], q⟩
    | ret v => have q : Q (.ret v) ρ' σ' := q; have r0 := r; simp only [RepF] at r; obtain ⟨u, rfl, r⟩ := r; exact ⟨.ret v, ρ', σ', H', r0, q⟩) fun z9a z9b x => x)
theorem Ex1.mono {b} {Q' : Out → Vars → Store → Prop} (h : Ex1 C ρ σ b Q X) (hq : ∀ o ρ' σ', Q o ρ' σ' → Q' o ρ' σ') : Ex1 C ρ σ b Q' X :=
  Tp.mono h (fun _ _ _ _ ⟨o, r, q⟩ => ⟨o, r, hq _ _ _ q⟩) fun z9a z9b z9c x => x
theorem Ex.mono {b} {Q' : Out → Vars → Store → Prop} (h : Ex C ρ σ b Q X) (hq : ∀ o ρ' σ', Q o ρ' σ' → Q' o ρ' σ') : Ex C ρ σ b Q' X :=
  Tp.mono h (fun _ _ _ _ ⟨o, r, q⟩ => ⟨o, r, hq _ _ _ q⟩) fun z9a z9b z9c x => x
theorem Ex1.ite {t b o pos} (h : Tst C ρ σ t (Br C ρ b o Q X) X) : Ex1 C ρ σ (.If t b o pos) Q X :=
  Ex1.intro fun z9a s H => wpAny_If (h.run H (fun c σ' s' H' _ ⟨q1, q2⟩ => by
    cases c
    · exact (q2 rfl).run H' (fun f o ρ' σ' s' H' P r q => ⟨o, ρ', σ', H', r, q⟩) fun z9a z9b x => x
    · exact (q1 rfl).run H' (fun f o ρ' σ' s' H' P r q => ⟨o, ρ', σ', H', r, q⟩) fun z9a z9b x => x) fun z9a z9b x => x)
theorem Ex1.ret {e pos} (h : Ev C ρ σ e (RetP ρ Q) X) : Ex1 C ρ σ (.Return (some e) pos) Q X :=
  Ex1.intro fun z9a s H => wpAny_Return_some (h.run H (fun v d σ' s' H' z9a r q => ⟨.ret d, ρ, σ', H', by simp only [RepF]; exact ⟨v, rfl, r⟩, q⟩) fun z9a z9b x => x)
theorem Ex1.expr {e pos} (h : Ev C ρ σ e (fun d σ' => Q .next ρ σ') X) (hs : swapsWith e none pos.line C.env = pure false := by rfl) : Ex1 C ρ σ (.Expr e pos) Q X :=
  Ex1.intro fun z9a s H => wpAny_Expr_any (h.run H (fun v d σ' s' H' z9a r q => ⟨.next, ρ, σ', H', by simp [RepF], q⟩) fun z9a z9b x => x) (by unfold interactive; rw [H.ok.kind]; rfl) hs
/-- a target is given a value -/
noncomputable def As (C : Cx) (ρ : Vars) (σ : Store) (t : Expr) (d : Val) (Q : Vars → Store → Prop) (X : XPost) : Prop :=
  ∀ base s v, St C base ρ σ s → RepV C.bad s.heap d v → wpAny C.M C.A (assign t C.env v) (fun z9a s' => ∃ ρ' σ', St C base ρ' σ' s' ∧ Q ρ' σ') (Xp C base X) s
noncomputable def Ass (C : Cx) (ρ : Vars) (σ : Store) (ts : List Expr) (ds : List Val) (Q : Vars → Store → Prop) (X : XPost) : Prop :=
  ∀ base s vs, St C base ρ σ s → RepVs C.bad s.heap ds vs → wpAny C.M C.A (assignInOrder ((assignEach ts C.env).map (·.2)) vs) (fun z9a s' => ∃ ρ' σ', St C base ρ' σ' s' ∧ Q ρ' σ') (Xp C base X) s
variable {T : Vars → Store → Prop} {t : Expr} {d : Val}
theorem As.run (h : As C ρ σ t d T X) (H : St C base ρ σ s) {v : Value} (r : RepV C.bad s.heap d v) {Q' : Unit → Shared → Prop} {E' : Value → Shared → Prop}
    (hQ : ∀ ρ' σ' s', St C base ρ' σ' s' → Pers C σ s s' → T ρ' σ' → Q' () s') (hX : ∀ e s', Xp C base X e s' → E' e s') : wpAny C.M C.A (assign t C.env v) Q' E' s := by
  have pers : ∀ {ρ' σ' s'}, St C (wipe s.heap (C.Loose σ)) ρ' σ' s' → Pers C σ s s' := fun H' =>
    ⟨fun a items t => (TupKeep.of_keeps H'.b2) a items (H.tuples a items t), fun b o e hn => H'.b2 b o (wipe_get.mpr ⟨hn, e⟩)⟩
  refine wpAny_mono (h _ s v H.rebase r) ?_ ?_
  · rintro _ s' ⟨ρ', σ', H', q⟩
    exact hQ ρ' σ' s' (H'.narrow H.b1 H.base_in) (pers H') q
  · rintro e s' ⟨c, ρ', σ', x, H', q⟩
    exact hX e s' ⟨c, ρ', σ', x.narrow H.base_in, H'.narrow H.b1 H.base_in, q⟩
theorem store_local2 (H : St C base ρ σ s) {x : Str} {v : Value} (r : RepV C.bad s.heap d v) (hx : C.env.kindOf x = some .local) {Q' : Unit → Shared → Prop} {E'}
    (h : ∀ h' t, St C base (ρ.set x d) σ { s with heap := h', toks := t } → Heap.SameBut C.env.locals s.heap h' → Q' () { s with heap := h', toks := t }) : wpAny C.M C.A (storeName C.env x v) Q' E' s := by
  obtain ⟨m, hn, _⟩ := id H.ns
  refine wpAny_storeName_local hx hn (fun h' hn' hs => h _ _ ?_ hs) (by rw [H.ok.kind]; rfl)
  refine H.setLocal r hs (fun m' hm' => ?_) hx
  obtain ⟨o, es, ep, ho, hd, hk, hf⟩ := hn
  obtain ⟨o', es', ep', ho', hd', hk', hf'⟩ := hm'
  rw [ho] at ho'; cases ho'; rw [hd] at hd'; cases hd'
  have : m = m' := funext fun z => by rw [← hf z, ← hf' z]
  subst this; exact hn'
theorem store_local (H : St C base ρ σ s) {x : Str} {v : Value} (r : RepV C.bad s.heap d v) (hx : C.env.kindOf x = some .local) {Q' : Unit → Shared → Prop} {E'}
    (h : ∀ h' t, St C base (ρ.set x d) σ { s with heap := h', toks := t } → Q' () { s with heap := h', toks := t }) : wpAny C.M C.A (storeName C.env x v) Q' E' s :=
  store_local2 H r hx fun h' t a z9a => h h' t a
theorem store_cell (H : St C base ρ σ s) {x : Str} {v : Value} (r : RepV C.bad s.heap d v) (hx : C.env.kindOf x = some .cell) {Q' : Unit → Shared → Prop} {E'}
    (h : ∀ h' t, St C base (ρ.set x d) σ { s with heap := h', toks := t } → Q' () { s with heap := h', toks := t }) : wpAny C.M C.A (storeName C.env x v) Q' E' s := by
  obtain ⟨c, hc⟩ := Option.isSome_iff_exists.mp (H.allcells x (.inl hx))
  obtain ⟨u, h1, h2⟩ := H.cells x c hc
  exact wpAny_storeName_cell H.ok.kind hx hc h1 fun h' hn hs => h h' s.toks (H.setCell (t := s.toks) r hc hs hn hx)
theorem As.local {x pos} (hx : C.env.kindOf x = some .local) (h : T (ρ.set x d) σ) : As C ρ σ (.Name x pos) d T X :=
  fun base s v H r => wpAny_assign_Name (store_local H r hx fun h' t H' => ⟨_, _, H', h⟩)
theorem As.cell {x pos} (hx : C.env.kindOf x = some .cell) (h : T (ρ.set x d) σ) : As C ρ σ (.Name x pos) d T X :=
  fun base s v H r => wpAny_assign_Name (store_cell H r hx fun h' t H' => ⟨_, _, H', h⟩)
theorem Ass.nil (h : T ρ σ) : Ass C ρ σ [] [] T X := fun base s vs H r => by
  simp only [RepVs] at r; subst r; exact wpAny_assignInOrder_none ⟨_, _, H, h⟩
noncomputable abbrev AssP (C : Cx) (ts : List Expr) (ds : List Val) (T : Vars → Store → Prop) (X : XPost) : Vars → Store → Prop := fun ρ' σ' => Ass C ρ' σ' ts ds T X
theorem Ass.cons {ts : List Expr} {ds : List Val} (h : As C ρ σ t d (AssP C ts ds T X) X) (ht : assignEach (t :: ts) C.env = (false, assign t C.env) :: assignEach ts C.env := by rfl) :
    Ass C ρ σ (t :: ts) (d :: ds) T X := fun base s vs H r => by
  simp only [RepVs] at r
  obtain ⟨v, ws, rfl, r1, r2⟩ := r
  rw [ht]
  exact wpAny_assignInOrder_more (h.run H r1 (fun ρ' σ' s' H' P q => q _ _ _ H' (P.reps r2)) fun z9a z9b x => x)
theorem RepVs.toArray_size {B : List Addr} {h : Heap} {ds vs} (r : RepVs B h ds vs) : (List.toArray vs).size = ds.length := by rw [List.size_toArray]; exact r.length
theorem ext_of {h h' : Heap} (x : Heap.ExtBut h.objs.size h h') : ∀ b o, h.get? b = some o → h'.get? b = some o := fun b o e => x b o (Nat.ne_of_lt (Heap.lt_size e)) e
theorem As.tuple {ts : List Expr} {ds : List Val} {k pos} (hq : C.quiet = true) (h : Ass C ρ σ ts ds T X) (hn : (assignEach ts C.env).length = ds.length) (hs : (assignEach ts C.env).findIdx? (·.1) = none) :
    As C ρ σ (.Tuple ts k pos) (.tup ds) T X := fun base s v H r => by
  simp only [RepV] at r
  obtain ⟨a, vs, rfl, ht, _, rs⟩ := r
  refine wpAny_assign_Tuple (H.ok.calm hq) ht (by rw [rs.toArray_size]; exact hn) hs fun h' he => ?_
  rw [List.toList_toArray]
  exact h _ _ _ (H.grow (ext_of he)) (rs.keep (.of_keeps (ext_of he)))
theorem As.item {o i : Expr} {pos} (h : Ev C ρ σ o (fun d₁ σ₁ => Ev C ρ σ₁ i (fun d₂ σ₂ => ∀ base s v₁ v₂ v, St C base ρ σ₂ s → RepV C.bad s.heap d₁ v₁ → RepV C.bad s.heap d₂ v₂ → RepV C.bad s.heap d v →
    wpAny C.M C.A (setItem v₁ v₂ v) (fun z9a s' => ∃ σ', St C base ρ σ' s' ∧ T ρ σ') (fun z9a z9b => False) s) X) X) : As C ρ σ (.Subscript o i pos) d T X := fun base s v H r => by
  intro Γ p hΓ
  simp only [assign_Subscript, Sem.wp_bind', Sem.wp_holding, Sem.wp_cmd_standAt, Sem.wp_release, Sem.wp_pure']
  have key : wpAny C.M C.A (eval o C.env) (fun ov s₂ => wpAny C.M C.A (eval i C.env) (fun iv s₃ => wpAny C.M C.A (setItem ov iv v) (fun z9a s' => ∃ ρ' σ', St C base ρ' σ' s' ∧ T ρ' σ') (Xp C base X) s₃) (Xp C base X) s₂) (Xp C base X) s :=
    h.run H (fun v₁ d₁ σ₁ s₁ H₁ P₁ r₁ h₁ => h₁.run H₁ (fun v₂ d₂ σ₂ s₂ H₂ P₂ r₂ h₂ => wpAny_mono (h₂ _ _ _ _ _ H₂ (P₂.rep r₁) r₂ (P₂.rep (P₁.rep r))) (fun _ _ ⟨σ', a, b⟩ => ⟨ρ, σ', a, b⟩) fun z9a z9b x => x.elim) fun z9a z9b x => x) fun z9a z9b x => x
  exact Sem.wp_mono C.M Γ _ (fun ov p₂ s₂ h₂ => Sem.wp_mono C.M Γ _ (fun iv z9a s₃ h₃ => h₃ Γ _ hΓ) (fun z9a z9b z9c h' => h') _ _ (h₂ Γ p₂ hΓ)) (fun z9a z9b z9c h' => h') _ _ (key Γ p hΓ)
noncomputable abbrev AsP (C : Cx) (ρ : Vars) (t : Expr) (T : Vars → Store → Prop) (X : XPost) : Val → Store → Prop := fun d σ₁ => As C ρ σ₁ t d T X
theorem Ex1.assign {value : Expr} {pos} (h : Ev C ρ σ value (AsP C ρ t (NextP Q) X) X)
    (hs : swapsWithSole [t] value pos.line C.env = pure false := by rfl) (hw : swappedStores [t] value C.env = pure none := by rfl)
    (ht : assignEach [t] C.env = [(false, assign t C.env)] := by rfl) : Ex1 C ρ σ (.Assign [t] value pos) Q X :=
  Ex1.intro fun z9a s H => wpAny_Assign_stores (h.run H (fun v d σ₁ s₁ H₁ P₁ r₁ h₁ => by
    rw [ht]
    exact h₁.run H₁ r₁ (fun ρ' σ' s' H' P q => ⟨.next, ρ', σ', H', by simp [RepF], q⟩) fun z9a z9b x => x) fun z9a z9b x => x) hs hw
/-- storing into lists and dicts -/
noncomputable def Sti (C : Cx) (ρ : Vars) (σ : Store) (d₁ d₂ d : Val) (T : Vars → Store → Prop) : Prop := ∀ base s v₁ v₂ v, St C base ρ σ s → RepV C.bad s.heap d₁ v₁ → RepV C.bad s.heap d₂ v₂ → RepV C.bad s.heap d v →
    wpAny C.M C.A (setItem v₁ v₂ v) (fun z9a s' => ∃ σ', St C base ρ σ' s' ∧ T ρ σ') (fun z9a z9b => False) s
noncomputable abbrev StiP (C : Cx) (ρ : Vars) (d₁ d : Val) (T : Vars → Store → Prop) : Val → Store → Prop := fun d₂ σ₂ => Sti C ρ σ₂ d₁ d₂ d T
noncomputable abbrev ItP (C : Cx) (ρ : Vars) (i : Expr) (d : Val) (T : Vars → Store → Prop) (X : XPost) : Val → Store → Prop := fun d₁ σ₁ => Ev C ρ σ₁ i (StiP C ρ d₁ d T) X
theorem As.item' {o i : Expr} {pos} (h : Ev C ρ σ o (ItP C ρ i d T X) X) : As C ρ σ (.Subscript o i pos) d T X := As.item h
theorem Sti.list {a : Addr} {xs : List Val} {k : Int} (ha : σ a = some (.list xs)) (h0 : 0 ≤ k) (hk : k < xs.length) (hz : xs.length < 2 ^ 60) (h : T ρ (σ.set a (.list (xs.set k.toNat d)))) : Sti C ρ σ (.ref a) (.int k) d T := by
  intro base s v₁ v₂ v H r₁ r₂ r; simp only [RepV] at r₁ r₂; subst r₁; obtain ⟨u, rfl⟩ := r₂
  obtain ⟨vs, hl, rs⟩ := (H.store a _ ha).1
  have hlen := rs.length
  refine setItem_plain hl h0 (by lia) (by rw [List.size_toArray, hlen]; exact hk) fun h' hl' hs => ⟨_, (H.upd (o' := .list (xs.set k.toNat d)) (t := s.toks) ha hs fun tk => ⟨vs.set k.toNat v, ?_, (rs.keep tk).set (r.keep tk)⟩).1, h⟩
  have : (List.toArray vs).setIfInBounds k.toNat v = List.toArray (vs.set k.toNat v) := by simp
  rwa [this] at hl'
theorem Sti.idict {a : Addr} {kvs : List (Int × Val)} {k : Int} (ha : σ a = some (.idict kvs)) (hz : kvs.length ≤ 1000) (h : T ρ (σ.set a (.idict (kvSet kvs k d)))) : Sti C ρ σ (.ref a) (.int k) d T := by
  intro base s v₁ v₂ v H r₁ r₂ r; simp only [RepV] at r₁ r₂; subst r₁; obtain ⟨u, rfl⟩ := r₂
  obtain ⟨ws, hd, rk⟩ := (H.store a _ ha).1
  have hlen := rk.length
  exact wpAny_setItem_pairs (knd := intKind C.prog C.w) (isInt_self k u) hd (fun h' hd' hs => ⟨_, (H.upd (o' := .idict (kvSet kvs k d)) (t := s.toks + 1) ha hs fun tk => ⟨_, hd', (rk.keep tk).setAt k (r.keep tk)⟩).1, h⟩) (by show ws.length ≤ 2 ^ 24; lia)
theorem Sti.sdict {a : Addr} {kvs : List (Str × Val)} {k : Str} (ha : σ a = some (.sdict kvs)) (hz : kvs.length ≤ 1000) (h : T ρ (σ.set a (.sdict (kvSet kvs k d)))) : Sti C ρ σ (.ref a) (.str k) d T := by
  intro base s v₁ v₂ v H r₁ r₂ r; simp only [RepV] at r₁ r₂; subst r₁; obtain ⟨u, rfl⟩ := r₂
  obtain ⟨ws, hd, rk⟩ := (H.store a _ ha).1
  have hlen := rk.length
  exact wpAny_setItem_pairs (knd := strKind C.prog C.w) (isStrOf_self k u) hd (fun h' hd' hs => ⟨_, (H.upd (o' := .sdict (kvSet kvs k d)) (t := s.toks + 1) ha hs fun tk => ⟨_, hd', (rk.keep tk).setAt k (r.keep tk)⟩).1, h⟩) (by show ws.length ≤ 2 ^ 24; lia)
end
end Mine
set_option tactic.hygienic false
namespace Mine
open PySem PySem.W PyProof.Rows PySem.Calls
/-- a def's own frame (a comprehension's is not one) -/
noncomputable def Cx.Fn (C : Cx) : Prop := C.env.frame = some C.env.locals ∧ ∃ outer, C.A.frames = some (C.env :: outer)
section
variable {C : Cx} {base : Heap} {ρ : Vars} {σ : Store} {s : Shared} {X : XPost}
/-- what a note in a traceback may change: frames' slots, the exception's own objects -/
noncomputable def NotedX (C : Cx) (a : Addr) (T : Option Addr) (h h' : Heap) : Prop :=
  (∀ b o, h.get? b = some o → b ≠ C.env.locals → (∀ p ∈ C.frs, p.1 ≠ b) → b ≠ a → some b ≠ T → h'.get? b = some o) ∧
  ∀ b o, h.get? b = some o → (∀ vs, o.data ≠ .fields vs) → ∃ sl, h'.get? b = some { o with slots := sl }
theorem RepO.notFields {prog w B h a vs} {o : MObj} {ob : Obj} (x : RepO prog w B h a o) (e : h.get? a = some ob) (hd : ob.data = .fields vs) : False := by
  obtain ⟨ob', h1, h2, _⟩ := x.there
  rw [e] at h1; cases h1; exact h2 _ hd
/-- the state stands behind a note -/
theorem St.noted (H : St C base ρ σ s) {a : Addr} {T : Option Addr} {h' : Heap} {oa : Obj} {va} (N : NotedX C a T s.heap h') (ha : s.heap.get? a = some oa) (hda : oa.data = .fields va) (hca : oa.cls ≠ .type "tuple") (hb : base.get? a = none)
    (hT : ∀ t, T = some t → base.get? t = none ∧ ∃ o vs, s.heap.get? t = some o ∧ o.data = .fields vs) : St C base ρ σ { s with heap := h' } := by
  obtain ⟨N1, N2⟩ := N
  -- a thing that is no record, no frame, stays as it is
  have keep : ∀ b o, s.heap.get? b = some o → (∀ vs, o.data ≠ .fields vs) → b ≠ C.env.locals → (∀ p ∈ C.frs, p.1 ≠ b) → h'.get? b = some o := fun b o e hn h1 h2 => by
    refine N1 b o e h1 h2 (fun q => ?_) (fun q => ?_)
    · subst q; rw [ha] at e; cases e; exact hn _ hda
    · obtain ⟨_, o', vs, e', hd⟩ := hT b q.symm; rw [e'] at e; cases e; exact hn _ hd
  have tk : TupKeep s.heap h' := fun b items t => by
    obtain ⟨o, ho, hc, n, hd⟩ := t
    obtain ⟨sl, hs⟩ := N2 b o ho (fun vs q => by rw [hd] at q; cases q)
    exact ⟨_, hs, hc, n, hd⟩
  refine ⟨H.ok, H.gens, H.os, H.b1, fun b o e => ?_, ?_, ?_, H.allcells, ?_, H.own, H.ownc, ?_, ?_⟩
  · refine N1 b o (H.b2 b o e) (fun q => by subst q; rw [H.own] at e; cases e) (fun p hp q => by subst q; rw [(H.frs p hp).2.1] at e; cases e) (fun q => by subst q; rw [hb] at e; cases e) (fun q => by rw [(hT b q.symm).1] at e; cases e)
  · obtain ⟨m, hn, y⟩ := H.ns
    exact ⟨m, Heap.UpToSlots.ns (fun b o e hd => N2 b o e hd) hn, fun x v e l => let ⟨u, h1, h2⟩ := y x v e l; ⟨u, h1, h2.keep tk⟩⟩
  · intro x c e
    obtain ⟨u, h1, h2⟩ := H.cells x c e
    refine ⟨u, ?_, fun v hv hk => let ⟨u', e1, r⟩ := h2 v hv hk; ⟨u', e1, r.keep tk⟩⟩
    obtain ⟨o, ho, hd⟩ := h1
    obtain ⟨sl, hs⟩ := N2 c o ho (fun vs q => by rw [hd] at q; cases q)
    exact ⟨_, hs, hd⟩
  · intro b hb'
    obtain ⟨h1, items, x⟩ := H.bad b hb'
    exact ⟨h1, items, tk _ _ x⟩
  · intro p hp
    obtain ⟨⟨sl, h1⟩, h2, ⟨es, ep, hd⟩, h4⟩ := H.frs p hp
    obtain ⟨sl', hs⟩ := N2 p.1 _ h1 (fun vs q => by have q : p.2.data = .fields vs := q; rw [hd] at q; cases q)
    exact ⟨⟨sl', hs⟩, h2, ⟨es, ep, hd⟩, h4⟩
  · intro b ob e
    obtain ⟨h1, h2⟩ := H.store b ob e
    refine ⟨h1.keep tk fun o ho => ?_, h2⟩
    obtain ⟨ob', h3, h4, _⟩ := h1.there
    rw [ho] at h3; cases h3
    exact keep b o ho h4 h2.2.1 h2.2.2
theorem funFrames_of {h B : Heap} : ∀ {l : List Env}, (∀ e ∈ l, e.scope.kind ≠ .module ∧ ∃ L o, e.frame = some L ∧ B.get? L = none ∧ h.get? L = some o ∧ ∀ vs, o.data ≠ .fields vs) → h.FunFrames B l
  | [], _ => trivial
  | e :: l, x => ⟨(x e List.mem_cons_self).1, (x e List.mem_cons_self).2, funFrames_of fun e' he => x e' (List.mem_cons_of_mem _ he)⟩
theorem wipe_none {h : Heap} {P : Addr → Prop} {b : Addr} (x : P b) : (wipe h P).get? b = none := by
  cases q : (wipe h P).get? b with
  | none => rfl
  | some o => exact absurd x (wipe_get.mp q).1
theorem St.funFrames (H : St C base ρ σ s) {l : List Env} (hl : C.A.frames = some l) {P : Addr → Prop} (h1 : P C.env.locals) (h2 : ∀ p ∈ C.frs, P p.1) : s.heap.FunFrames (wipe s.heap P) l := by
  refine funFrames_of fun e he => ?_
  obtain ⟨hk, L, hL, hc⟩ := H.ok.stack l hl e he
  refine ⟨hk, L, ?_⟩
  rcases hc with rfl | ⟨o, ho⟩
  · obtain ⟨m, ⟨o, es, ep, ho, hd, _⟩, _⟩ := H.ns
    exact ⟨o, hL, wipe_none h1, ho, fun vs q => by rw [hd] at q; cases q⟩
  · obtain ⟨⟨sl, hs⟩, _, ⟨es, ep, hd⟩, _⟩ := H.frs _ ho
    exact ⟨_, hL, wipe_none (h2 _ ho), hs, fun vs q => by have q : o.data = .fields vs := q; rw [hd] at q; cases q⟩
/-- an exception that has a traceback; fl: where it is in flight -/
noncomputable def ExnF (base : Heap) (e : Value) (c : Addr) (fl : Value) (h : Heap) : Prop := ∃ a a0, e = .ref a ∧ base.get? a = none ∧ h.TracedAtW base a (.ref c) a0 fl
theorem TracedAtW.rebase {h B base : Heap} {e : Addr} {cls a0 fl : Value} (x : h.TracedAtW B e cls a0 fl) (no : ∀ b, B.get? b = none → base.get? b = none) : h.TracedAtW base e cls a0 fl := by
  obtain ⟨oe, vs, T, oT, ts, k1, k2, k3, k4, k5, k6⟩ := x
  exact ⟨oe, vs, T, oT, ts, k1, k2, k3, k4, no _ k5, k6⟩
theorem note_exn (H : St C base ρ σ s) (hF : C.Fn) {e : Value} {c : Addr} (x : Exn base C.env.locals e c s.heap) {Q : Unit → Shared → Prop} {E : Value → Shared → Prop}
    (h : ∀ s', St C base ρ σ s' → ExnF base e c (rawInt C.env.locals) s'.heap → Q () s') : wpAny C.M C.A (noteFrame e C.env) Q E s := by
  obtain ⟨hf, outer, hfr⟩ := hF
  obtain ⟨a, a0, rfl, hb, x⟩ := x
  rcases x with ⟨oe, vs, he, hc, hd, h0, h1⟩ | ⟨fl, rfl | rfl, tr⟩
  · -- the first note
    let P : Addr → Prop := fun b => b = C.env.locals ∨ (∃ p ∈ C.frs, p.1 = b) ∨ b = a
    have hP : ∀ b, (wipe s.heap P).get? b = none → base.get? b = none := fun b hn => by
      cases q : base.get? b with
      | none => rfl
      | some o =>
        have : (wipe s.heap P).get? b = some o := wipe_get.mpr ⟨(fun z => by
          rcases z with rfl | ⟨p, hp, rfl⟩ | rfl
          · rw [H.own] at q; cases q
          · rw [(H.frs p hp).2.1] at q; cases q
          · rw [hb] at q; cases q), H.b2 _ _ q⟩
        rw [this] at hn; cases hn
    unfold noteFrame
    simp only [hf]
    refine wpAny_bind (wpAny_field he hd h1 ?_)
    rw [if_neg (by decide)]
    refine wpAny_entryW (base := wipe s.heap P) hfr (H.funFrames hfr (.inl rfl) fun p hp => .inr (.inl ⟨p, hp, rfl⟩)) hf he (fun b o q => (wipe_get.mp q).2) (wipe_none (.inr (.inr rfl))) hd (Array.getElem?_eq_some_iff.mp h1).1 h0 fun h' N => ?_
    obtain ⟨n1, n2, n3, n4⟩ := N
    rw [hc] at n3
    refine h _ (H.noted (T := none) ⟨fun b o e k1 k2 k3 z9a => n1 b o (wipe_get.mpr ⟨fun z => by
          rcases z with rfl | ⟨p, hp, rfl⟩ | rfl
          · exact k1 rfl
          · exact k2 p hp rfl
          · exact k3 rfl, e⟩), n4⟩ he hd (by rw [hc]; intro q; cases q) hb (fun t q => by cases q)) ⟨a, a0, rfl, hb, TracedAtW.rebase n3 hP⟩
  · -- a further note
    obtain ⟨oe, vs, T, oT, ts, he, hc0, hd, hv1, hT0, hTa, hT, hTd, h3⟩ := id tr
    let P : Addr → Prop := fun b => b = C.env.locals ∨ (∃ p ∈ C.frs, p.1 = b) ∨ b = a ∨ b = T
    have hP : ∀ b, (wipe s.heap P).get? b = none → base.get? b = none := fun b hn => by
      cases q : base.get? b with
      | none => rfl
      | some o =>
        have : (wipe s.heap P).get? b = some o := wipe_get.mpr ⟨(fun z => by
          rcases z with rfl | ⟨p, hp, rfl⟩ | rfl | rfl
          · rw [H.own] at q; cases q
          · rw [(H.frs p hp).2.1] at q; cases q
          · rw [hb] at q; cases q
          · rw [hT0] at q; cases q), H.b2 _ _ q⟩
        rw [this] at hn; cases hn
    refine wpAny_noteFrame_onW (base := wipe s.heap P) (a0 := a0) (cls := .ref c) hfr (H.funFrames hfr (.inl rfl) fun p hp => .inr (.inl ⟨p, hp, rfl⟩)) hf
      ⟨oe, vs, T, oT, ts, he, hc0, hd, hv1, wipe_none (.inr (.inr (.inr rfl))), hTa, hT, hTd, h3⟩ (fun b o q => (wipe_get.mp q).2) (wipe_none (.inr (.inr (.inl rfl)))) fun h' N => ?_
    obtain ⟨n1, n2, n3, n4⟩ := N
    refine h _ (H.noted (T := some T) ⟨fun b o e k1 k2 k3 k4 => n1 b o (wipe_get.mpr ⟨fun z => by
          rcases z with rfl | ⟨p, hp, rfl⟩ | rfl | rfl
          · exact k1 rfl
          · exact k2 p hp rfl
          · exact k3 rfl
          · exact k4 rfl, e⟩), n4⟩ he hd (by rw [hc0.1]; intro q; cases q) hb (fun t q => by cases q; exact ⟨hT0, oT, ts, hT, hTd⟩)) ⟨a, a0, rfl, hb, TracedAtW.rebase n3 hP⟩
  · exact wpAny_noteFrame_againW hf tr (h s H ⟨a, a0, rfl, hb, tr⟩)
theorem flight_exn (H : St C base ρ σ s) {e : Value} {c : Addr} {fl : Value} (x : ExnF base e c fl s.heap) {f : Option Addr} {Q : Unit → Shared → Prop} {E : Value → Shared → Prop}
    (h : ∀ s', St C base ρ σ s' → ExnF base e c (f.elim .none fun f => rawInt f) s'.heap → Q () s') : wpAny C.M C.A (setFlight e f) Q E s := by
  obtain ⟨a, a0, rfl, hb, oe, vs, T, oT, ts, he, hc0, hd, hv1, hT0, hTa, hT, hTd, h3⟩ := x
  have hsz : 3 < ts.size := (Array.getElem?_eq_some_iff.mp h3).1
  unfold setFlight
  refine wpAny_bind (wpAny_field he hd hv1 ?_)
  rw [if_pos (show (Value.ref T != Value.none) = true from by simp)]
  have other : ∀ b, b ≠ T → (s.heap.update T (Obj.mapFields (·.setIfInBounds 3 (f.elim Value.none fun f => rawInt f)))).get? b = s.heap.get? b := fun b hb => Heap.get?_update_other _ _ (Ne.symm hb)
  refine wpAny_setField hT hTd hsz (h _ (H.noted (a := a) (T := some T) ⟨fun b o e k1 k2 k3 k4 => (other b fun q => k4 (by rw [q])).trans e, fun b o e hn => ⟨o.slots, (other b fun q => by subst q; rw [hT] at e; cases e; exact hn _ hTd).trans e⟩⟩
    he hd (by rw [hc0.1]; intro q; cases q) hb (fun t q => by cases q; exact ⟨hT0, oT, ts, hT, hTd⟩)) ?_)
  exact ⟨a, a0, rfl, hb, oe, vs, T, _, _, (other a (Ne.symm hTa)).trans he, hc0, hd, hv1, hT0, hTa, Heap.get?_update_self _ hT (Obj.isFreed_of_fields (Obj.data_mapFields hTd _)), Obj.data_mapFields hTd _, by simp [hsz]⟩
theorem ExnF.exn {base : Heap} {L : Addr} {e c h} (x : ExnF base e c .none h) : Exn base L e c h := let ⟨a, a0, h1, h2, h3⟩ := x; ⟨a, a0, h1, h2, .inr ⟨_, .inl rfl, h3⟩⟩
theorem ExnF.exnL {base : Heap} {L : Addr} {e c h} (x : ExnF base e c (rawInt L) h) : Exn base L e c h := let ⟨a, a0, h1, h2, h3⟩ := x; ⟨a, a0, h1, h2, .inr ⟨_, .inr rfl, h3⟩⟩
/-- an exception comes out of a part of the frame that notes it (a loop's turn) and is handed on by the frame -/
theorem noted_on (H : St C base ρ σ s) (hF : C.Fn) {e : Value} {c : Addr} (x : Exn base C.env.locals e c s.heap) {E : Value → Shared → Prop}
    (h : ∀ s', St C base ρ σ s' → Exn base C.env.locals e c s'.heap → E e s') : notedBy C.M C.A C.env (fun e s' => cameBackBy C.M C.A C.env E e s') e s := by
  unfold notedBy
  refine note_exn H hF x fun s' H' x' => ?_
  unfold cameBackBy
  obtain ⟨a, a0, rfl, hb, oe, vs, T, oT, ts, he, hc0, hd, hv1, r⟩ := id x'
  refine wpAny_bind (wpAny_field he hd hv1 ?_)
  rw [if_neg (by simp)]
  refine flight_exn (f := C.env.frame) H' x' fun s'' H'' x'' => h s'' H'' ?_
  rw [hF.1] at x''
  exact ExnF.exnL x''
end
end Mine
set_option tactic.hygienic false
namespace Mine
open PySem PySem.W PyProof.Rows PySem.Calls
/-- the kinds of callee that a plain call knows -/
noncomputable def Keeps (C : Cx) (u : Value) : Prop := ∀ h, C.h₁.StaysIn h → ∃ k, (k = Keeper.frame ∨ k = Keeper.machine ∨ k = Keeper.boundFrame) ∧ Looks C.M h (keeperOf u) k
/-- a call with the arguments at hand -/
noncomputable def Cal (C : Cx) (ρ : Vars) (σ : Store) (u : Value) (ds : List Val) (Q : Val → Store → Prop) (X : XPost) : Prop :=
  ∀ base s vs, St C base ρ σ s → RepVs C.bad s.heap ds vs → wpAny C.M C.A (call u vs) (Vp C base ρ Q) (Xp C base X) s
inductive Fixed : Val → Value → Prop
  | ref (a) : Fixed (.ref a) (.ref a)
  | blt (i) : Fixed (.blt i) (.builtin i)
  | typ (n) : Fixed (.typ n) (.type n)
theorem Fixed.eq {B h d u v} (f : Fixed d u) (r : RepV B h d v) : v = u := by cases f <;> simpa [RepV] using r
theorem Keeps.builtin {C : Cx} {i : String} : Keeps C (.builtin i) := fun h z9a => ⟨.machine, .inr (.inl rfl), Looks.of_pure rfl⟩
theorem Keeps.type {C : Cx} {n : String} : Keeps C (.type n) := fun h z9a => ⟨.machine, .inr (.inl rfl), Looks.of_pure rfl⟩
theorem Keeps.of_K {C : Cx} (hk : C.K.In C.h₁) {u : Value} (h : keepIn C.K u = true) : Keeps C u := fun hh st => keeps_K (M := C.M) h hh (hk.keeps st)
section
variable {C : Cx} {base : Heap} {ρ : Vars} {σ : Store} {s : Shared} {Q : Val → Store → Prop} {X : XPost}
theorem Cal.run {u : Value} {ds : List Val} (h : Cal C ρ σ u ds Q X) (H : St C base ρ σ s) {vs : List Value} (r : RepVs C.bad s.heap ds vs) {Q' : Value → Shared → Prop} {E' : Value → Shared → Prop}
    (hQ : ∀ v d σ' s', St C base ρ σ' s' → Pers C σ s s' → RepV C.bad s'.heap d v → Q d σ' → Q' v s') (hX : ∀ e s', Xp C base X e s' → E' e s') : wpAny C.M C.A (call u vs) Q' E' s := by
  have pers : ∀ {ρ' σ' s'}, St C (wipe s.heap (C.Loose σ)) ρ' σ' s' → Pers C σ s s' := fun H' =>
    ⟨fun a items t => (TupKeep.of_keeps H'.b2) a items (H.tuples a items t), fun b o e hn => H'.b2 b o (wipe_get.mpr ⟨hn, e⟩)⟩
  refine wpAny_mono (h _ s vs H.rebase r) ?_ ?_
  · rintro v s' ⟨d, σ', H', r', q⟩
    exact hQ v d σ' s' (H'.narrow H.b1 H.base_in) (pers H') r' q
  · rintro e s' ⟨c, ρ', σ', x, H', q⟩
    exact hX e s' ⟨c, ρ', σ', x.narrow H.base_in, H'.narrow H.b1 H.base_in, q⟩
theorem Cal.mono {u : Value} {ds : List Val} {Q' : Val → Store → Prop} {X' : XPost} (h : Cal C ρ σ u ds Q X) (hq : ∀ d σ', Q d σ' → Q' d σ') (hx : ∀ c ρ' σ', X c ρ' σ' → X' c ρ' σ') : Cal C ρ σ u ds Q' X' :=
  fun base s vs H r => wpAny_mono (h base s vs H r) (fun _ _ ⟨d, σ', a, b, c⟩ => ⟨d, σ', a, b, hq _ _ c⟩) fun _ _ ⟨c, ρ', σ', a, b, d⟩ => ⟨c, ρ', σ', a, b, hx _ _ _ d⟩
theorem callWith_evs (H : St C base ρ σ s) {u : Value} {first : List Value} {args : List Expr} {pos : Pos} (hk : Keeps C u) {L : List Val → Store → Prop} (h : Evs C ρ σ args L X)
    {Q' : Value → Shared → Prop} {E' : Value → Shared → Prop}
    (hQ : ∀ vs ds σ' s', St C base ρ σ' s' → Pers C σ s s' → RepVs C.bad s'.heap ds vs → L ds σ' → wpAny C.M C.A (call u (first ++ vs)) Q' E' s') (hX : ∀ e s', Xp C base X e s' → E' e s')
    (he : ∀ e ∈ args, ∀ r, starEach (e :: r) C.env = (false, eval e C.env) :: starEach r C.env) :
    wpAny C.M C.A (callWith pos u first (backTo pos (starEach args C.env)) []) Q' E' s := by
  have nostar : ∀ l : List Expr, (∀ e ∈ l, ∀ r, starEach (e :: r) C.env = (false, eval e C.env) :: starEach r C.env) → (backTo pos (starEach l C.env)).any (·.1) = false := by
    intro l
    induction l with
    | nil => intro _; rfl
    | cons e r ih =>
      intro h
      rw [h e List.mem_cons_self r]
      show (false || (backTo pos (starEach r C.env)).any (·.1)) = false
      rw [ih fun e' he' => h e' (List.mem_cons_of_mem _ he')]; rfl
  refine callWith_of (P := fun h => C.h₁.StaysIn h) (by rw [nostar args he]; rfl) hk ?_
  cases args with
  | nil =>
    refine evalArgs_nil3 ⟨H.top, ?_⟩
    have key : wpAny C.M C.A (pure [] : Sem (List Value)) (fun vs s' => wpAny C.M C.A (call u (first ++ vs)) Q' E' s') E' s := h.run (pos := pos) H (fun vs ds σ' s' H' P r q => hQ vs ds σ' s' H' P r q) hX
    exact fun Γ p hΓ => key Γ p hΓ Γ p hΓ
  | cons e r =>
    have e1 := he e List.mem_cons_self r
    have : backTo pos (starEach (e :: r) C.env) = (false, eval e C.env) :: backTo pos (starEach r C.env) := by rw [e1]; rfl
    rw [this]
    refine evalArgs_plain ?_
    rw [← this]
    exact h.run H (fun vs ds σ' s' H' P r q => ⟨H'.top, hQ vs ds σ' s' H' P r q⟩) hX
noncomputable abbrev CalL (C : Cx) (ρ : Vars) (u : Value) (Q : Val → Store → Prop) (X : XPost) : List Val → Store → Prop := fun ds σ₂ => Cal C ρ σ₂ u ds Q X
noncomputable abbrev CallP (C : Cx) (ρ : Vars) (args : List Expr) (L : Value → List Val → Store → Prop) (X : XPost) : Val → Store → Prop := fun d σ₁ => ∃ u, Fixed d u ∧ Keeps C u ∧ Evs C ρ σ₁ args (L u) X
noncomputable abbrev CalLu (C : Cx) (ρ : Vars) (Q : Val → Store → Prop) (X : XPost) (u : Value) : List Val → Store → Prop := CalL C ρ u Q X
theorem callI {L : Value → List Val → Store → Prop} {args : List Expr} {d : Val} {u : Value} (hf : Fixed d u) (hk : Keeps C u) (h : Evs C ρ σ args (L u) X) : CallP C ρ args L X d σ := ⟨u, hf, hk, h⟩
theorem Ev.call {x : Str} {p pos : Pos} {args : List Expr} (h : Ev C ρ σ (.Name x p) (CallP C ρ args (CalLu C ρ Q X) X) X)
    (he : ∀ e ∈ args, ∀ r, starEach (e :: r) C.env = (false, eval e C.env) :: starEach r C.env) : Ev C ρ σ (.Call (.Name x p) args [] pos) Q X :=
  Ev.intro fun base s H => by
    rw [arm_eval_Call_Name']
    refine wpAny_bind (h.run H (fun v d σ₁ s₁ H₁ P₁ r₁ ⟨u, hf, hk, ha⟩ => ?_) fun z9a z9b x => x)
    rw [hf.eq r₁]
    exact callWith_evs H₁ hk ha (fun vs ds σ₂ s₂ H₂ P₂ r₂ hc => hc.run H₂ r₂ (fun v d σ' s' H' z9a r q => ⟨d, σ', H', r, q⟩) fun z9a z9b x => x) (fun z9a z9b x => x) he
/-- a method of an own class, on an object of it -/
structure Meth (K : Frag) (cls : Addr) (name : Str) (f : Addr) : Prop where
  ga : findIn K (.ref cls) "__getattribute__" = some (some (.builtin "object.__getattribute__"))
  gk : findIn K (.ref cls) "__getattr__" = some none
  at_ : findIn K (.ref cls) name = some (some (.ref f))
  fn : typeIn K (.ref f) = some (.type "function")
  keep : keepIn K (.ref f) = true
theorem Pairs.strs {prog : Program} {w : World} {es : List DictEntry} {ws : List (Str × Value)} (h : Pairs (strKind prog w) es ws) (x : Str) : (es.find? fun e => e.key.isStr x) = es.find? fun e => (strKind prog w).is x e.key := by
  have hf : (fun e : DictEntry => e.key.isStr x) = fun e => (strKind prog w).is x e.key := funext fun e => ((strKind prog w).strs x x 0 e.key (by simp [PySem.strKind, Value.isStrOf])).symm
  rw [hf]
theorem Pairs.noRef {prog : Program} {w : World} {es : List DictEntry} {ws : List (Str × Value)} (h : Pairs (strKind prog w) es ws) : es.any (·.refKey) = false := by
  induction h with
  | nil => rfl
  | @cons e kv es kvs h1 _ _ ih =>
    obtain ⟨t, ht⟩ := Value.isStrOf_shape h1
    rw [List.any_cons, ih]
    simp [DictEntry.refKey, ht]
theorem lookIn_of {prog : Program} {w : World} {h : Heap} {a : Addr} {ws : List (Str × Value)} (hd : h.DictOf (strKind prog w) a ws) (x : Str) : ∃ o, h.get? a = some o ∧ lookIn x o = some (valueAt ws x) := by
  obtain ⟨o, es, ep, ho, hc, hdat, hk, hp, hn⟩ := hd
  refine ⟨o, ho, ?_⟩
  unfold lookIn
  rw [hdat]
  dsimp only
  have e1 := Pairs.strs hp x
  have e2 := hp.find x
  rw [e1]
  cases hf : es.toList.find? fun e => (strKind prog w).is x e.key with
  | none => rw [hf] at e2; simp only [Pairs.noRef hp, Bool.false_eq_true, if_false]; rw [← e2]; rfl
  | some e => rw [hf] at e2; simp only []; rw [← e2]; rfl
theorem St.inst (H : St C base ρ σ s) {x cls dd : Addr} {fs : List (Str × Val)} (hx : σ x = some (.inst cls dd)) (hd : σ dd = some (.sdict fs)) :
    ∃ ox od ws, InstAt s.heap x ox cls (some od) ∧ ox.dict = some dd ∧ s.heap.get? dd = some od ∧ s.heap.DictOf (strKind C.prog C.w) dd ws ∧ RepKV C.bad s.heap fs ws := by
  obtain ⟨sl, ho⟩ := (H.store _ _ hx).1
  obtain ⟨ws, hw, rk⟩ := (H.store _ _ hd).1
  obtain ⟨od, es, ep, hod, r⟩ := id hw
  exact ⟨_, od, ws, ⟨ho, rfl, rfl, hod⟩, rfl, hod, hw, rk⟩
theorem St.kin (H : St C base ρ σ s) : C.K.In s.heap := H.ok.kin.keeps H.top
theorem methodCall_plain {o : Expr} {name : Str} {apos pos : Pos} {env : Env} {M : Model} {A : Around} {E : Value → Shared → Prop} {s : Shared} {ov : Value} {n : Nat} {args : List (Bool × Sem Value)} {Q' : Value → Shared → Prop}
    (hform : methodCallForm n args [] = true) (hline : (apos.endLine == pos.line) = true)
    (h : wpAny M A (getMethod ov name (do return (← importBound o env).getD true)) (fun fm s' => wpAny M A (callWith pos fm.1 fm.2 args []) Q' E s') E s) : wpAny M A (methodCall o name apos pos env ov n args []) Q' E s := by
  unfold methodCall
  rw [hform]
  have hpos : methodCallPos true o env apos pos = pure pos := by unfold methodCallPos; simp [hline]
  refine wpAny_bind (wpAny_holding ?_)
  show wpAny M A (getMethod ov name _) _ E s
  refine wpAny_mono h (fun fm s' h' => ?_) fun z9a z9b x => x
  exact wpAny_bind (wpAny_of_eq hpos h')
theorem form_of {args : List Expr} {env : Env} {pos : Pos} (he : ∀ e ∈ args, ∀ r, starEach (e :: r) env = (false, eval e env) :: starEach r env) (hn : args.length < 20) :
    methodCallForm (args.length + ([] : List Keyword).length) (backTo pos (starEach args env)) (backToKw pos (keywordEach [] env)) = true := by
  have h : ∀ l : List Expr, (∀ e ∈ l, ∀ r, starEach (e :: r) env = (false, eval e env) :: starEach r env) → (backTo pos (starEach l env)).all (fun x => !x.1) = true := by
    intro l
    induction l with
    | nil => intro _; rfl
    | cons e r ih =>
      intro h
      rw [h e List.mem_cons_self r]
      show (true && (backTo pos (starEach r env)).all (fun x => !x.1)) = true
      rw [ih fun e' he' => h e' (List.mem_cons_of_mem _ he')]; rfl
  unfold methodCallForm
  rw [h args he]
  show (true && true && decide (args.length + 0 + 0 < 30)) = true
  simp; lia
theorem Ev.callM {o : Expr} {name : Str} {apos pos : Pos} {args : List Expr}
    (h : Ev C ρ σ o (fun d σ₁ => ∃ x cls dd fs f, d = .ref x ∧ σ₁ x = some (.inst cls dd) ∧ σ₁ dd = some (.sdict fs) ∧ Meth C.K cls name f ∧ kvAt fs name = Option.none ∧
      Evs C ρ σ₁ args (ConsL (CalL C ρ (.ref f) Q X) (.ref x)) X) X)
    (he : ∀ e ∈ args, ∀ r, starEach (e :: r) C.env = (false, eval e C.env) :: starEach r C.env) (hn : args.length < 20 := by decide)
    (hb : attributeBase o name C.env (eval o C.env) = eval o C.env := by rfl) (hline : (apos.endLine == pos.line) = true := by rfl) : Ev C ρ σ (.Call (.Attribute o name apos) args [] pos) Q X :=
  Ev.intro fun base s H => by
    rw [arm_eval_Call, hb]
    refine wpAny_bind (h.run H (fun v d σ₁ s₁ H₁ P₁ r₁ h₁ => ?_) fun z9a z9b x => x)
    obtain ⟨x, cls, dd, fs, f, rfl, hx, hd, M, hk, ha⟩ := h₁
    simp only [RepV] at r₁; subst r₁
    refine wpAny_bind (wpAny_standAt ?_)
    obtain ⟨ox, od, ws, I, hox, hod, hw, rk⟩ := H₁.inst hx hd
    refine methodCall_plain (form_of he hn) hline ?_
    obtain ⟨o', ho', hl⟩ := lookIn_of hw name
    rw [hod] at ho'; cases ho'
    have hs : shadowIn (some od) name = some false := by
      show Option.map (fun x => x.isSome) (lookIn name od) = some false
      rw [hl]
      rcases rk.at name with ⟨_, h2⟩ | ⟨d, v, h1, _⟩
      · rw [h2]; rfl
      · rw [h1] at hk; cases hk
    refine method_fn H₁.kin I M.ga M.gk M.at_ M.fn hs ?_
    exact callWith_evs H₁ (Keeps.of_K H₁.ok.kin M.keep) ha (fun vs ds σ₂ s₂ H₂ P₂ r₂ hc => hc.run H₂ (.cons (by simp [RepV]) r₂) (fun v d σ' s' H' z9a r q => ⟨d, σ', H', r, q⟩) fun z9a z9b x => x) (fun z9a z9b x => x) he
noncomputable abbrev ClP (C : Cx) (ρ : Vars) (id : String) (args : List Expr) (Q : Val → Store → Prop) (X : XPost) : Val → Store → Prop := fun d σ₁ => ∃ x xs, d = .ref x ∧ σ₁ x = some (.list xs) ∧ Evs C ρ σ₁ args (ConsL (CalL C ρ (.builtin id) Q X) (.ref x)) X
/-- a built-in method of a list -/
theorem Ev.callL {o : Expr} {name : Str} {id : String} {apos pos : Pos} {args : List Expr} (slot : Slot "list" name id) (ty : typeOf (.builtin id) = pure (.type "method_descriptor"))
    (h : Ev C ρ σ o (ClP C ρ id args Q X) X)
    (he : ∀ e ∈ args, ∀ r, starEach (e :: r) C.env = (false, eval e C.env) :: starEach r C.env) (hn : args.length < 20 := by decide)
    (hb : attributeBase o name C.env (eval o C.env) = eval o C.env := by rfl) (hline : (apos.endLine == pos.line) = true := by rfl) : Ev C ρ σ (.Call (.Attribute o name apos) args [] pos) Q X :=
  Ev.intro fun base s H => by
    rw [arm_eval_Call, hb]
    refine wpAny_bind (h.run H (fun v d σ₁ s₁ H₁ P₁ r₁ h₁ => ?_) fun z9a z9b x => x)
    obtain ⟨x, xs, rfl, hx, ha⟩ := h₁
    simp only [RepV] at r₁; subst r₁
    refine wpAny_bind (wpAny_standAt ?_)
    obtain ⟨vs, ⟨n, ho⟩, rs⟩ := (H₁.store _ _ hx).1
    refine methodCall_plain (form_of he hn) hline ?_
    refine getMethod_builtin ⟨_, ho, rfl⟩ F.plainAttrs_list slot ty (fun a e => by cases e; exact ⟨_, ho, rfl⟩) ?_
    exact callWith_evs H₁ Keeps.builtin ha (fun vs ds σ₂ s₂ H₂ P₂ r₂ hc => hc.run H₂ (.cons (by simp [RepV]) r₂) (fun v d σ' s' H' z9a r q => ⟨d, σ', H', r, q⟩) fun z9a z9b x => x) (fun z9a z9b x => x) he
/-- a plain def of the top -/
structure Def (K : Frag) (f : Addr) (fd : FuncData) (body : List Stmt) : Prop where
  at_ : ∃ o, K.lookup f = some o ∧ o.data = .func fd
  body : fd.body = .stmts body
  clo : fd.closure = []
  kind : fd.scope.kind = .function
  co : fd.scope.isCoroutine = false
  gen : fd.scope.isGenerator = false
  glo : fd.globals = mainGlobals
  blt : fd.builtins = builtinsNs
  code : codeIn K fd.code fd.qualname = true
  free : ∀ x ∈ fd.scope.names, x.2 ≠ .free
  nodup : (fd.scope.names.map (·.1)).Nodup
/-- the place of a call of f out of C -/
structure Callee (C C' : Cx) (fd : FuncData) (f : Addr) : Prop where
  prog : C'.prog = C.prog
  w : C'.w = C.w
  h₁ : C'.h₁ = C.h₁
  K : C'.K = C.K
  quiet : C'.quiet = C.quiet
  room : C'.room + 1 = C.room
  env : ∃ L, C'.env = callEnvC fd L f
  fn : C'.Fn
theorem Callee.scope {C C' fd f} (h : Callee C C' fd f) : C'.env.scope = fd.scope := by obtain ⟨L, e⟩ := h.env; rw [e]; rfl
theorem Callee.kind {C C' fd f} (h : Callee C C' fd f) {x : Str} {k : Option NameKind} (e : fd.scope.names.lookup x = k) : C'.env.kindOf x = k := by unfold Env.kindOf; rw [h.scope]; exact e
theorem lookup_cellsFrom {x : Str} : ∀ (names : List (Str × NameKind)) (n : Nat) (acc : List (Str × Addr)), (x, NameKind.cell) ∈ names ∨ (acc.lookup x).isSome = true → ((cellsFrom n names acc).lookup x).isSome = true
  | [], _, acc, h => by rcases h with h | h; cases h; exact h
  | (y, k) :: r, n, acc, h => by
    unfold cellsFrom
    split
    · rename_i hk
      refine lookup_cellsFrom r _ _ ?_
      by_cases e : x = y
      · subst e; exact .inr (by simp [List.lookup_cons])
      · rcases h with h | h
        · rcases List.mem_cons.mp h with h | h
          · cases h; exact absurd rfl e
          · exact .inl h
        · refine .inr ?_
          rw [List.lookup_cons]
          have : (x == y) = false := by simpa using e
          rw [this]; exact h
    · rename_i hk
      refine lookup_cellsFrom r _ _ ?_
      rcases h with h | h
      · rcases List.mem_cons.mp h with h | h
        · cases h; exact absurd rfl hk
        · exact .inl h
      · exact .inr h
theorem cellsFrom_kind {x : Str} {c : Addr} : ∀ (names : List (Str × NameKind)) (n : Nat) (acc : List (Str × Addr)), (cellsFrom n names acc).lookup x = some c → (x, NameKind.cell) ∈ names ∨ acc.lookup x = some c
  | [], _, _, h => .inr h
  | (y, k) :: r, n, acc, h => by
    unfold cellsFrom at h
    split at h
    · rename_i hk
      rcases cellsFrom_kind r _ _ h with h | h
      · exact .inl (List.mem_cons_of_mem _ h)
      · rw [List.lookup_cons] at h
        cases e : x == y with
        | true => rw [e] at h; rw [beq_iff_eq.mp e]; exact .inl (by rw [beq_iff_eq.mp hk]; exact List.mem_cons_self)
        | false => rw [e] at h; exact .inr h
    · rcases cellsFrom_kind r _ _ h with h | h
      · exact .inl (List.mem_cons_of_mem _ h)
      · exact .inr h
theorem mem_of_lookup' {α : Type} {x : Str} {k : α} : ∀ {l : List (Str × α)}, l.lookup x = some k → (x, k) ∈ l := fun h => mem_of_lookup h
/-- what the bound names hold -/
theorem bindL_at {kindOf : Str → Option NameKind} {x : Str} : ∀ (binds : List (Str × Value)) (m : Str → Option Value), (binds.map (·.1)).Nodup → kindOf x = some .local → bindL kindOf binds m x = (match binds.lookup x with | some v => some v | none => m x)
  | [], _, _, _ => rfl
  | (y, v) :: r, m, hn, hk => by
    rw [List.map_cons, List.nodup_cons] at hn
    unfold bindL
    rw [bindL_at r _ hn.2 hk, List.lookup_cons]
    cases e : x == y with
    | true =>
      have e' := beq_iff_eq.mp e
      subst e'
      have : r.lookup x = none := by
        cases q : r.lookup x with
        | none => rfl
        | some v' => exact absurd (List.mem_map.mpr ⟨_, mem_of_lookup q, rfl⟩) hn.1
      rw [this]
      simp only [hk, if_true]
    | false =>
      have e' : x ≠ y := by simpa using e
      cases r.lookup x with
      | some v' => rfl
      | none => simp only []; split <;> simp [e']
theorem bindC_at {kindOf : Str → Option NameKind} {x : Str} : ∀ (binds : List (Str × Value)) (m : Str → Option Value), (binds.map (·.1)).Nodup → kindOf x ≠ some .local → bindC kindOf binds m x = (match binds.lookup x with | some v => some v | none => m x)
  | [], _, _, _ => rfl
  | (y, v) :: r, m, hn, hk => by
    rw [List.map_cons, List.nodup_cons] at hn
    unfold bindC
    rw [bindC_at r _ hn.2 hk, List.lookup_cons]
    cases e : x == y with
    | true =>
      have e' := beq_iff_eq.mp e
      subst e'
      have : r.lookup x = none := by
        cases q : r.lookup x with
        | none => rfl
        | some v' => exact absurd (List.mem_map.mpr ⟨_, mem_of_lookup q, rfl⟩) hn.1
      rw [this]
      simp only [hk, if_false, if_true]
    | false =>
      have e' : x ≠ y := by simpa using e
      cases r.lookup x with
      | some v' => rfl
      | none => simp only []; split <;> simp [e']
theorem zip_lookup {B : List Addr} {h : Heap} {x : Str} : ∀ {ps : List Str} {ds : List Val} {vs : List Value}, RepVs B h ds vs → ∀ {d : Val}, (ps.zip ds).lookup x = some d → ∃ v, (ps.zip vs).lookup x = some v ∧ RepV B h d v
  | [], _, _, _, d, e => by simp at e
  | p :: ps, [], _, _, d, e => by simp at e
  | p :: ps, d' :: ds, vs, r, d, e => by
    simp only [RepVs] at r
    obtain ⟨v, ws, rfl, r1, r2⟩ := r
    rw [List.zip_cons_cons, List.lookup_cons] at e ⊢
    cases q : x == p with
    | true => rw [q] at e; cases e; exact ⟨v, rfl, r1⟩
    | false => rw [q] at e; exact zip_lookup r2 e
/-- the state of a frame within is told of by the frame around it again -/
theorem St.back2 {C' : Cx} {B : Heap} {ρ' : Vars} {σ' : Store} {s' : Shared} (H : St C base ρ σ s) (H' : St C' B ρ' σ' s') (hprog : C'.prog = C.prog) (hw : C'.w = C.w) (hos : C'.os = C.os) (hbad : C'.bad = C.bad)
    {oL : Obj} (hoL : s.heap.get? C.env.locals = some oL) (hfrs : C'.frs = (C.env.locals, oL) :: C.frs)
    (bB : base.StaysIn B) (tk : TupKeep s.heap s'.heap)
    (hcells : TupKeep s.heap s'.heap → ∀ x c, C.env.cells.lookup x = some c → ∃ u, s'.heap.IsCell c u ∧ ∀ v, ρ x = some v → (C.env.kindOf x = some .cell ∨ C.env.kindOf x = some .free) → ∃ u', u = some u' ∧ RepV C.bad s'.heap v u') :
    St C base ρ σ' s' := by
  have no : ∀ b, B.get? b = none → base.get? b = none := fun b hb => by
    cases h : base.get? b with
    | none => rfl
    | some o => rw [bB b o h] at hb; cases hb
  have frame : ∃ sl, s'.heap.get? C.env.locals = some { oL with slots := sl } := (H'.frs (C.env.locals, oL) (by rw [hfrs]; exact List.mem_cons_self)).1
  refine ⟨H.ok, H'.gens, by rw [H'.os, hos], H.b1, fun b o e => H'.b2 b o (bB b o e), ?_, hcells tk, H.allcells, ?_, H.own, H.ownc, ?_, ?_⟩
  · obtain ⟨m, hn, y⟩ := H.ns
    refine ⟨m, ?_, fun x v e l => let ⟨u, h1, h2⟩ := y x v e l; ⟨u, h1, h2.keep tk⟩⟩
    obtain ⟨sl, hs⟩ := frame
    obtain ⟨o, es, ep, ho, hd, r⟩ := hn
    rw [hoL] at ho; cases ho
    exact ⟨_, es, ep, hs, hd, r⟩
  · intro a ha
    obtain ⟨h1, items, t⟩ := H.bad a ha
    exact ⟨h1, items, tk _ _ t⟩
  · intro p hp
    obtain ⟨h1, h2, h3, h4⟩ := H'.frs p (by rw [hfrs]; exact List.mem_cons_of_mem _ hp)
    exact ⟨h1, (H.frs p hp).2.1, (H.frs p hp).2.2⟩
  · intro a o e
    obtain ⟨h1, h2, h3, h4⟩ := H'.store a o e
    rw [hprog, hw, hbad] at h1
    exact ⟨h1, no _ h2, fun q => h4 (C.env.locals, oL) (by rw [hfrs]; exact List.mem_cons_self) q.symm, fun p hp => h4 p (by rw [hfrs]; exact List.mem_cons_of_mem _ hp)⟩
/-- the state of a frame within is told of by the frame around it again -/
theorem St.back {C' : Cx} {B : Heap} {ρ' : Vars} {σ' : Store} {s' : Shared} (H : St C base ρ σ s) (H' : St C' B ρ' σ' s') (hprog : C'.prog = C.prog) (hw : C'.w = C.w) (hos : C'.os = C.os) (hbad : C'.bad = C.bad)
    {oL : Obj} (hoL : s.heap.get? C.env.locals = some oL) (hfrs : C'.frs = (C.env.locals, oL) :: C.frs)
    (hB : ∀ b o, s.heap.get? b = some o → ¬ C.Loose σ b → B.get? b = some o)
    (hcells : TupKeep s.heap s'.heap → ∀ x c, C.env.cells.lookup x = some c → ∃ u, s'.heap.IsCell c u ∧ ∀ v, ρ x = some v → (C.env.kindOf x = some .cell ∨ C.env.kindOf x = some .free) → ∃ u', u = some u' ∧ RepV C.bad s'.heap v u') :
    St C base ρ σ' s' ∧ base.StaysIn B := by
  have bB : base.StaysIn B := fun b o e => hB b o (H.b2 b o e) (fun q => by rw [H.loose q] at e; cases e)
  have tk : TupKeep s.heap s'.heap := fun a items t => by
    have nl : ¬ C.Loose σ a := fun x => H.notTuple x t
    obtain ⟨o, ho, r⟩ := t
    exact ⟨o, H'.b2 _ _ (hB a o ho nl), r⟩
  exact ⟨H.back2 H' hprog hw hos hbad hoL hfrs bB tk hcells, bB⟩
/-- a cell is no list, no dict, no frame -/
theorem St.cellLoose (H : St C base ρ σ s) {c : Addr} {u} (x : s.heap.IsCell c u) : σ c = none ∧ c ≠ C.env.locals ∧ ∀ p ∈ C.frs, p.1 ≠ c := by
  obtain ⟨o, ho, hd⟩ := x
  refine ⟨?_, fun q => ?_, fun p hp q => ?_⟩
  · cases q : σ c with
    | none => rfl
    | some ob => obtain ⟨o', h3, _, h5, _⟩ := (H.store c ob q).1.there; rw [ho] at h3; cases h3; exact absurd hd (h5 _)
  · obtain ⟨m, ⟨o', es, ep, ho', hd', _⟩, _⟩ := H.ns
    rw [q] at ho; rw [ho] at ho'; cases ho'; rw [hd] at hd'; cases hd'
  · obtain ⟨⟨sl, h1'⟩, _, ⟨es, ep, hd'⟩, _⟩ := H.frs p hp
    rw [q, ho] at h1'; have h3 := congrArg Obj.data (Option.some.inj h1'); have h4 : o.data = p.2.data := h3; rw [hd, hd'] at h4; cases h4
/-- ENTER: a call of a plain def is its body's run -/
noncomputable def CalC (C : Cx) (ρ : Vars) (σ : Store) (u : Value) (ds : List Val) (Q : Val → Store → Prop) (X : XPost) : Prop :=
  ∀ base s vs, St C base ρ σ s → RepVs C.bad s.heap ds vs → codeAny C.M C.A (.call u ⟨vs, []⟩) (fun r s' => match r with | .ok (.ret v) => Vp C base ρ Q v s' | .ok _ => False | .error e => Xp C base X e s') s
theorem CalC.cal {u : Value} {ds : List Val} (h : CalC C ρ σ u ds Q X) : Cal C ρ σ u ds Q X := fun base s vs H r => wpAny_call (h base s vs H r)
noncomputable abbrev EntP (Q : Val → Store → Prop) : Out → Vars → Store → Prop := fun o z9a σ' => match o with | .next => Q .none σ' | .ret d => Q d σ' | _ => False
theorem CalC.enter {f : Addr} {fd : FuncData} {body : List Stmt} {ds : List Val} {ps : List Str} (D : Def C.K f fd body) (hroom : 0 < C.room)
    (hbind : ∀ vs : List Value, vs.length = ds.length → bindArgs fd ⟨vs, []⟩ = pure (ps.zip vs)) (hps : ps.Nodup) (hlen : ps.length = ds.length)
    (hkind : ∀ x ∈ ps, fd.scope.names.lookup x = some .local ∨ fd.scope.names.lookup x = some .cell)
    (h : ∀ C', Callee C C' fd f → Ex C' (fun x => (ps.zip ds).lookup x) σ body (EntP Q) (fun c z9a σ' => X c ρ σ')) :
    CalC C ρ σ (.ref f) ds Q X := by
  intro base s vs H r
  obtain ⟨m₀, hn₀, _⟩ := id H.ns
  obtain ⟨oL, esL, epL, hoL, hdL, _⟩ := id hn₀
  obtain ⟨of, hof, hdf⟩ := D.at_
  let B := wipe s.heap (fun b => (∃ o, σ b = some o) ∨ b = C.env.locals ∨ ∃ p ∈ C.frs, p.1 = b)
  have hB : ∀ b o, s.heap.get? b = some o → b ≠ C.env.locals → (∀ p ∈ C.frs, p.1 ≠ b) → σ b = none → B.get? b = some o := fun b o e h1 h2 h3 =>
    wipe_get.mpr ⟨fun q => by
      rcases q with ⟨ob, q⟩ | q | ⟨p, hp, q⟩
      · rw [h3] at q; cases q
      · exact h1 q
      · exact h2 p hp q, e⟩
  have hBs : B.StaysIn s.heap := fun b o e => (wipe_get.mp e).2
  have hBl : ∀ b o, s.heap.get? b = some o → ¬ C.Loose σ b → B.get? b = some o := fun b o e hn => hB b o e (fun q => hn (.inr (.inl q))) (fun p hp q => hn (.inr (.inr (.inl ⟨p, hp, q⟩)))) (by
    cases q : σ b with
    | none => rfl
    | some ob => exact absurd (.inl ⟨ob, q⟩) hn)
  have cells : ∀ {s' : Shared}, B.StaysIn s'.heap → TupKeep s.heap s'.heap → ∀ x c, C.env.cells.lookup x = some c → ∃ u, s'.heap.IsCell c u ∧ ∀ v, ρ x = some v → (C.env.kindOf x = some .cell ∨ C.env.kindOf x = some .free) → ∃ u', u = some u' ∧ RepV C.bad s'.heap v u' := by
    intro s' hBs' tk x c e
    obtain ⟨u, h1, h2⟩ := H.cells x c e
    obtain ⟨k1, k2, k3⟩ := H.cellLoose h1
    refine ⟨u, ?_, fun v hv hk => let ⟨u', e1, r⟩ := h2 v hv hk; ⟨u', e1, r.keep tk⟩⟩
    obtain ⟨o, ho, hd⟩ := h1
    exact ⟨o, hBs' _ _ (hB c o ho k2 k3 k1), hd⟩
  have hBh : C.h₁.StaysIn B := fun b o e => by
    have e1 := H.b1 b o e
    refine hB b o (H.b2 _ _ e1) (fun q => ?_) (fun p hp q => ?_) ?_
    · subst q; rw [H.own] at e1; cases e1
    · subst q; rw [(H.frs p hp).2.1] at e1; cases e1
    · cases q : σ b with
      | none => rfl
      | some ob => rw [(H.store b ob q).2.1] at e1; cases e1
  have hlenv : vs.length = ds.length := r.length
  refine (codeAny_call_cells (by have := H.ok.depth; lia) (H.kin _ _ hof) hdf (H.ok.nolimit.keeps H.top) (codeRec_of H.kin D.code) D.body (hbind vs hlenv) D.clo ?_ (fun s₁ IC => ?_) D.co D.gen D.kind)
  · intro x hx
    have hx1 : x.1 ∈ ps := (List.of_mem_zip hx).1
    rcases hkind x.1 hx1 with h1 | h1
    · exact .inl h1
    · exact .inr ⟨h1, lookup_cellsFrom _ _ _ (.inl (mem_of_lookup h1))⟩
  · obtain ⟨l₀, hl₀⟩ := H.ok.hasf
    let C' : Cx := { C with A := C.A.deeper (callEnvC fd s.heap.objs.size f), env := callEnvC fd s.heap.objs.size f, frs := (C.env.locals, oL) :: C.frs, room := C.room - 1 }
    have hFn : C'.Fn := ⟨rfl, l₀, Around.frames_deeper hl₀⟩
    have hCal : Callee C C' fd f := ⟨rfl, rfl, rfl, rfl, rfl, Nat.sub_add_cancel hroom, ⟨_, rfl⟩, hFn⟩
    have hsz : ∀ b o, s.heap.get? b = some o → b ≠ s.heap.objs.size := fun b o e => Nat.ne_of_lt (Heap.lt_size e)
    obtain ⟨h₁', tk₁, rfl⟩ := IC.toInCall.same
    have keep := IC.toInCall.keep
    have zipnd : ((ps.zip vs).map (·.1)).Nodup := by
      rw [List.map_fst_zip (by lia)]; exact hps
    have hOk : C'.Ok := {
      depth := room_lt1 hroom H.ok.depth
      units := by show C.A.units + 3 + 20 * (C.room - 1) + 20 < _; have := H.ok.units; lia
      calm := H.ok.calm
      kind := D.kind
      globals := D.glo
      builtins := D.blt
      kin := H.ok.kin
      hasf := ⟨_, Around.frames_deeper hl₀⟩
      nolimit := H.ok.nolimit
      apart := IC.apart
      stack := fun l hl e he => by
        rw [show C'.A.frames = some (callEnvC fd s.heap.objs.size f :: l₀) from Around.frames_deeper hl₀] at hl
        cases hl
        rcases List.mem_cons.mp he with rfl | he
        · exact ⟨by show fd.scope.kind ≠ _; rw [D.kind]; decide, _, rfl, .inl rfl⟩
        · obtain ⟨k1, L, k2, k3⟩ := H.ok.stack l₀ hl₀ e he
          refine ⟨k1, L, k2, .inr ?_⟩
          rcases k3 with rfl | ⟨o, k3⟩
          · exact ⟨oL, List.mem_cons_self⟩
          · exact ⟨o, List.mem_cons_of_mem _ k3⟩ }
    have kindEq : ∀ x, C'.env.kindOf x = fd.scope.names.lookup x := fun x => rfl
    have H' : St C' B (fun x => (ps.zip ds).lookup x) σ { s with heap := h₁', toks := tk₁ } := {
      ok := hOk
      gens := H.gens
      os := H.os
      b1 := hBh
      b2 := fun b o e => keep b o (hBs b o e)
      ns := ⟨_, IC.toInCall.ns, fun x v e l => by
        obtain ⟨u, h1, h2⟩ := zip_lookup r e
        refine ⟨u, ?_, h2.keep (.of_keeps keep)⟩
        rw [bindL_at _ _ zipnd l, h1]⟩
      cells := fun x c e => ⟨_, IC.cell x c e, fun v hv hk => by
        obtain ⟨u, h1, h2⟩ := zip_lookup r hv
        refine ⟨u, ?_, h2.keep (.of_keeps keep)⟩
        rw [bindC_at _ _ zipnd (by rcases hk with hk | hk <;> (rw [show (callEnvC fd s.heap.objs.size f).kindOf x = _ from hk]; decide)), h1]⟩
      allcells := fun x hk => by
        rcases hk with hk | hk
        · exact lookup_cellsFrom _ _ _ (.inl (mem_of_lookup hk))
        · exact absurd rfl (D.free _ (mem_of_lookup hk))
      bad := fun a ha => let ⟨h1, items, t⟩ := H.bad a ha; ⟨h1, items, TupKeep.of_keeps keep _ _ t⟩
      own := by
        cases q : B.get? C'.env.locals with
        | none => rfl
        | some o => exact absurd rfl (hsz _ _ (hBs _ _ q))
      ownc := fun x c e z9a => by
        cases q : B.get? c with
        | none => rfl
        | some o => exact absurd (Heap.lt_size (hBs _ _ q)) (Nat.not_lt_of_lt (IC.above x c (mem_of_lookup e)))
      frs := fun p hp => by
        rcases List.mem_cons.mp hp with rfl | hp
        · exact ⟨⟨oL.slots, keep _ _ hoL⟩, wipe_none (.inr (.inl rfl)), ⟨esL, epL, hdL⟩, hsz _ _ hoL⟩
        · obtain ⟨⟨sl, h1⟩, h2, h3, h4⟩ := H.frs p hp
          exact ⟨⟨sl, keep _ _ h1⟩, wipe_none (.inr (.inr ⟨p, hp, rfl⟩)), h3, hsz _ _ h1⟩
      store := fun a o e => by
        obtain ⟨h1, h2, h3, h4⟩ := H.store a o e
        refine ⟨h1.keep (.of_keeps keep) (keep _), wipe_none (.inl ⟨o, e⟩), Nat.ne_of_lt h1.lt, fun p hp => ?_⟩
        rcases List.mem_cons.mp hp with rfl | hp
        · exact h3.symm
        · exact h4 p hp }
    have key := h C' hCal B _ H'
    refine wpAny_mono key ?_ ?_
    · rintro fl s' ⟨ρ', σ', H'', o, rf, q⟩
      have HB := (H.back (C' := C') H'' rfl rfl rfl rfl hoL rfl hBl (cells H''.b2)).1
      cases o with
      | next => simp only [RepF] at rf; subst rf; exact ⟨.none, σ', HB, by simp [RepV], q⟩
      | ret d => simp only [RepF] at rf; obtain ⟨v, rfl, rv⟩ := rf; exact ⟨d, σ', HB, rv, q⟩
      | brk => exact q.elim
      | cont => exact q.elim
    · rintro e s' ⟨c, ρ', σ', x, H'', q⟩
      unfold leaving
      refine wpAny_bind (note_exn H'' hFn x fun s₂ H₂ x₂ => flight_exn (f := none) H₂ x₂ fun s₃ H₃ x₃ => ?_)
      obtain ⟨HB, bB⟩ := H.back (C' := C') H₃ rfl rfl rfl rfl hoL rfl hBl (cells H₃.b2)
      refine ⟨c, ρ, σ', ?_, HB, q⟩
      exact (ExnF.exn x₃ : Exn B C.env.locals e c _).narrow bB
theorem Cal.enter {f : Addr} {fd : FuncData} {body : List Stmt} {ds : List Val} {ps : List Str} (D : Def C.K f fd body) (hroom : 0 < C.room)
    (hbind : ∀ vs : List Value, vs.length = ds.length → bindArgs fd ⟨vs, []⟩ = pure (ps.zip vs)) (hps : ps.Nodup) (hlen : ps.length = ds.length)
    (hkind : ∀ x ∈ ps, fd.scope.names.lookup x = some .local ∨ fd.scope.names.lookup x = some .cell)
    (h : ∀ C', Callee C C' fd f → Ex C' (fun x => (ps.zip ds).lookup x) σ body (EntP Q) (fun c z9a σ' => X c ρ σ')) :
    Cal C ρ σ (.ref f) ds Q X := (CalC.enter D hroom hbind hps hlen hkind h).cal
end
end Mine
set_option tactic.hygienic false
namespace Mine
open PySem PySem.W PyProof.Rows PySem.Calls
section
variable {C : Cx} {base : Heap} {ρ : Vars} {σ : Store} {s : Shared} {X : XPost}
theorem St.fieldsLoose (H : St C base ρ σ s) {I : Addr} {o : Obj} {vs} (ho : s.heap.get? I = some o) (hd : o.data = .fields vs) : ¬ C.Loose σ I := fun x => by
  rcases x with ⟨ob, h⟩ | rfl | ⟨p, hp, rfl⟩ | ⟨x, h1, h2⟩
  · exact (H.store _ _ h).1.notFields ho hd
  · obtain ⟨m, ⟨o', es, ep, ho', hd', _⟩, _⟩ := H.ns
    rw [ho] at ho'; cases ho'; rw [hd] at hd'; cases hd'
  · obtain ⟨⟨sl, h1'⟩, _, ⟨es, ep, hd'⟩, _⟩ := H.frs p hp
    rw [ho] at h1'; have h3 := congrArg Obj.data (Option.some.inj h1'); have h4 : o.data = p.2.data := h3; rw [hd, hd'] at h4; cases h4
  · obtain ⟨u, ⟨o', ho', hd'⟩, _⟩ := H.cells _ _ h1
    rw [ho] at ho'; cases ho'; rw [hd] at hd'; cases hd'
/-- a record of the run's own (an iterator) changes -/
theorem St.poke (H : St C base ρ σ s) {I : Addr} {o : Obj} {vs} {h' : Heap} {t : Nat} (ho : s.heap.get? I = some o) (hd : o.data = .fields vs) (hc : o.cls ≠ .type "tuple") (hb : base.get? I = none) (hs : Heap.ExtBut I s.heap h') :
    St C base ρ σ { s with heap := h', toks := t } ∧ TupKeep s.heap h' := by
  have nl := H.fieldsLoose ho hd
  have tk : TupKeep s.heap h' := fun a items x => by
    have hne : a ≠ I := fun e => by subst e; obtain ⟨o', ho', hc', _⟩ := x; rw [ho] at ho'; cases ho'; exact hc hc'
    obtain ⟨o', ho', r⟩ := x
    exact ⟨o', hs a o' hne ho', r⟩
  have ne : ∀ b, C.Loose σ b → b ≠ I := fun b x e => nl (e ▸ x)
  refine ⟨⟨H.ok, H.gens, H.os, H.b1, fun b ob e => hs b ob (fun q => by subst q; rw [hb] at e; cases e) (H.b2 b ob e), ?_, ?_, H.allcells, ?_, H.own, H.ownc, ?_, ?_⟩, tk⟩
  · obtain ⟨m, hn, y⟩ := H.ns
    exact ⟨m, hn.extBut hs (ne _ (.inr (.inl rfl))), fun x v e l => let ⟨u, h1, h2⟩ := y x v e l; ⟨u, h1, h2.keep tk⟩⟩
  · intro x c e
    obtain ⟨u, h1, h2⟩ := H.cells x c e
    refine ⟨u, ?_, fun v hv hk => let ⟨u', e1, r⟩ := h2 v hv hk; ⟨u', e1, r.keep tk⟩⟩
    obtain ⟨oc, hoc, hdc⟩ := h1
    exact ⟨oc, hs c oc (fun q => by subst q; rw [ho] at hoc; cases hoc; rw [hd] at hdc; cases hdc) hoc, hdc⟩
  · intro a ha
    obtain ⟨h1, items, x⟩ := H.bad a ha
    exact ⟨h1, items, tk _ _ x⟩
  · intro p hp
    obtain ⟨⟨sl, h1⟩, h2⟩ := H.frs p hp
    exact ⟨⟨sl, hs _ _ (ne _ (.inr (.inr (.inl ⟨p, hp, rfl⟩)))) h1⟩, h2⟩
  · intro b ob e
    obtain ⟨h1, h2⟩ := H.store b ob e
    exact ⟨h1.keep tk fun o' ho' => hs _ _ (ne _ (.inl ⟨ob, e⟩)) ho', h2⟩
/-- an iterator at place i of xs; src: the list it reads -/
noncomputable def Itr (C : Cx) (base : Heap) (h : Heap) (it : Value) (xs : List Val) (src : Option Addr) (i : Nat) : Prop :=
  ∃ I, it = .ref I ∧ base.get? I = none ∧
    ((∃ a, src = some a ∧ h.IsListIter I a i) ∨
     (∃ t vs, src = none ∧ h.IsTupleIter I t i ∧ h.IsTuple t (List.toArray vs) ∧ RepVs C.bad h xs vs) ∨
     (∃ (lo step : Int) (n : Nat), src = none ∧ xs = (List.range n).map (fun (k : Nat) => Val.int (lo + step * (k : Int))) ∧ i ≤ n ∧ IsRangeIter h I (lo + step * (i : Int)) ((n : Int) - (i : Int)) step))
theorem Itr.obj {base h it xs src i} (x : Itr C base h it xs src i) : ∃ I o vs n, it = .ref I ∧ base.get? I = none ∧ h.get? I = some o ∧ o.data = .fields vs ∧ o.cls = .type n ∧ (n = "list_iterator" ∨ n = "tuple_iterator" ∨ n = "range_iterator") := by
  obtain ⟨I, rfl, hb, ⟨a, _, o, ho, hc, hd⟩ | ⟨t, vs, _, ⟨o, ho, hc, hd⟩, _⟩ | ⟨lo, st, n, _, _, _, ho⟩⟩ := x
  · exact ⟨I, o, _, _, rfl, hb, ho, hd, hc, .inl rfl⟩
  · exact ⟨I, o, _, _, rfl, hb, ho, hd, hc, .inr (.inl rfl)⟩
  · exact ⟨I, _, _, _, rfl, hb, ho, rfl, rfl, .inr (.inr rfl)⟩
theorem Itr.keep {base h h' it xs src i} (x : Itr C base h it xs src i) (tk : TupKeep h h') (k : ∀ I o, it = .ref I → h.get? I = some o → h'.get? I = some o) : Itr C base h' it xs src i := by
  obtain ⟨I, rfl, hb, ⟨a, e, o, ho, r⟩ | ⟨t, vs, e, ⟨o, ho, r⟩, ht, rs⟩ | ⟨lo, st, n, e, e2, hi, ho⟩⟩ := x
  · exact ⟨I, rfl, hb, .inl ⟨a, e, o, k I o rfl ho, r⟩⟩
  · exact ⟨I, rfl, hb, .inr (.inl ⟨t, vs, e, ⟨o, k I o rfl ho, r⟩, tk _ _ ht, rs.keep tk⟩)⟩
  · exact ⟨I, rfl, hb, .inr (.inr ⟨lo, st, n, e, e2, hi, k I _ rfl ho⟩)⟩
theorem Itr.pers {base it xs src i} {s' : Shared} (x : Itr C base s.heap it xs src i) (H : St C base ρ σ s) (P : Pers C σ s s') : Itr C base s'.heap it xs src i :=
  x.keep P.tup fun I o e ho => by
    obtain ⟨I', o', vs, n, e', _, ho', hd, _⟩ := x.obj
    rw [e] at e'; cases e'; rw [ho] at ho'; cases ho'
    exact P.keep I o ho (H.fieldsLoose ho hd)
theorem Itr.item2 {it xs src i x} {Q : Option Value → Shared → Prop} {E : Value → Shared → Prop} (I : Itr C base s.heap it xs src i) (H : St C base ρ σ s) (hsrc : ∀ a, src = some a → σ a = some (.list xs)) (hx : xs[i]? = some x)
    (h : ∀ v s', St C base ρ σ s' → TupKeep s.heap s'.heap → (∀ b o, it ≠ .ref b → s.heap.get? b = some o → s'.heap.get? b = some o) → RepV C.bad s'.heap x v → Itr C base s'.heap it xs src (i + 1) → Q (some v) s') : wpAny C.M C.A (pyNext it) Q E s := by
  obtain ⟨I, rfl, hb, ⟨a, e, hit⟩ | ⟨t, vs, e, hit, ht, rs⟩ | ⟨lo, st, n, e, e2, hi, hit⟩⟩ := I
  · obtain ⟨vs, hl, rs⟩ := (H.store a _ (hsrc a e)).1
    obtain ⟨v, hv, r⟩ := rs.get hx
    obtain ⟨o, ho, hc, hd⟩ := id hit
    refine wpAny_pyNext_list_item hit hl.isList (by simpa using hv) fun h' hit' hs => ?_
    obtain ⟨H', tk⟩ := H.poke (t := s.toks) ho hd (by rw [hc]; decide) hb hs.extBut
    exact h v _ H' tk (fun b o hb' ho' => hs.extBut b o (fun q => hb' (by rw [q])) ho') (r.keep tk) ⟨I, rfl, hb, .inl ⟨a, e, hit'⟩⟩
  · obtain ⟨v, hv, r⟩ := rs.get hx
    obtain ⟨o, ho, hc, hd⟩ := id hit
    refine wpAny_pyNext_tuple_item hit ht (by simpa using hv) fun h' hit' hs => ?_
    obtain ⟨H', tk⟩ := H.poke (t := s.toks) ho hd (by rw [hc]; decide) hb hs.extBut
    exact h v _ H' tk (fun b o hb' ho' => hs.extBut b o (fun q => hb' (by rw [q])) ho') (r.keep tk) ⟨I, rfl, hb, .inr (.inl ⟨t, vs, e, hit', tk _ _ ht, rs.keep tk⟩)⟩
  · subst e2
    have hi' : i < n := by
      have := (List.getElem?_eq_some_iff.mp hx).1
      simpa using this
    have hxv : x = .int (lo + st * (i : Int)) := by
      rw [List.getElem?_map, List.getElem?_range hi'] at hx
      simpa using hx.symm
    subst hxv
    refine wpAny_pyNext_range_item hit (by lia) fun h' hit' hs => ?_
    obtain ⟨H', tk⟩ := H.poke (t := s.toks + 1) hit rfl (by show Value.type "range_iterator" ≠ _; decide) hb hs.extBut
    refine h _ _ H' tk (fun b o hb' ho' => hs.extBut b o (fun q => hb' (by rw [q])) ho') (by simp [RepV]) ⟨I, rfl, hb, .inr (.inr ⟨lo, st, n, e, rfl, hi', ?_⟩)⟩
    have e1 : lo + st * ((i + 1 : Nat) : Int) = lo + st * (i : Int) + st := by rw [Int.natCast_add, Int.mul_add]; simp; lia
    have e2 : (n : Int) - ((i + 1 : Nat) : Int) = (n : Int) - (i : Int) - 1 := by lia
    rw [e1, e2]; exact hit'
theorem Itr.done2 {it xs src i} {Q : Option Value → Shared → Prop} {E : Value → Shared → Prop} (I : Itr C base s.heap it xs src i) (H : St C base ρ σ s) (hsrc : ∀ a, src = some a → σ a = some (.list xs)) (hq : C.quiet = true) (hx : xs[i]? = none)
    (h : ∀ s', St C base ρ σ s' → TupKeep s.heap s'.heap → (∀ b o, it ≠ .ref b → s.heap.get? b = some o → s'.heap.get? b = some o) → Q none s') : wpAny C.M C.A (pyNext it) Q E s := by
  have hh := H.ok.calm hq
  obtain ⟨I, rfl, hb, ⟨a, e, hit⟩ | ⟨t, vs, e, hit, ht, rs⟩ | ⟨lo, st, n, e, e2, hi, hit⟩⟩ := I
  · obtain ⟨vs, hl, rs⟩ := (H.store a _ (hsrc a e)).1
    have hlen := rs.length
    obtain ⟨o, ho, hc, hd⟩ := id hit
    refine wpAny_pyNext_list_end hh hit hl.isList (by have := List.getElem?_eq_none_iff.mp hx; simp; lia) fun h' hs => ?_
    obtain ⟨H', tk⟩ := H.poke (t := s.toks) ho hd (by rw [hc]; decide) hb hs
    exact h _ H' tk (fun b o hb' ho' => hs b o (fun q => hb' (by rw [q])) ho')
  · have hlen := rs.length
    obtain ⟨o, ho, hc, hd⟩ := id hit
    refine wpAny_pyNext_tuple_end hh hit ht (by have := List.getElem?_eq_none_iff.mp hx; simp; lia) fun h' hs => ?_
    obtain ⟨H', tk⟩ := H.poke (t := s.toks) ho hd (by rw [hc]; decide) hb hs
    exact h _ H' tk (fun b o hb' ho' => hs b o (fun q => hb' (by rw [q])) ho')
  · subst e2
    have hi' : n ≤ i := by simpa using hx
    refine wpAny_pyNext_range_end hh hit (by lia) fun h' hs => ?_
    obtain ⟨H', tk⟩ := H.poke (t := s.toks) hit rfl (by show Value.type "range_iterator" ≠ _; decide) hb hs
    exact h _ H' tk (fun b o hb' ho' => hs b o (fun q => hb' (by rw [q])) ho')
theorem Itr.item {it xs src i x} {Q : Option Value → Shared → Prop} {E : Value → Shared → Prop} (I : Itr C base s.heap it xs src i) (H : St C base ρ σ s) (hsrc : ∀ a, src = some a → σ a = some (.list xs)) (hx : xs[i]? = some x)
    (h : ∀ v s', St C base ρ σ s' → TupKeep s.heap s'.heap → RepV C.bad s'.heap x v → Itr C base s'.heap it xs src (i + 1) → Q (some v) s') : wpAny C.M C.A (pyNext it) Q E s :=
  I.item2 H hsrc hx fun v s' a b z9a c d => h v s' a b c d
theorem Itr.done {it xs src i} {Q : Option Value → Shared → Prop} {E : Value → Shared → Prop} (I : Itr C base s.heap it xs src i) (H : St C base ρ σ s) (hsrc : ∀ a, src = some a → σ a = some (.list xs)) (hq : C.quiet = true) (hx : xs[i]? = none)
    (h : ∀ s', St C base ρ σ s' → TupKeep s.heap s'.heap → Q none s') : wpAny C.M C.A (pyNext it) Q E s :=
  I.done2 H hsrc hq hx fun s' a b z9a => h s' a b
theorem letOwned_skip {M : Model} {A : Around} {E : Value → Shared → Prop} {Q : Unit → Shared → Prop} {target : Expr} {I : Addr} {v : Value} {o : Obj} {n : String} (ho : s.heap.get? I = some o) (hc : o.cls = .type n)
    (hn : ["enumerate", "zip", "dict_itemiterator", "dict_reverseitemiterator", "odict_iterator", "itertools.zip_longest", "itertools.pairwise"].contains n = false) (h : Q () s) : wpAny M A (letOwnedTupleGo target (.ref I) v) Q E s := by
  cases target
  case Tuple =>
    cases v
    all_goals first
      | exact wpAny_pure h
      | (refine wpAny_bind (wpAny_load ho ?_)
         obtain ⟨oc, od, oda, osl⟩ := o
         simp only at hc; subst hc
         cases oda <;> first | exact wpAny_pure h | (simp only [hn, Bool.false_and, Bool.false_eq_true, if_false]; exact wpAny_pure h))
  case List =>
    cases v
    all_goals first
      | exact wpAny_pure h
      | (refine wpAny_bind (wpAny_load ho ?_)
         obtain ⟨oc, od, oda, osl⟩ := o
         simp only at hc; subst hc
         cases oda <;> first | exact wpAny_pure h | (simp only [hn, Bool.false_and, Bool.false_eq_true, if_false]; exact wpAny_pure h))
  all_goals exact wpAny_pure h
theorem Itr.letOwned {it xs src i} {M : Model} {A : Around} {E : Value → Shared → Prop} {Q : Unit → Shared → Prop} {target : Expr} {v : Value} (x : Itr C base s.heap it xs src i) (h : Q () s) : wpAny M A (letOwnedTupleGo target it v) Q E s := by
  obtain ⟨I, o, vs, n, rfl, _, ho, hd, hc, hn⟩ := x.obj
  exact letOwned_skip ho hc (by rcases hn with rfl | rfl | rfl <;> decide) h
/-- what is iterated over -/
noncomputable def ItE (C : Cx) (ρ : Vars) (σ : Store) (e : Expr) (P : List Val → Option Addr → Store → Prop) (X : XPost) : Prop :=
  ∀ base s, St C base ρ σ s → wpAny C.M C.A (eval e C.env) (fun x s₁ => wpAny C.M C.A (pyIter x) (fun it s₂ => ∃ σ' xs src, St C base ρ σ' s₂ ∧ Itr C base s₂.heap it xs src 0 ∧ (∀ a, src = some a → σ' a = some (.list xs)) ∧ P xs src σ') (Xp C base X) s₁) (Xp C base X) s
variable {P : List Val → Option Addr → Store → Prop}
theorem iter_list (H : St C base ρ σ s) {a : Addr} {xs : List Val} (ha : σ a = some (.list xs)) {E : Value → Shared → Prop} (h : P xs (some a) σ) :
    wpAny C.M C.A (pyIter (.ref a)) (fun it s₂ => ∃ σ' xs src, St C base ρ σ' s₂ ∧ Itr C base s₂.heap it xs src 0 ∧ (∀ a, src = some a → σ' a = some (.list xs)) ∧ P xs src σ') E s := by
  obtain ⟨vs, hl, rs⟩ := (H.store a _ ha).1
  refine wpAny_pyIter_list hl.isList ⟨σ, xs, some a, H.push _, ⟨_, rfl, (H.newAddr (Heap.get?_none_of_le (Nat.le_refl _))).1, .inl ⟨a, rfl, _, Heap.get?_push_size _ rfl, rfl, rfl⟩⟩, fun b e => by cases e; exact ha, h⟩
theorem iter_tup (H : St C base ρ σ s) {xs : List Val} {v : Value} (r : RepV C.bad s.heap (.tup xs) v) {E : Value → Shared → Prop} (h : P xs none σ) :
    wpAny C.M C.A (pyIter v) (fun it s₂ => ∃ σ' xs src, St C base ρ σ' s₂ ∧ Itr C base s₂.heap it xs src 0 ∧ (∀ a, src = some a → σ' a = some (.list xs)) ∧ P xs src σ') E s := by
  simp only [RepV] at r
  obtain ⟨t, vs, rfl, ht, _, rs⟩ := r
  have k : ∀ (b : Addr) (o : Obj), s.heap.get? b = some o → (s.heap.push { cls := .type "tuple_iterator", data := .fields #[.ref t, .int 0 0] }).get? b = some o := fun z9a z9b e => Heap.get?_push_of_some _ e
  refine wpAny_pyIter_tuple ht ⟨σ, xs, none, H.push _, ⟨_, rfl, (H.newAddr (Heap.get?_none_of_le (Nat.le_refl _))).1, .inr (.inl ⟨t, vs, rfl, ⟨_, Heap.get?_push_size _ rfl, rfl, rfl⟩, ht.push _, rs.keep (.of_keeps k)⟩)⟩, fun b e => (nomatch e), h⟩
noncomputable abbrev OfP (P : List Val → Option Addr → Store → Prop) : Val → Store → Prop := fun d σ' => (∃ a xs, d = .ref a ∧ σ' a = some (.list xs) ∧ P xs (some a) σ') ∨ (∃ xs, d = .tup xs ∧ P xs none σ')
theorem ofL {P : List Val → Option Addr → Store → Prop} {a : Addr} {xs : List Val} (ha : σ a = some (.list xs)) (h : P xs (some a) σ) : OfP P (.ref a) σ := .inl ⟨a, xs, rfl, ha, h⟩
theorem ofT {P : List Val → Option Addr → Store → Prop} {xs : List Val} (h : P xs none σ) : OfP P (.tup xs) σ := .inr ⟨xs, rfl, h⟩
theorem ItE.of_ev {e : Expr} (h : Ev C ρ σ e (OfP P) X) : ItE C ρ σ e P X := fun base s H =>
  h.run H (fun v d σ' s' H' z9a r q => by
    rcases q with ⟨a, xs, rfl, ha, q⟩ | ⟨xs, rfl, q⟩
    · simp only [RepV] at r; subst r; exact iter_list H' ha q
    · exact iter_tup H' r q) fun z9a z9b x => x
noncomputable def rangeL (a b c : Int) : List Val := (List.range (Builtin.Range.rangeSize a b c).toNat).map fun (k : Nat) => Val.int (a + c * (k : Int))
theorem iter_range (H : St C base ρ σ s) {r : Addr} {a b c : Int} {t u v : Tok} (hr : IsRange s.heap r a b c t u v) (hsm : Builtin.Range.small a b c = true) (h0 : 0 ≤ Builtin.Range.rangeSize a b c) {E : Value → Shared → Prop} (h : P (rangeL a b c) none σ) :
    wpAny C.M C.A (pyIter (.ref r)) (fun it s₂ => ∃ σ' xs src, St C base ρ σ' s₂ ∧ Itr C base s₂.heap it xs src 0 ∧ (∀ a, src = some a → σ' a = some (.list xs)) ∧ P xs src σ') E s := by
  refine wpAny_pyIter_range hr hsm ⟨σ, rangeL a b c, none, H.push _, ⟨_, rfl, (H.newAddr (Heap.get?_none_of_le (Nat.le_refl _))).1, .inr (.inr ⟨a, c, (Builtin.Range.rangeSize a b c).toNat, rfl, rfl, Nat.zero_le _, ?_⟩)⟩, fun b e => (nomatch e), h⟩
  have e1 : a + c * ((0 : Nat) : Int) = a := by simp
  have e2 : ((Builtin.Range.rangeSize a b c).toNat : Int) - ((0 : Nat) : Int) = Builtin.Range.rangeSize a b c := by lia
  rw [e1, e2]
  exact Heap.get?_push_size _ rfl
end
end Mine
set_option tactic.hygienic false
namespace Mine
open PySem PySem.W PyProof.Rows PySem.Calls
section
variable {C : Cx} {base : Heap} {ρ : Vars} {σ : Store} {s : Shared} {X : XPost}
noncomputable def Keep1 (src : Option Addr) (xs : List Val) (σ : Store) : Prop := ∀ a, src = some a → σ a = some (.list xs)
theorem Xp.noted {e : Value} (hX : C.Fn ∨ ∀ c ρ σ, ¬ X c ρ σ) (x : Xp C base X e s) : notedBy C.M C.A C.env (fun e s' => cameBackBy C.M C.A C.env (Xp C base X) e s') e s := by
  obtain ⟨c, ρ', σ', x, H, q⟩ := x
  rcases hX with hF | hX
  · exact noted_on H hF x fun s' H' x' => ⟨c, ρ', σ', x', H', q⟩
  · exact absurd q (hX _ _ _)
theorem Xp.noted0 {e : Value} {E : Value → Shared → Prop} (x : Xp C base noX e s) : notedBy C.M C.A C.env E e s := by
  obtain ⟨c, ρ', σ', x, H, q⟩ := x
  exact q.elim
noncomputable abbrev LoopP (Q : Out → Vars → Store → Prop) (src : Option Addr) (xs : List Val) (J : Vars → Store → Prop) : Out → Vars → Store → Prop := fun o ρ₄ σ₄ => match o with
        | .next => Keep1 src xs σ₄ ∧ J ρ₄ σ₄ | .cont => Keep1 src xs σ₄ ∧ J ρ₄ σ₄ | .brk => Q .next ρ₄ σ₄ | .ret v => Q (.ret v) ρ₄ σ₄
noncomputable abbrev ExP (C : Cx) (body : List Stmt) (Q : Out → Vars → Store → Prop) (X : XPost) : Vars → Store → Prop := fun ρ₃ σ₃ => Ex C ρ₃ σ₃ body Q X
noncomputable abbrev ForP (C : Cx) (ρ : Vars) (target : Expr) (body : List Stmt) (Q : Out → Vars → Store → Prop) (X : XPost) : List Val → Option Addr → Store → Prop := fun xs src σ₁ => ∃ J : Nat → Vars → Store → Prop, J 0 ρ σ₁ ∧
      (∀ i x ρ₂ σ₂, xs[i]? = some x → J i ρ₂ σ₂ → Keep1 src xs σ₂ → As C ρ₂ σ₂ target x (ExP C body (LoopP Q src xs (J (i + 1))) X) X) ∧
      (∀ ρ₂ σ₂, J xs.length ρ₂ σ₂ → Keep1 src xs σ₂ → Q .next ρ₂ σ₂)
theorem forI {Q : Out → Vars → Store → Prop} {target : Expr} {body : List Stmt} {xs : List Val} {src : Option Addr} (J : Nat → Vars → Store → Prop) (h0 : J 0 ρ σ)
    (hs : let J' := J; let Q' := Q; ∀ i x ρ₂ σ₂, xs[i]? = some x → J i ρ₂ σ₂ → Keep1 src xs σ₂ → As C ρ₂ σ₂ target x (ExP C body (LoopP Q' src xs (J' (i + 1))) X) X)
    (he : ∀ ρ₂ σ₂, J xs.length ρ₂ σ₂ → Keep1 src xs σ₂ → Q .next ρ₂ σ₂) : ForP C ρ target body Q X xs src σ := ⟨J, h0, hs, he⟩
theorem Ex1.for {Q : Out → Vars → Store → Prop} {target iter : Expr} {body : List Stmt} {pos : Pos} (hq : C.quiet = true) (hX : C.Fn ∨ ∀ c ρ σ, ¬ X c ρ σ)
    (h : ItE C ρ σ iter (ForP C ρ target body Q X) X)
    (hs : ∀ x, foldedSetIterable iter C.env x = pure x := by intro _; rfl) : Ex1 C ρ σ (.For target iter body [] pos) Q X :=
  Ex1.intro fun base s H => by
    refine wpAny_For (wpAny_mono (h base s H) (fun x s₁ h₁ => wpAny_mono h₁ (fun it s₂ h₂ => ?_) fun z9a z9b x => x) fun z9a z9b x => x) hs
    obtain ⟨σ₁, xs, src, H₁, I₁, k₁, J, hJ, hstep, hend⟩ := h₂
    refine codeAny_forLoop_any (fun n s' => ∃ i ρ₂ σ₂, n = xs.length + 1 - i ∧ i ≤ xs.length ∧ St C base ρ₂ σ₂ s' ∧ Itr C base s'.heap it xs src i ∧ Keep1 src xs σ₂ ∧ J i ρ₂ σ₂) ?_ (xs.length + 1)
      ⟨0, ρ, σ₁, rfl, Nat.zero_le _, H₁, I₁, k₁, hJ⟩
    rintro n s' ⟨i, ρ₂, σ₂, rfl, hi, H₂, I₂, k₂, J₂⟩
    cases hx : xs[i]? with
    | none =>
      have hi' : i = xs.length := by have := List.getElem?_eq_none_iff.mp hx; lia
      subst hi'
      exact I₂.done H₂ k₂ hq hx fun s₃ H₃ tk => wpAny_execs_nil ⟨.next, ρ₂, σ₂, H₃, by simp [RepF], hend _ _ J₂ k₂⟩
    | some x =>
      have hi' : i < xs.length := (List.getElem?_eq_some_iff.mp hx).1
      refine I₂.item H₂ k₂ hx fun v s₃ H₃ tk r I₃ => I₃.letOwned ?_
      refine (hstep i x ρ₂ σ₂ hx J₂ k₂).run H₃ r (fun ρ₄ σ₄ s₄ H₄ P₄ hb => ?_) fun e s' x => x.noted hX
      have I₄ := I₃.pers H₃ P₄
      refine hb.run H₄ (fun f o ρ₅ σ₅ s₅ H₅ P₅ rf q => ?_) fun e s' x => x.noted hX
      have I₅ := I₄.pers H₄ P₅
      cases o with
      | next => simp only [RepF] at rf; subst rf; exact ⟨xs.length + 1 - (i + 1), turn_lt hi', i + 1, ρ₅, σ₅, rfl, hi', H₅, I₅, q.1, q.2⟩
      | cont => simp only [RepF] at rf; subst rf; exact ⟨xs.length + 1 - (i + 1), turn_lt hi', i + 1, ρ₅, σ₅, rfl, hi', H₅, I₅, q.1, q.2⟩
      | brk => simp only [RepF] at rf; subst rf; exact ⟨.next, ρ₅, σ₅, H₅, by simp [RepF], q⟩
      | ret d => have rf0 := rf; simp only [RepF] at rf; obtain ⟨u, rfl, r'⟩ := rf; exact ⟨.ret d, ρ₅, σ₅, H₅, rf0, q⟩
-- range as what is iterated over
theorem rangeSize_up (a b : Int) : Builtin.Range.rangeSize a b 1 = if a < b then b - a else 0 := by
  unfold Builtin.Range.rangeSize; simp
theorem rangeSize_down (a b : Int) : Builtin.Range.rangeSize a b (-1) = if a > b then a - b else 0 := by
  unfold Builtin.Range.rangeSize; simp
theorem bnd {a : Int} (ha : -(2 ^ 40) ≤ a ∧ a ≤ 2 ^ 40) : -9223372036854775808 ≤ a ∧ a < 9223372036854775808 := ⟨Int.le_trans (by decide) ha.1, Int.lt_of_le_of_lt ha.2 (by decide)⟩
theorem bndS {a b : Int} (ha : -(2 ^ 40) ≤ a ∧ a ≤ 2 ^ 40) (hb : -(2 ^ 40) ≤ b ∧ b ≤ 2 ^ 40) : -9223372036854775808 ≤ a - b ∧ a - b < 9223372036854775808 := ⟨Int.le_trans (by decide) (Int.sub_le_sub ha.1 hb.2), Int.lt_of_le_of_lt (Int.sub_le_sub ha.2 hb.1) (by decide)⟩
theorem small_up {a b : Int} (ha : -(2 ^ 40) ≤ a ∧ a ≤ 2 ^ 40) (hb : -(2 ^ 40) ≤ b ∧ b ≤ 2 ^ 40) : Builtin.Range.small a b 1 = true := by
  unfold Builtin.Range.small
  rw [rangeSize_up]
  unfold Builtin.Range.rangeFitsLong
  simp only [Bool.and_eq_true, Bool.or_eq_true, decide_eq_true_eq, beq_iff_eq]
  split
  · have h1 := bnd ha; have h2 := bnd hb; have h3 := bndS hb ha; simp; exact ⟨⟨⟨h1, h2⟩, h3⟩, .inr h2⟩
  · have h1 := bnd ha; have h2 := bnd hb; simp; exact ⟨h1, h2⟩
theorem small_down {a b : Int} (ha : -(2 ^ 40) ≤ a ∧ a ≤ 2 ^ 40) (hb : -(2 ^ 40) ≤ b ∧ b ≤ 2 ^ 40) : Builtin.Range.small a b (-1) = true := by
  unfold Builtin.Range.small
  rw [rangeSize_down]
  unfold Builtin.Range.rangeFitsLong
  simp only [Bool.and_eq_true, Bool.or_eq_true, decide_eq_true_eq, beq_iff_eq]
  split
  · have h1 := bnd ha; have h2 := bnd hb; have h3 := bndS ha hb; simp; exact ⟨⟨⟨h1, h2⟩, h3⟩, .inr h2⟩
  · have h1 := bnd ha; have h2 := bnd hb; simp; exact ⟨h1, h2⟩
variable {P : List Val → Option Addr → Store → Prop}
theorem iterCall {x : Str} {p pos : Pos} {args : List Expr} {base : Heap} {s : Shared} (H : St C base ρ σ s) {L : Value → List Val → Store → Prop} {Q' : Value → Shared → Prop}
    (h : Ev C ρ σ (.Name x p) (fun d σ₁ => ∃ u, Fixed d u ∧ Keeps C u ∧ Evs C ρ σ₁ args (L u) X) X)
    (he : ∀ e ∈ args, ∀ r, starEach (e :: r) C.env = (false, eval e C.env) :: starEach r C.env)
    (hQ : ∀ u vs ds σ' s', St C base ρ σ' s' → RepVs C.bad s'.heap ds vs → L u ds σ' → wpAny C.M C.A (call u vs) Q' (Xp C base X) s') :
    wpAny C.M C.A (eval (.Call (.Name x p) args [] pos) C.env) Q' (Xp C base X) s := by
  rw [arm_eval_Call_Name']
  refine wpAny_bind (h.run H (fun v d σ₁ s₁ H₁ P₁ r₁ ⟨u, hf, hk, ha⟩ => ?_) fun z9a z9b x => x)
  rw [hf.eq r₁]
  exact callWith_evs H₁ hk ha (fun vs ds σ₂ s₂ H₂ P₂ r₂ hc => hQ u vs ds σ₂ s₂ H₂ r₂ hc) (fun z9a z9b x => x) he
noncomputable abbrev Rg1 (P : List Val → Option Addr → Store → Prop) : Value → List Val → Store → Prop := fun u ds σ₂ => u = .type "range" ∧ ∃ n, ds = [.int n] ∧ -(2 ^ 40) ≤ n ∧ n ≤ 2 ^ 40 ∧ P (rangeL 0 n 1) none σ₂
theorem rg1I {n : Int} (h1 : -(2 ^ 40) ≤ n) (h2 : n ≤ 2 ^ 40) (h : P (rangeL 0 n 1) none σ) : Rg1 P (.type "range") [.int n] σ := ⟨rfl, n, rfl, h1, h2, h⟩
theorem ItE.range1 {x : Str} {p pos : Pos} {args : List Expr}
    (h : Ev C ρ σ (.Name x p) (CallP C ρ args (Rg1 P) X) X)
    (he : ∀ e ∈ args, ∀ r, starEach (e :: r) C.env = (false, eval e C.env) :: starEach r C.env) : ItE C ρ σ (.Call (.Name x p) args [] pos) P X := fun base s H =>
  iterCall (L := Rg1 P) H h he fun u vs ds σ' s' H' r ⟨e, n, e2, h1, h2, q⟩ => by
    subst e e2
    simp only [RepVs, RepV] at r
    obtain ⟨v, ws, rfl, ⟨t, rfl⟩, rfl⟩ := r
    refine call_range_1 ?_
    exact iter_range (H'.push (t := s'.toks + 1 + 1) _) (IsRange.new _ _ _ _ _ _ _) (small_up (by lia) ⟨h1, h2⟩) (by rw [rangeSize_up]; split <;> lia) q
noncomputable abbrev Rg2 (P : List Val → Option Addr → Store → Prop) : Value → List Val → Store → Prop := fun u ds σ₂ => u = .type "range" ∧ ∃ a n, ds = [.int a, .int n] ∧ (-(2 ^ 40) ≤ a ∧ a ≤ 2 ^ 40) ∧ (-(2 ^ 40) ≤ n ∧ n ≤ 2 ^ 40) ∧ P (rangeL a n 1) none σ₂
theorem ItE.range2 {x : Str} {p pos : Pos} {args : List Expr}
    (h : Ev C ρ σ (.Name x p) (CallP C ρ args (Rg2 P) X) X)
    (he : ∀ e ∈ args, ∀ r, starEach (e :: r) C.env = (false, eval e C.env) :: starEach r C.env) : ItE C ρ σ (.Call (.Name x p) args [] pos) P X := fun base s H =>
  iterCall (L := Rg2 P) H h he fun u vs ds σ' s' H' r ⟨e, a, n, e2, h1, h2, q⟩ => by
    subst e e2
    simp only [RepVs, RepV] at r
    obtain ⟨v, ws, rfl, ⟨t, rfl⟩, v', ws', rfl, ⟨t', rfl⟩, rfl⟩ := r
    refine call_range_2 ?_
    exact iter_range (H'.push (t := s'.toks + 1) _) (IsRange.new _ _ _ _ _ _ _) (small_up h1 h2) (by rw [rangeSize_up]; split <;> lia) q
noncomputable abbrev Rg3 (P : List Val → Option Addr → Store → Prop) : Value → List Val → Store → Prop := fun u ds σ₂ => u = .type "range" ∧ ∃ a n, ds = [.int a, .int n, .int (-1)] ∧ (-(2 ^ 40) ≤ a ∧ a ≤ 2 ^ 40) ∧ (-(2 ^ 40) ≤ n ∧ n ≤ 2 ^ 40) ∧ P (rangeL a n (-1)) none σ₂
theorem ItE.range3 {x : Str} {p pos : Pos} {args : List Expr}
    (h : Ev C ρ σ (.Name x p) (CallP C ρ args (Rg3 P) X) X)
    (he : ∀ e ∈ args, ∀ r, starEach (e :: r) C.env = (false, eval e C.env) :: starEach r C.env) : ItE C ρ σ (.Call (.Name x p) args [] pos) P X := fun base s H =>
  iterCall (L := Rg3 P) H h he fun u vs ds σ' s' H' r ⟨e, a, n, e2, h1, h2, q⟩ => by
    subst e e2
    simp only [RepVs, RepV] at r
    obtain ⟨v, ws, rfl, ⟨t, rfl⟩, v', ws', rfl, ⟨t', rfl⟩, v'', ws'', rfl, ⟨t'', rfl⟩, rfl⟩ := r
    refine call_range_3 (by decide) ?_ (.inl ?_)
    · exact iter_range (H'.push (t := s'.toks) _) (IsRange.new _ _ _ _ _ _ _) (small_down h1 h2) (by rw [rangeSize_down]; split <;> lia) q
    · exact PyProof.noPylong_small (by lia)
end
end Mine
set_option tactic.hygienic false
namespace Mine
open PySem PySem.W PyProof.Rows PySem.Calls
section
variable {C : Cx} {base : Heap} {ρ : Vars} {σ : Store} {s : Shared} {X : XPost}
-- a run that also tells what it does not track
theorem Tp.run2 {α : Type} {t : Sem α} {Q : α → Heap → Vars → Store → Prop} {Q' : α → Shared → Prop} {E' : Value → Shared → Prop}
    (h : Tp C ρ σ t Q X) (H : St C base ρ σ s)
    (hQ : ∀ a ρ' σ' s', St C base ρ' σ' s' → Pers C σ s s' → (∀ b o, s.heap.get? b = some o → ¬ C.Loose σ b → σ' b = none) → Q a s'.heap ρ' σ' → Q' a s')
    (hX : ∀ e s', Xp C base X e s' → E' e s') : wpAny C.M C.A t Q' E' s := by
  refine wpAny_mono (h _ s H.rebase) ?_ ?_
  · rintro a s' ⟨ρ', σ', H', q⟩
    refine hQ a ρ' σ' s' (H'.narrow H.b1 H.base_in) ⟨fun a items t => (TupKeep.of_keeps H'.b2) a items (H.tuples a items t), fun b o e hn => H'.b2 b o (wipe_get.mpr ⟨hn, e⟩)⟩ (fun b o e hn => ?_) q
    cases r : σ' b with
    | none => rfl
    | some ob => have := (H'.store b ob r).2.1; rw [wipe_get.mpr ⟨hn, e⟩] at this; cases this
  · rintro e s' ⟨c, ρ', σ', x, H', q⟩
    exact hX e s' ⟨c, ρ', σ', x.narrow H.base_in, H'.narrow H.b1 H.base_in, q⟩
theorem As.run2 {T : Vars → Store → Prop} {t : Expr} {d : Val} (h : As C ρ σ t d T X) (H : St C base ρ σ s) {v : Value} (r : RepV C.bad s.heap d v) {Q' : Unit → Shared → Prop} {E' : Value → Shared → Prop}
    (hQ : ∀ ρ' σ' s', St C base ρ' σ' s' → Pers C σ s s' → (∀ b o, s.heap.get? b = some o → ¬ C.Loose σ b → σ' b = none) → T ρ' σ' → Q' () s') (hX : ∀ e s', Xp C base X e s' → E' e s') : wpAny C.M C.A (assign t C.env v) Q' E' s := by
  refine wpAny_mono (h _ s v H.rebase r) ?_ ?_
  · rintro _ s' ⟨ρ', σ', H', q⟩
    refine hQ ρ' σ' s' (H'.narrow H.b1 H.base_in) ⟨fun a items t => (TupKeep.of_keeps H'.b2) a items (H.tuples a items t), fun b o e hn => H'.b2 b o (wipe_get.mpr ⟨hn, e⟩)⟩ (fun b o e hn => ?_) q
    cases r : σ' b with
    | none => rfl
    | some ob => have := (H'.store b ob r).2.1; rw [wipe_get.mpr ⟨hn, e⟩] at this; cases this
  · rintro e s' ⟨c, ρ', σ', x, H', q⟩
    exact hX e s' ⟨c, ρ', σ', x.narrow H.base_in, H'.narrow H.b1 H.base_in, q⟩
theorem Ev.run2 {e : Expr} {Q : Val → Store → Prop} (h : Ev C ρ σ e Q X) (H : St C base ρ σ s) {Q' : Value → Shared → Prop} {E' : Value → Shared → Prop}
    (hQ : ∀ v d σ' s', St C base ρ σ' s' → Pers C σ s s' → (∀ b o, s.heap.get? b = some o → ¬ C.Loose σ b → σ' b = Option.none) → RepV C.bad s'.heap d v → Q d σ' → Q' v s') (hX : ∀ e s', Xp C base X e s' → E' e s') :
    wpAny C.M C.A (eval e C.env) Q' E' s :=
  Tp.run2 h H (fun v ρ' σ' s' H' P F ⟨e, d, r, q⟩ => by subst e; exact hQ v d σ' s' H' P F r q) hX
theorem Tst.run2 {e : Expr} {B : Bool → Store → Prop} (h : Tst C ρ σ e B X) (H : St C base ρ σ s) {Q' : Bool → Shared → Prop} {E' : Value → Shared → Prop}
    (hQ : ∀ b σ' s', St C base ρ σ' s' → Pers C σ s s' → (∀ b o, s.heap.get? b = some o → ¬ C.Loose σ b → σ' b = none) → B b σ' → Q' b s') (hX : ∀ e s', Xp C base X e s' → E' e s') : wpAny C.M C.A (isTrue e C.env (eval e C.env)) Q' E' s :=
  Tp.run2 h H (fun v ρ' σ' s' H' P F ⟨e, q⟩ => by subst e; exact hQ v σ' s' H' P F q) hX
/-- a thing of nobody's changes -/
theorem St.poke' (H : St C base ρ σ s) {c : Addr} {h' : Heap} {t : Nat} (hl : ¬ C.Loose σ c) (hb : base.get? c = none) (hnt : ∀ items, ¬ s.heap.IsTuple c items) (hnc : ∀ u, ¬ s.heap.IsCell c u) (hs : Heap.ExtBut c s.heap h') :
    St C base ρ σ { s with heap := h', toks := t } ∧ TupKeep s.heap h' := by
  have tk : TupKeep s.heap h' := fun a items x => by
    have hne : a ≠ c := fun e => by subst e; exact hnt _ x
    obtain ⟨o', ho', r⟩ := x
    exact ⟨o', hs a o' hne ho', r⟩
  have ne : ∀ b, C.Loose σ b → b ≠ c := fun b x e => hl (e ▸ x)
  refine ⟨⟨H.ok, H.gens, H.os, H.b1, fun b ob e => hs b ob (fun q => by subst q; rw [hb] at e; cases e) (H.b2 b ob e), ?_, ?_, H.allcells, ?_, H.own, H.ownc, ?_, ?_⟩, tk⟩
  · obtain ⟨m, hn, y⟩ := H.ns
    exact ⟨m, hn.extBut hs (ne _ (.inr (.inl rfl))), fun x v e l => let ⟨u, h1, h2⟩ := y x v e l; ⟨u, h1, h2.keep tk⟩⟩
  · intro x c' e
    obtain ⟨u, h1, h2⟩ := H.cells x c' e
    refine ⟨u, ?_, fun v hv hk => let ⟨u', e1, r⟩ := h2 v hv hk; ⟨u', e1, r.keep tk⟩⟩
    have hne : c' ≠ c := fun q => by subst q; exact hnc _ h1
    obtain ⟨oc, hoc, hdc⟩ := h1
    exact ⟨oc, hs c' oc hne hoc, hdc⟩
  · intro a ha
    obtain ⟨h1, items, x⟩ := H.bad a ha
    exact ⟨h1, items, tk _ _ x⟩
  · intro p hp
    obtain ⟨⟨sl, h1⟩, h2⟩ := H.frs p hp
    exact ⟨⟨sl, hs _ _ (ne _ (.inr (.inr (.inl ⟨p, hp, rfl⟩)))) h1⟩, h2⟩
  · intro b ob e
    obtain ⟨h1, h2⟩ := H.store b ob e
    exact ⟨h1.keep tk fun o' ho' => hs _ _ (ne _ (.inl ⟨ob, e⟩)) ho', h2⟩
/-- what a comprehension captures -/
noncomputable def capL (env : Env) (names : List (Str × NameKind)) : List (Str × Addr) := (names.filterMap fun x => if x.2 = .free then some (x.1, (env.cells.lookup x.1).getD 0) else none).reverse
theorem closure_cap {env : Env} {scope : Scope} (h : ∀ x ∈ scope.names, x.2 = .free → (env.cells.lookup x.1).isSome = true) : closureFor scope env = pure (capL env scope.names) := by
  have key : ∀ (l : List (Str × NameKind)) (acc : List (Str × Addr)), (∀ x ∈ l, x.2 = .free → (env.cells.lookup x.1).isSome = true) →
      (forIn l acc fun (x : Str × NameKind) (r : List (Str × Addr)) => (if x.2 == NameKind.free then do let a ← cellOf env x.1; pure (ForInStep.yield ((x.1, a) :: r)) else pure (ForInStep.yield r) : Sem (ForInStep (List (Str × Addr))))) = pure ((l.filterMap fun x => if x.2 = .free then some (x.1, (env.cells.lookup x.1).getD 0) else none).reverse ++ acc) := by
    intro l
    induction l with
    | nil => intro acc _; rfl
    | cons x r ih =>
      intro acc h
      rw [List.forIn_cons]
      by_cases hx : x.2 = .free
      · obtain ⟨c, hc⟩ := Option.isSome_iff_exists.mp (h x List.mem_cons_self hx)
        have e1 : cellOf env x.1 = pure c := by unfold cellOf; rw [hc]
        simp only [hx, beq_self_eq_true, if_true, e1]
        show (forIn r ((x.1, c) :: acc) _ : Sem _) = _
        rw [ih _ fun y hy => h y (List.mem_cons_of_mem _ hy)]
        simp [List.filterMap_cons, hx, hc]
      · have hb : (x.2 == NameKind.free) = false := by simpa using hx
        simp only [hb, Bool.false_eq_true, if_false]
        show (forIn r acc _ : Sem _) = _
        rw [ih _ fun y hy => h y (List.mem_cons_of_mem _ hy)]
        simp [List.filterMap_cons, hx]
  unfold closureFor
  have := key scope.names [] h
  rw [List.append_nil] at this
  rw [show (capL env scope.names) = (scope.names.filterMap fun x => if x.2 = .free then some (x.1, (env.cells.lookup x.1).getD 0) else none).reverse from rfl]
  show (forIn scope.names ([] : List (Str × Addr)) _ >>= fun cs => pure cs : Sem _) = _
  rw [show (forIn scope.names ([] : List (Str × Addr)) _ : Sem (List (Str × Addr))) = _ from this]
  rfl
theorem lookup_of_nodup {α : Type} : ∀ {l : List (Str × α)} {y : Str × α}, (l.map (·.1)).Nodup → y ∈ l → l.lookup y.1 = some y.2
  | [], _, _, h => by cases h
  | z :: r, y, hn, h => by
    rw [List.map_cons, List.nodup_cons] at hn
    rw [List.lookup_cons]
    rcases List.mem_cons.mp h with rfl | h
    · simp
    · have : (y.1 == z.1) = false := by
        have : y.1 ≠ z.1 := fun e => hn.1 (e ▸ List.mem_map.mpr ⟨y, h, rfl⟩)
        simpa using this
      rw [this]; exact lookup_of_nodup hn.2 h
theorem capL_lookup {env : Env} {names : List (Str × NameKind)} {x : Str} {c : Addr} (hn : (names.map (·.1)).Nodup) (h : (capL env names).lookup x = some c) : names.lookup x = some .free ∧ c = (env.cells.lookup x).getD 0 := by
  have hm := mem_of_lookup h
  unfold capL at hm
  rw [List.mem_reverse, List.mem_filterMap] at hm
  obtain ⟨y, hy, e⟩ := hm
  split at e
  · rename_i hf
    cases e
    exact ⟨by rw [← hf]; exact lookup_of_nodup hn hy, rfl⟩
  · cases e
theorem capL_some {env : Env} {names : List (Str × NameKind)} {x : Str} (h : names.lookup x = some .free) : ((capL env names).lookup x).isSome = true := by
  have hm := mem_of_lookup h
  have : (x, (env.cells.lookup x).getD 0) ∈ capL env names := by
    unfold capL
    rw [List.mem_reverse, List.mem_filterMap]
    exact ⟨_, hm, by simp⟩
  cases q : (capL env names).lookup x with
  | some c => rfl
  | none => exact absurd this (by
      intro hm
      rw [List.lookup_eq_none_iff] at q
      have := q _ hm
      simp at this)
structure CompOk (C : Cx) (scope : Scope) : Prop where
  kind : scope.kind = .function
  nocell : ∀ y ∈ scope.names, y.2 ≠ .cell
  nodup : (scope.names.map (·.1)).Nodup
  free : ∀ y ∈ scope.names, y.2 = .free → C.env.kindOf y.1 = some .cell
/-- the place of a comprehension in C -/
structure Comp (C C' : Cx) (scope : Scope) : Prop where
  prog : C'.prog = C.prog
  w : C'.w = C.w
  h₁ : C'.h₁ = C.h₁
  K : C'.K = C.K
  quiet : C'.quiet = C.quiet
  room : C'.room = C.room
  bad : C'.bad = C.bad
  kind : ∀ x k, scope.names.lookup x = some k → C'.env.kindOf x = some (if k = .free then .cell else k)
noncomputable def Capt (scope : Scope) (ρ ρ' : Vars) : Prop := ∀ x, scope.names.lookup x = some .free → ρ' x = ρ x
noncomputable def capV (scope : Scope) (ρ : Vars) : Vars := fun x => if scope.names.lookup x = some .free then ρ x else none
theorem capV_capt (scope : Scope) (ρ : Vars) : Capt scope ρ (capV scope ρ) := fun x h => by unfold capV; rw [if_pos h]
noncomputable def compCx (C : Cx) (scope : Scope) (Lc : Addr) (oL : Obj) : Cx := { C with env := compEnvC scope (capL C.env scope.names) Lc C.env, frs := (C.env.locals, oL) :: C.frs }
theorem lookup_relabel {env : Env} (hk : env.scope.kind = .function) {names : List (Str × NameKind)} (hf : ∀ y ∈ names, y.2 = .free → env.kindOf y.1 = some .cell) (x : Str) :
    (names.map fun (n, k) => if (k == NameKind.free && env.scope.kind == .function && env.kindOf n == some .cell) then (n, NameKind.cell) else (n, k)).lookup x = (names.lookup x).map fun k => if k = .free then .cell else k := by
  induction names with
  | nil => rfl
  | cons y r ih =>
    obtain ⟨n, k⟩ := y
    have ih := ih fun y hy => hf y (List.mem_cons_of_mem _ hy)
    rw [List.map_cons]
    have e : (if (k == NameKind.free && env.scope.kind == .function && env.kindOf n == some .cell) then (n, NameKind.cell) else (n, k)) = (n, if k = .free then NameKind.cell else k) := by
      by_cases hx : k = .free
      · subst hx
        simp [hk, hf _ List.mem_cons_self rfl]
      · have : (k == NameKind.free) = false := by simpa using hx
        simp [this, hx]
    show List.lookup x ((if (k == NameKind.free && env.scope.kind == .function && env.kindOf n == some .cell) = true then (n, NameKind.cell) else (n, k)) :: _) = _
    rw [e, List.lookup_cons, List.lookup_cons]
    cases x == n with
    | true => rfl
    | false => exact ih
theorem compCx_kind (H : C.Ok) {scope : Scope} (ok : CompOk C scope) {Lc oL} (x : Str) : (compCx C scope Lc oL).env.kindOf x = (scope.names.lookup x).map fun k => if k = .free then .cell else k :=
  lookup_relabel H.kind ok.free x
theorem compCx_comp (H : C.Ok) {scope : Scope} (ok : CompOk C scope) {Lc oL} : Comp C (compCx C scope Lc oL) scope :=
  ⟨rfl, rfl, rfl, rfl, rfl, rfl, rfl, fun x k e => by rw [compCx_kind H ok, e]; rfl⟩
/-- what a comprehension's frame may touch; its base -/
noncomputable def compBase (C : Cx) (scope : Scope) (σ : Store) (h : Heap) (it : Value) : Heap :=
  wipe h fun b => (∃ o, σ b = some o) ∨ b = C.env.locals ∨ (∃ p ∈ C.frs, p.1 = b) ∨ (∃ x, (capL C.env scope.names).lookup x = some b) ∨ it = .ref b
theorem capL_apart {env : Env} {names : List (Str × NameKind)} (hn : (names.map (·.1)).Nodup) (hc : env.cells.Pairwise fun x y => x.2 ≠ y.2) (hs : ∀ x ∈ names, x.2 = .free → (env.cells.lookup x.1).isSome = true) :
    (capL env names).Pairwise fun x y => x.2 ≠ y.2 := by
  unfold capL
  rw [List.pairwise_reverse]
  have : ∀ l : List (Str × NameKind), (l.map (·.1)).Nodup → (∀ x ∈ l, x.2 = .free → (env.cells.lookup x.1).isSome = true) →
      (l.filterMap fun x => if x.2 = .free then some (x.1, (env.cells.lookup x.1).getD 0) else none).Pairwise fun x y => y.2 ≠ x.2 := by
    intro l
    induction l with
    | nil => intro _ _; exact .nil
    | cons y r ih =>
      intro hn hs
      rw [List.map_cons, List.nodup_cons] at hn
      have ih := ih hn.2 fun x hx => hs x (List.mem_cons_of_mem _ hx)
      rw [List.filterMap_cons]
      by_cases hf : y.2 = .free
      · rw [if_pos hf]
        refine .cons (fun z hz => ?_) ih
        rw [List.mem_filterMap] at hz
        obtain ⟨u, hu, e⟩ := hz
        split at e
        · rename_i hf'
          cases e
          obtain ⟨c1, h1⟩ := Option.isSome_iff_exists.mp (hs y List.mem_cons_self hf)
          obtain ⟨c2, h2⟩ := Option.isSome_iff_exists.mp (hs u (List.mem_cons_of_mem _ hu) hf')
          intro q
          have q : (env.cells.lookup u.1).getD 0 = (env.cells.lookup y.1).getD 0 := q
          rw [h1, h2] at q
          have q : c2 = c1 := q
          subst q
          have := name_of_addr hc (mem_of_lookup h1) (mem_of_lookup h2)
          exact hn.1 (this ▸ List.mem_map.mpr ⟨u, hu, rfl⟩)
        · cases e
      · rw [if_neg hf]; exact ih
  exact this names hn hs
theorem comp_enter (H : St C base ρ σ s) {scope : Scope} (ok : CompOk C scope) {it : Value} (hit : ∀ I, it = .ref I → base.get? I = none ∧ ∃ o vs, s.heap.get? I = some o ∧ o.data = .fields vs) {oL : Obj} (hoL : s.heap.get? C.env.locals = some oL) {h' : Heap} {t : Nat} {Lc : Addr}
    (keep : ∀ b o, s.heap.get? b = some o → h'.get? b = some o) (hLc : s.heap.get? Lc = none) (hn : h'.Ns Lc (fun z9a => none)) :
    St (compCx C scope Lc oL) (compBase C scope σ s.heap it) (capV scope ρ) σ { s with heap := h', toks := t } := by
  have hkind := fun x => compCx_kind (Lc := Lc) (oL := oL) H.ok ok x
  obtain ⟨m₀, ⟨oL', esL, epL, hoL', hdL, _⟩, _⟩ := id H.ns
  rw [hoL] at hoL'; cases hoL'
  have hfree : ∀ x ∈ scope.names, x.2 = .free → (C.env.cells.lookup x.1).isSome = true := fun x hx hf => H.allcells x.1 (.inl (ok.free x hx hf))
  have hcap : ∀ x c, (capL C.env scope.names).lookup x = some c → scope.names.lookup x = some .free ∧ C.env.cells.lookup x = some c := fun x c e => by
    obtain ⟨h1, h2⟩ := capL_lookup ok.nodup e
    obtain ⟨c', h3⟩ := Option.isSome_iff_exists.mp (hfree _ (mem_of_lookup h1) rfl)
    rw [h3] at h2
    exact ⟨h1, by rw [h3]; exact congrArg some h2.symm⟩
  have hnone : (compBase C scope σ s.heap it).get? Lc = none := by
    cases q : (compBase C scope σ s.heap it).get? Lc with
    | none => rfl
    | some o => have := (wipe_get.mp q).2; rw [hLc] at this; cases this
  have hne : ∀ b o, s.heap.get? b = some o → b ≠ Lc := fun b o e q => by subst q; rw [hLc] at e; cases e
  exact {
    ok := {
      depth := H.ok.depth
      units := H.ok.units
      calm := H.ok.calm
      kind := ok.kind
      globals := H.ok.globals
      builtins := H.ok.builtins
      kin := H.ok.kin
      hasf := H.ok.hasf
      nolimit := H.ok.nolimit
      apart := capL_apart ok.nodup H.ok.apart hfree
      stack := fun l hl e he => by
        obtain ⟨k1, L, k2, k3⟩ := H.ok.stack l hl e he
        refine ⟨k1, L, k2, .inr ?_⟩
        rcases k3 with rfl | ⟨o, k3⟩
        · exact ⟨oL, List.mem_cons_self⟩
        · exact ⟨o, List.mem_cons_of_mem _ k3⟩ }
    gens := H.gens
    os := H.os
    b1 := fun b o e => by
      have e1 := H.b1 b o e
      refine wipe_get.mpr ⟨?_, H.b2 _ _ e1⟩
      rintro (⟨ob, q⟩ | q | ⟨p, hp, q⟩ | ⟨x, q⟩ | q)
      · rw [(H.store b ob q).2.1] at e1; cases e1
      · subst q; rw [H.own] at e1; cases e1
      · subst q; rw [(H.frs p hp).2.1] at e1; cases e1
      · obtain ⟨h1, h2⟩ := hcap _ _ q
        rw [H.ownc _ _ h2 (ok.free _ (mem_of_lookup h1) rfl)] at e1; cases e1
      · rw [(hit b q).1] at e1; cases e1
    b2 := fun b o e => keep _ _ (wipe_get.mp e).2
    ns := ⟨_, hn, fun x v e l => by
      have l := (hkind x).symm.trans l
      unfold capV at e
      split at e
      · rename_i hf; rw [hf] at l; simp at l
      · cases e⟩
    cells := fun x c e => by
      obtain ⟨h1, h2⟩ := hcap x c e
      obtain ⟨u, k1, k2⟩ := H.cells x c h2
      refine ⟨u, k1.keeps keep, fun v hv z9a => ?_⟩
      unfold capV at hv
      rw [if_pos h1] at hv
      obtain ⟨u', e1, r⟩ := k2 v hv (.inl (ok.free _ (mem_of_lookup h1) rfl))
      exact ⟨u', e1, r.keep (.of_keeps keep)⟩
    allcells := fun x hk => by
      refine capL_some ?_
      cases q : scope.names.lookup x with
      | none =>
        have e1 : (compCx C scope Lc oL).env.kindOf x = none := by rw [hkind, q]; rfl
        rcases hk with hk | hk <;> (rw [e1] at hk; cases hk)
      | some k =>
        have e1 : (compCx C scope Lc oL).env.kindOf x = some (if k = .free then .cell else k) := by rw [hkind, q]; rfl
        by_cases hf : k = .free
        · rw [hf]
        · rw [if_neg hf] at e1
          rcases hk with hk | hk
          · rw [e1] at hk; cases hk; exact absurd rfl (ok.nocell _ (mem_of_lookup q))
          · rw [e1] at hk; cases hk; exact absurd rfl hf
    bad := fun a ha => let ⟨h1, items, t⟩ := H.bad a ha; ⟨h1, items, TupKeep.of_keeps keep _ _ t⟩
    own := hnone
    ownc := fun x c e z9a => wipe_none (.inr (.inr (.inr (.inl ⟨x, e⟩))))
    frs := fun p hp => by
      rcases List.mem_cons.mp hp with rfl | hp
      · exact ⟨⟨oL.slots, keep _ _ hoL⟩, wipe_none (.inr (.inl rfl)), ⟨esL, epL, hdL⟩, hne _ _ hoL⟩
      · obtain ⟨⟨sl, h1⟩, h2, h3, h4⟩ := H.frs p hp
        exact ⟨⟨sl, keep _ _ h1⟩, wipe_none (.inr (.inr (.inl ⟨p, hp, rfl⟩))), h3, hne _ _ h1⟩
    store := fun a o e => by
      obtain ⟨h1, h2, h3, h4⟩ := H.store a o e
      refine ⟨h1.keep (.of_keeps keep) (keep _), wipe_none (.inl ⟨o, e⟩), (by obtain ⟨ob, ho, _⟩ := h1.there; exact hne _ _ ho), fun p hp => ?_⟩
      rcases List.mem_cons.mp hp with rfl | hp
      · exact h3.symm
      · exact h4 p hp }
theorem comp_leave (H : St C base ρ σ s) {scope : Scope} (ok : CompOk C scope) {it : Value} (hit : ∀ I, it = .ref I → base.get? I = none ∧ ∃ o vs, s.heap.get? I = some o ∧ o.data = .fields vs ∧ o.cls ≠ .type "tuple") {oL : Obj} (hoL : s.heap.get? C.env.locals = some oL) {Lc : Addr} {ρ' : Vars} {σ' : Store} {s' : Shared}
    (H' : St (compCx C scope Lc oL) (compBase C scope σ s.heap it) ρ' σ' s') (hc : Capt scope ρ ρ') : St C base ρ σ' s' ∧ TupKeep s.heap s'.heap := by
  have hfree : ∀ x ∈ scope.names, x.2 = .free → (C.env.cells.lookup x.1).isSome = true := fun x hx hf => H.allcells x.1 (.inl (ok.free x hx hf))
  have hcap : ∀ x c, (capL C.env scope.names).lookup x = some c → scope.names.lookup x = some .free ∧ C.env.cells.lookup x = some c := fun x c e => by
    obtain ⟨h1, h2⟩ := capL_lookup ok.nodup e
    obtain ⟨c', h3⟩ := Option.isSome_iff_exists.mp (hfree _ (mem_of_lookup h1) rfl)
    rw [h3] at h2
    exact ⟨h1, by rw [h3]; exact congrArg some h2.symm⟩
  have bB : base.StaysIn (compBase C scope σ s.heap it) := fun b o e => by
    refine wipe_get.mpr ⟨?_, H.b2 _ _ e⟩
    rintro (⟨ob, q⟩ | q | ⟨p, hp, q⟩ | ⟨x, q⟩ | q)
    · rw [(H.store b ob q).2.1] at e; cases e
    · subst q; rw [H.own] at e; cases e
    · subst q; rw [(H.frs p hp).2.1] at e; cases e
    · obtain ⟨h1, h2⟩ := hcap _ _ q
      rw [H.ownc _ _ h2 (ok.free _ (mem_of_lookup h1) rfl)] at e; cases e
    · rw [(hit b q).1] at e; cases e
  have tk : TupKeep s.heap s'.heap := fun a items t => by
    have t0 := t
    obtain ⟨o, ho, hcl, n, hd⟩ := t
    refine ⟨o, H'.b2 _ _ (wipe_get.mpr ⟨?_, ho⟩), hcl, n, hd⟩
    rintro (⟨ob, q⟩ | q | ⟨p, hp, q⟩ | ⟨x, q⟩ | q)
    · exact H.notTuple (.inl ⟨ob, q⟩) t0
    · exact H.notTuple (.inr (.inl q)) t0
    · exact H.notTuple (.inr (.inr (.inl ⟨p, hp, q⟩))) t0
    · obtain ⟨h1, h2⟩ := hcap _ _ q
      obtain ⟨u, hu, _⟩ := H.cells _ _ h2
      exact IsCell.notTuple hu t0
    · obtain ⟨_, o', vs, ho', hd', _⟩ := hit a q
      rw [ho] at ho'; cases ho'; rw [hd] at hd'; cases hd'
  refine ⟨H.back2 H' rfl rfl rfl rfl hoL rfl bB tk fun tk x c e => ?_, tk⟩
  obtain ⟨u, h1, h2⟩ := H.cells x c e
  by_cases hx : ∃ y, (capL C.env scope.names).lookup y = some c
  · obtain ⟨y, hy⟩ := hx
    obtain ⟨k1, k2⟩ := hcap _ _ hy
    have hxy : x = y := name_of_addr H.ok.apart (mem_of_lookup e) (mem_of_lookup k2)
    subst hxy
    obtain ⟨u', j1, j2⟩ := H'.cells x c hy
    refine ⟨u', j1, fun v hv z9a => ?_⟩
    exact j2 v (by rw [hc x k1]; exact hv) (.inl (by rw [compCx_kind H.ok ok, k1]; rfl))
  · obtain ⟨k1, k2, k3⟩ := H.cellLoose h1
    refine ⟨u, ?_, fun v hv hk => let ⟨u', e1, r⟩ := h2 v hv hk; ⟨u', e1, r.keep tk⟩⟩
    obtain ⟨o, ho, hd⟩ := h1
    refine ⟨o, H'.b2 _ _ (wipe_get.mpr ⟨?_, ho⟩), hd⟩
    rintro (⟨ob, q⟩ | q | ⟨p, hp, q⟩ | ⟨x, q⟩ | q)
    · rw [k1] at q; cases q
    · exact k2 q
    · exact k3 p hp q
    · exact hx ⟨x, q⟩
    · obtain ⟨_, o', vs, ho', hd', _⟩ := hit c q
      rw [ho] at ho'; cases ho'; rw [hd] at hd'; cases hd'
end
end Mine
set_option tactic.hygienic false
namespace Mine
open PySem PySem.W PyProof.Rows PySem.Calls
section
variable {C : Cx} {base : Heap} {ρ : Vars} {σ : Store} {s : Shared} {X : XPost}
theorem Itr.self {it xs src i} {prog w} {A : Around} {Q : Value → Shared → Prop} {E : Value → Shared → Prop} (x : Itr C base s.heap it xs src i) (h : Q it s) : wpAny (model prog w) A (pyIter it) Q E s := by
  obtain ⟨I, rfl, hb, ⟨a, e, hit⟩ | ⟨t, vs, _, hit, _⟩ | ⟨lo, st, n, _, _, _, hit⟩⟩ := x
  · exact wpAny_pyIter_listiter hit h
  · exact wpAny_pyIter_tupleiter hit h
  · exact wpAny_pyIter_rangeiter hit h
/-- a comprehension's tests -/
noncomputable def Cts (C : Cx) (ρ : Vars) (σ : Store) (ifs : List Expr) (B : Bool → Store → Prop) : Prop := match ifs with
  | [] => B true σ
  | [c] => Tst C ρ σ c B noX
  | _ => False
theorem Cts.run {ifs : List Expr} {B : Bool → Store → Prop} (h : Cts C ρ σ ifs B) (H : St C base ρ σ s) {Q' : Bool → Shared → Prop} {E' : Value → Shared → Prop}
    (hQ : ∀ b σ' s', St C base ρ σ' s' → Pers C σ s s' → (∀ b o, s.heap.get? b = some o → ¬ C.Loose σ b → σ' b = none) → B b σ' → Q' b s') :
    wpAny C.M C.A (forIn ifs true fun c r => if r = true then do let ok ← isTrue c C.env (eval c C.env); pure (ForInStep.yield ok) else pure (ForInStep.yield r)) Q' E' s := by
  match ifs, h with
  | [], h =>
    refine wpAny_tests_nil (hQ true σ s H ⟨TupKeep.refl _, fun z9a z9b e z9c => e⟩ (fun b o e hl => ?_) h)
    cases q : σ b with
    | none => rfl
    | some ob => exact absurd (.inl ⟨ob, q⟩) hl
  | [c], h =>
    have h : Tst C ρ σ c B noX := h
    exact wpAny_tests_one (h.run2 H hQ fun e s' ⟨_, _, _, _, _, q⟩ => q.elim)
  | _ :: _ :: _, h => exact h.elim
/-- the list that is made, and what else is whose -/
structure Acc (C : Cx) (base : Heap) (σ : Store) (s : Shared) (D : Addr) (ys : List Val) : Prop where
  reps : ∃ vs, s.heap.PlainList D (List.toArray vs) ∧ RepVs C.bad s.heap ys vs
  loose : ¬ C.Loose σ D
  base : base.get? D = none
theorem Acc.step {ys D} {σ' : Store} {s' : Shared} (A : Acc C base σ s D ys) (H : St C base ρ σ s) {ρ'} (H' : St C base ρ' σ' s') (P : Pers C σ s s') (F : ∀ b o, s.heap.get? b = some o → ¬ C.Loose σ b → σ' b = none) : Acc C base σ' s' D ys := by
  obtain ⟨⟨vs, ⟨n, ho⟩, rs⟩, hl, hb⟩ := A
  refine ⟨⟨vs, ⟨n, P.keep _ _ ho hl⟩, P.reps rs⟩, ?_, hb⟩
  rintro (⟨o, q⟩ | q)
  · rw [F _ _ ho hl] at q; cases q
  · exact hl (.inr q)
theorem PlainList.notTuple {h : Heap} {a : Addr} {vs items} (x : h.PlainList a vs) (t : h.IsTuple a items) : False := by
  obtain ⟨n, ho⟩ := x
  obtain ⟨o, ho', hc, _⟩ := t
  rw [ho] at ho'; cases ho'; revert hc; show Value.type "list" = _ → _; decide
theorem PlainList.notCell {h : Heap} {a : Addr} {vs u} (x : h.PlainList a vs) (t : h.IsCell a u) : False := by
  obtain ⟨n, ho⟩ := x
  obtain ⟨o, ho', hc⟩ := t
  rw [ho] at ho'; cases ho'; cases hc
/-- what holds in a comprehension's loop -/
noncomputable def CompSt (C' : Cx) (base : Heap) (scope : Scope) (ρ : Vars) (it : Value) (xs : List Val) (src : Option Addr) (D : Addr) (J : Nat → List Val → Store → Prop) (n : Nat) (s' : Shared) : Prop :=
  ∃ i ys ρ₂ σ₂, n = xs.length + 1 - i ∧ i ≤ xs.length ∧ St C' base ρ₂ σ₂ s' ∧ Itr C' base s'.heap it xs src i ∧ Keep1 src xs σ₂ ∧ Capt scope ρ ρ₂ ∧ Acc C' base σ₂ s' D ys ∧ ys.length ≤ i ∧ J i ys σ₂
theorem comp_loop {C' : Cx} {elt target iter : Expr} {ifs : List Expr} {scope : Scope} {pos : Pos} {it : Value} {D : Addr} {xs : List Val} {src : Option Addr} {J : Nat → List Val → Store → Prop} {R : Result → Shared → Prop} (hq : C'.quiet = true) (hsz : xs.length ≤ 2 ^ 20)
    (hstep : ∀ i x ys ρ₂ σ₂, xs[i]? = some x → J i ys σ₂ → Keep1 src xs σ₂ → Capt scope ρ ρ₂ →
      As C' ρ₂ σ₂ target x (fun ρ₃ σ₃ => Capt scope ρ ρ₃ ∧ Cts C' ρ₃ σ₃ ifs (fun b σ₄ => if b then Ev C' ρ₃ σ₄ elt (fun d σ₅ => Keep1 src xs σ₅ ∧ J (i + 1) (ys ++ [d]) σ₅) noX else Keep1 src xs σ₄ ∧ J (i + 1) ys σ₄)) noX)
    (hend : ∀ ys ρ₂ σ₂ s₂, St C' base ρ₂ σ₂ s₂ → Capt scope ρ ρ₂ → Acc C' base σ₂ s₂ D ys → ys.length ≤ xs.length → J xs.length ys σ₂ → Keep1 src xs σ₂ → R (.ok .next) s₂)
    (h : CompSt C' base scope ρ it xs src D J (xs.length + 1) s) :
    codeAny C'.M C'.A (.compLoop (.ListComp elt [⟨target, iter, ifs, 0⟩] scope pos) 0 it (.ref D) C'.env) R s := by
  refine codeAny_loop rfl (fun n s' => CompSt C' base scope ρ it xs src D J n s') (fun n s hI => ?_) (xs.length + 1) h
  show wpAny _ C'.A ((compTurn (.ListComp elt [⟨target, iter, ifs, 0⟩] scope pos) 0 it (.ref D) C'.env).onRaise (fun x => do noteFrame x C'.env; theTreesLotGoes x)) _ _ s
  refine wpAny_noted ?_
  rw [compTurn_list]
  obtain ⟨i, ys, ρ₂, σ₂, rfl, hi, H₂, I₂, k₂, c₂, A₂, hl₂, J₂⟩ := hI
  refine wpAny_bind (wpAny_standAt (wpAny_bind ?_))
  have keepAcc : ∀ {s₃ : Shared}, St C' base ρ₂ σ₂ s₃ → TupKeep s.heap s₃.heap → (∀ vs, s.heap.PlainList D vs → s₃.heap.PlainList D vs) → Acc C' base σ₂ s₃ D ys := fun H₃ tk k => let ⟨⟨vs, h1, h2⟩, h3, h4⟩ := A₂; ⟨⟨vs, k _ h1, h2.keep tk⟩, h3, h4⟩
  have nI : ∀ vs, s.heap.PlainList D vs → it ≠ .ref D := fun vs ⟨n, ho⟩ e => by
    obtain ⟨I, o, vs', m, e', _, ho', hd, _⟩ := I₂.obj
    rw [e] at e'; cases e'; rw [ho] at ho'; cases ho'; cases hd
  cases hx : xs[i]? with
  | none =>
    have hi' : i = xs.length := by have := List.getElem?_eq_none_iff.mp hx; lia
    subst hi'
    obtain ⟨⟨vs, hp, rs⟩, al, ab⟩ := id A₂
    refine I₂.done2 H₂ k₂ hq hx fun s₃ H₃ tk kD => wpAny_pure (hend ys ρ₂ σ₂ s₃ H₃ c₂ (keepAcc H₃ tk fun vs ⟨n, ho⟩ => ⟨n, kD _ _ (nI _ hp) ho⟩) hl₂ J₂ k₂)
  | some x =>
    have hi' : i < xs.length := (List.getElem?_eq_some_iff.mp hx).1
    obtain ⟨⟨vs, hp, rs⟩, al, ab⟩ := id A₂
    refine I₂.item2 H₂ k₂ hx fun v s₃ H₃ tk kD r I₃ => wpAny_bind (I₃.letOwned ?_)
    have A₃ : Acc C' base σ₂ s₃ D ys := keepAcc H₃ tk fun vs' ⟨n, ho⟩ => ⟨n, kD _ _ (nI _ hp) ho⟩
    refine wpAny_bind ((hstep i x ys ρ₂ σ₂ hx J₂ k₂ c₂).run2 H₃ r (fun ρ₄ σ₄ s₄ H₄ P₄ F₄ ⟨c₄, hb⟩ => ?_) fun e s' x => x.noted0)
    have I₄ := I₃.pers H₃ P₄
    have A₄ := A₃.step H₃ H₄ P₄ F₄
    refine wpAny_bind (hb.run H₄ (fun b σ₅ s₅ H₅ P₅ F₅ q => ?_))
    have I₅ := I₄.pers H₄ P₅
    have A₅ := A₄.step H₄ H₅ P₅ F₅
    cases b with
    | false =>
      have q : Keep1 src xs σ₅ ∧ J (i + 1) ys σ₅ := q
      exact wpAny_pure ⟨rfl, xs.length + 1 - (i + 1), turn_lt hi', i + 1, ys, ρ₄, σ₅, rfl, hi', H₅, I₅, q.1, c₄, A₅, by lia, q.2⟩
    | true =>
      have q : Ev C' ρ₄ σ₅ elt (fun d σ₅ => Keep1 src xs σ₅ ∧ J (i + 1) (ys ++ [d]) σ₅) noX := q
      refine wpAny_bind (wpAny_bind (q.run2 H₅ (fun v₆ d σ₆ s₆ H₆ P₆ F₆ r₆ q₆ => ?_) fun e s' x => x.noted0))
      have I₆ := I₅.pers H₅ P₆
      obtain ⟨⟨vs, hp, rs⟩, al, ab⟩ := A₅.step H₅ H₆ P₆ F₆
      have hlen := rs.length
      refine wpAny_bind (wpAny_list_append_plain (hsz := by rw [List.size_toArray]; show _ ≤ 2 ^ 24; lia) hp fun h' hp' hs => wpAny_pure (wpAny_pure ⟨rfl, xs.length + 1 - (i + 1), turn_lt hi', ?_⟩))
      obtain ⟨H₇, tk⟩ := H₆.poke' (t := s₆.toks) al ab (fun z9a x => PlainList.notTuple hp x) (fun z9a x => PlainList.notCell hp x) hs.extBut
      have e : (List.toArray vs).push v₆ = List.toArray (vs ++ [v₆]) := by simp
      rw [e] at hp'
      refine ⟨i + 1, ys ++ [d], ρ₄, σ₆, rfl, hi', H₇, I₆.keep tk (fun I o e' ho => hs.extBut I o (fun q => ?_) ho), q₆.1, c₄, ⟨⟨_, hp', (rs.append (.cons r₆ .nil)).keep tk⟩, al, ab⟩, by simp; lia, q₆.2⟩
      subst q
      obtain ⟨I, o', vs', m, e'', _, ho', hd, _⟩ := I₆.obj
      rw [e'] at e''; cases e''
      obtain ⟨n, hoD⟩ := hp
      rw [hoD] at ho'; cases ho'; cases hd
end
end Mine
set_option tactic.hygienic false
namespace Mine
open PySem PySem.W PyProof.Rows PySem.Calls
section
variable {C : Cx} {base : Heap} {ρ : Vars} {σ : Store} {s : Shared} {X : XPost}
/-- the turns of a comprehension -/
noncomputable def Turns (C : Cx) (ρ : Vars) (scope : Scope) (target elt : Expr) (ifs : List Expr) (xs : List Val) (src : Option Addr) (J : Nat → List Val → Store → Prop) : Prop :=
  ∀ C', Comp C C' scope → ∀ i x ys ρ₂ σ₂, xs[i]? = some x → J i ys σ₂ → Keep1 src xs σ₂ → Capt scope ρ ρ₂ →
      As C' ρ₂ σ₂ target x (fun ρ₃ σ₃ => Capt scope ρ ρ₃ ∧ Cts C' ρ₃ σ₃ ifs (fun b σ₄ => if b then Ev C' ρ₃ σ₄ elt (fun d σ₅ => Keep1 src xs σ₅ ∧ J (i + 1) (ys ++ [d]) σ₅) noX else Keep1 src xs σ₄ ∧ J (i + 1) ys σ₄)) noX
theorem Ns.notCell {h : Heap} {c : Addr} {m u} (x : h.Ns c m) (t : h.IsCell c u) : False := by
  obtain ⟨o, es, ep, ho, hd, _⟩ := x
  obtain ⟨o', ho', hd'⟩ := t
  rw [ho] at ho'; cases ho'; rw [hd] at hd'; cases hd'
theorem comp_block {elt target iter : Expr} {ifs : List Expr} {scope : Scope} {pos : Pos} {it : Value} {xs : List Val} {src : Option Addr} {J : Nat → List Val → Store → Prop} {RR : Value → Addr → Result → Shared → Prop} {E : Value → Shared → Prop}
    (H : St C base ρ σ s) (I : Itr C base s.heap it xs src 0) (k : Keep1 src xs σ) (ok : CompOk C scope) (hq : C.quiet = true) (hsz : xs.length ≤ 2 ^ 20) (hJ : J 0 [] σ) (hstep : Turns C ρ scope target elt ifs xs src J)
    (hend : ∀ D Lc ys σ' s' m, St C base ρ (σ'.set D (.list ys)) s' → σ' D = none → J xs.length ys σ' → Keep1 src xs σ' → s'.heap.Ns Lc m → base.get? Lc = none → ¬ C.Loose (σ'.set D (.list ys)) Lc → RR (.ref D) Lc (.ok .next) s') :
    wpAny C.M C.A (newList []) (fun acc s₃ => wpAny C.M C.A (newFunctionEnv scope C.env.globals (capL C.env scope.names) [] C.env.qual none .none (some C.env)) (fun cenv s₄ =>
      codeAny C.M C.A (.compStart (.ListComp elt [⟨target, iter, ifs, 0⟩] scope pos) 0 it acc { cenv with scope := relabel scope C.env }) (RR acc cenv.locals) s₄) E s₃) E s := by
  refine wpAny_newObj_type (wpAny_newFunctionEnv ok.nocell (by intro y hy; simp at hy) (fun h₁ hns₁ hsb₁ => ?_) ok.kind)
  dsimp only at hns₁ hsb₁ ⊢
  obtain ⟨m₀, ⟨oL, esL, epL, hoL, hdL, hL3⟩, hL4⟩ := id H.ns
  generalize hH2 : s.heap.push { cls := .type "list", dict := none, data := .seq ([] : List Value).toArray } = H2 at hns₁ hsb₁ ⊢
  have hC : H2.objs.size = s.heap.objs.size + 1 := by rw [← hH2, Heap.size_push]
  have hDC : s.heap.objs.size ≠ H2.objs.size := by rw [hC]; exact Nat.ne_of_lt (Nat.lt_succ_self _)
  have keep : ∀ b o, s.heap.get? b = some o → h₁.get? b = some o := fun b o e => hsb₁.extBut b o (by rw [hC]; exact Nat.ne_of_lt (Nat.lt_succ_of_lt (Heap.lt_size e))) (Heap.get?_push_of_some _ (hH2 ▸ Heap.get?_push_of_some _ e))
  have hD0 : s.heap.get? s.heap.objs.size = none := Heap.get?_none_of_le (Nat.le_refl _)
  have hC0 : s.heap.get? H2.objs.size = none := Heap.get?_none_of_le (by rw [hC]; exact Nat.le_succ _)
  have hD1 : h₁.PlainList s.heap.objs.size #[] := ⟨_, hsb₁.extBut _ _ hDC (Heap.get?_push_of_some _ (hH2 ▸ Heap.get?_push_size _ rfl))⟩
  have hit : ∀ I, it = .ref I → base.get? I = none ∧ ∃ o vs, s.heap.get? I = some o ∧ o.data = .fields vs ∧ o.cls ≠ .type "tuple" := fun I' e => by
    obtain ⟨I'', o, vs, n, e', hb, ho, hd, hc, hn⟩ := I.obj
    rw [e] at e'; cases e'
    refine ⟨hb, o, vs, ho, hd, ?_⟩
    rw [hc]; rcases hn with rfl | rfl | rfl <;> decide
  have H' := comp_enter H ok (it := it) (fun I' e => let ⟨a, o, vs, b, c, _⟩ := hit I' e; ⟨a, o, vs, b, c⟩) hoL (h' := h₁) (t := s.toks + ([] : List (Str × Value)).length) keep hC0 hns₁
  have hBnone : ∀ b, s.heap.get? b = none → (compBase C scope σ s.heap it).get? b = none := fun b hb => by
    cases q : (compBase C scope σ s.heap it).get? b with
    | none => rfl
    | some o => have := (wipe_get.mp q).2; rw [hb] at this; cases this
  have notLoose : ∀ b, s.heap.get? b = none → ¬ C.Loose σ b := fun b hb x => by
    rcases x with ⟨o, h⟩ | rfl | ⟨p, hp, rfl⟩ | ⟨x, h1, h2⟩
    · obtain ⟨ob, ho, _⟩ := (H.store _ _ h).1.there; rw [hb] at ho; cases ho
    · rw [hoL] at hb; cases hb
    · obtain ⟨⟨sl, hs⟩, _⟩ := H.frs p hp; rw [hb] at hs; cases hs
    · obtain ⟨u, ⟨o, ho, _⟩, _⟩ := H.cells _ _ h1; rw [hb] at ho; cases ho
  have I' : Itr (compCx C scope H2.objs.size oL) (compBase C scope σ s.heap it) h₁ it xs src 0 := by
    have I1 := I.keep (h' := h₁) (TupKeep.of_keeps keep) fun I o z9a ho => keep _ _ ho
    obtain ⟨I, e, hb, r⟩ := I1
    exact ⟨I, e, wipe_none (.inr (.inr (.inr (.inr e)))), r⟩
  have aLoose : ¬ (compCx C scope H2.objs.size oL).Loose σ s.heap.objs.size := by
    rintro (⟨o, h⟩ | h | ⟨p, hp, h⟩ | ⟨x, h1, h2⟩)
    · exact notLoose _ hD0 (.inl ⟨o, h⟩)
    · exact hDC h
    · rcases List.mem_cons.mp hp with rfl | hp
      · exact notLoose _ hD0 (.inr (.inl h.symm))
      · exact notLoose _ hD0 (.inr (.inr (.inl ⟨p, hp, h⟩)))
    · obtain ⟨k1, k2⟩ := capL_lookup ok.nodup h1
      obtain ⟨c', h3⟩ := Option.isSome_iff_exists.mp (H.allcells x (.inl (ok.free _ (mem_of_lookup k1) rfl)))
      rw [h3] at k2
      have k2 : s.heap.objs.size = c' := k2
      subst k2
      obtain ⟨u, ⟨o, ho, _⟩, _⟩ := H.cells _ _ h3; rw [hD0] at ho; cases ho
  have A' : Acc (compCx C scope H2.objs.size oL) (compBase C scope σ s.heap it) σ { s with heap := h₁, toks := s.toks + ([] : List (Str × Value)).length } s.heap.objs.size [] :=
    ⟨⟨[], hD1, .nil⟩, aLoose, hBnone _ hD0⟩
  have loop : codeAny C.M C.A (.compLoop (.ListComp elt [⟨target, iter, ifs, 0⟩] scope pos) 0 it (.ref s.heap.objs.size) (compCx C scope H2.objs.size oL).env) (RR (.ref s.heap.objs.size) H2.objs.size)
      { s with heap := h₁, toks := s.toks + ([] : List (Str × Value)).length } := by
    refine comp_loop (C' := compCx C scope H2.objs.size oL) (base := compBase C scope σ s.heap it) (ρ := ρ) (J := J) (src := src) (xs := xs) hq hsz (hstep _ (compCx_comp H.ok ok)) (fun ys ρ₂ σ₂ s₂ H₂ c₂ A₂ hl J₂ k₂ => ?_) ⟨0, [], _, σ, rfl, Nat.zero_le _, H', I', k, capV_capt _ _, A', Nat.le_refl _, hJ⟩
    obtain ⟨H₃, tk⟩ := comp_leave H ok hit hoL H₂ c₂
    obtain ⟨⟨vs, hp, rs⟩, al, ab⟩ := A₂
    have hσD : σ₂ s.heap.objs.size = none := by
      cases q : σ₂ s.heap.objs.size with
      | none => rfl
      | some ob => exact absurd (.inl ⟨ob, q⟩) al
    obtain ⟨m, hn, _⟩ := H₂.ns
    have hne : ∀ b, s.heap.get? b = none → base.get? b = none ∧ b ≠ C.env.locals ∧ ∀ p ∈ C.frs, p.1 ≠ b := fun b hb => H.newAddr hb
    refine hend _ _ ys σ₂ s₂ m (H₃.track hσD ⟨vs, hp, rs⟩ (hne _ hD0)) hσD J₂ k₂ hn (hne _ hC0).1 ?_
    rintro (⟨o, h⟩ | h | ⟨p, hp, h⟩ | ⟨x, h1, h2⟩)
    · unfold Store.set at h
      split at h
      · rename_i q; exact hDC q.symm
      · exact (H₂.store _ _ h).2.2.1 rfl
    · exact (hne _ hC0).2.1 h
    · exact (hne _ hC0).2.2 p hp h
    · obtain ⟨u, hu, _⟩ := H₃.cells _ _ h1; exact Ns.notCell hn hu
  exact codeAny_compStart_list loop (Itr.self I' loop)
theorem comp_closure (H : St C base ρ σ s) {scope : Scope} (ok : CompOk C scope) : closureFor scope C.env = pure (capL C.env scope.names) :=
  closure_cap fun x hx hf => H.allcells x.1 (.inl (ok.free x hx hf))
theorem CompOk.names {scope : Scope} (ok : CompOk C scope) : ∀ y ∈ scope.names, y.2 = .local → scope.names.lookup y.1 = some .local := fun y hy hl => by
  rw [← hl]; exact lookup_of_nodup ok.nodup hy
/-- a list comprehension -/
theorem evComp {elt target iter : Expr} {ifs : List Expr} {scope : Scope} {pos : Pos} {Q : Val → Store → Prop} (ok : CompOk C scope) (hq : C.quiet = true)
    (h : ItE C ρ σ iter (fun xs src σ₁ => xs.length ≤ 2 ^ 20 ∧ ∃ J : Nat → List Val → Store → Prop, J 0 [] σ₁ ∧ Turns C ρ scope target elt ifs xs src J ∧
      ∀ ys σ₂ a, J xs.length ys σ₂ → Keep1 src xs σ₂ → σ₂ a = none → Q (.ref a) (σ₂.set a (.list ys))) X)
    (hs : ∀ x, foldedSetIterable iter C.env x = pure x := by intro _; rfl) : Ev C ρ σ (.ListComp elt [⟨target, iter, ifs, 0⟩] scope pos) Q X :=
  Ev.intro fun base s H => by
    rw [eval_ListComp]
    refine wpAny_comprehension_free (g := ⟨target, iter, ifs, 0⟩) (gs := []) (use := none) rfl hs (comp_closure H ok) ok.kind ok.names (wpAny_mono (h base s H) (fun xv s₁ h₁ => wpAny_mono h₁ (fun it s₂ h₂ => ?_) fun z9a z9b e => e) fun z9a z9b e => e)
    obtain ⟨σ₁, xs, src, H₁, I₁, k₁, hsz, J, hJ, hstep, hend⟩ := h₂
    refine comp_block (RR := fun acc L => compPost C.M C.A (Xp C base X) none (Vp C base ρ Q) acc L) H₁ I₁ k₁ ok hq hsz hJ hstep fun D Lc ys σ' s' m H' hD hJ' k' hn hb hl => ⟨m, hn, fun h' hs' => ?_⟩
    obtain ⟨H'', tk⟩ := H'.poke' (t := s'.toks) hl hb (fun z9a x => Ns.notTuple hn x) (fun z9a x => Ns.notCell hn x) hs'.extBut
    exact ⟨.ref D, _, H'', by simp [RepV], hend ys σ' D hJ' k' hD⟩
/-- a list comprehension given to a local name -/
theorem exAssignComp {elt target iter : Expr} {ifs : List Expr} {scope : Scope} {pos spos py : Pos} {y : Str} {Q : Out → Vars → Store → Prop} (ok : CompOk C scope) (hq : C.quiet = true)
    (h : ItE C ρ σ iter (fun xs src σ₁ => xs.length ≤ 2 ^ 20 ∧ ∃ J : Nat → List Val → Store → Prop, J 0 [] σ₁ ∧ Turns C ρ scope target elt ifs xs src J ∧
      ∀ ys σ₂ a, J xs.length ys σ₂ → Keep1 src xs σ₂ → σ₂ a = none → Q .next (ρ.set y (.ref a)) (σ₂.set a (.list ys))) X)
    (hy : C.env.kindOf y = some .local) (hsw : (py.line == pos.line && !(scope.names.any fun (n, k) => n == y && (k == .local || k == .cell))) = true := by rfl)
    (hs : ∀ x, foldedSetIterable iter C.env x = pure x := by intro _; rfl) : Ex1 C ρ σ (.Assign [.Name y py] (.ListComp elt [⟨target, iter, ifs, 0⟩] scope pos) spos) Q X :=
  Ex1.intro fun base s H => by
    have hsw' : swapsWith (.ListComp elt [⟨target, iter, ifs, 0⟩] scope pos) (some (.Name y py)) spos.line C.env = pure true := by
      show (pure (C.env.blockKind == .function && C.env.kindOf y == some .local && py.line == pos.line && !(scope.names.any fun (n, k) => n == y && (k == .local || k == .cell))) : Sem Bool) = pure true
      have : C.env.blockKind = .function := by unfold Env.blockKind; rw [H.ok.kind]; rfl
      rw [this, hy, Bool.and_assoc, hsw]; rfl
    rw [exec_Assign_Name_used _ _ _ _ hsw']
    refine wpAny_bind (wpAny_standAt (wpAny_bind ?_))
    show wpAny _ C.A (do let _ ← comprehension (.ListComp elt [⟨target, iter, ifs, 0⟩] scope pos) scope C.env _ (newList []) false (eval iter C.env) (some (assign (.Name y py) C.env))) _ _ s
    refine wpAny_bind (wpAny_mono (wpAny_comprehension_free (g := ⟨target, iter, ifs, 0⟩) (gs := []) (use := some (assign (.Name y py) C.env)) (Q := fun z9a s' => Fp C base Q .next s') rfl hs (comp_closure H ok) ok.kind ok.names
      (wpAny_mono (h base s H) (fun xv s₁ h₁ => wpAny_mono h₁ (fun it s₂ h₂ => ?_) fun z9a z9b e => e) fun z9a z9b e => e)) (fun z9a s' hq => wpAny_pure (wpAny_pure hq)) fun z9a z9b e => e)
    obtain ⟨σ₁, xs, src, H₁, I₁, k₁, hsz, J, hJ, hstep, hend⟩ := h₂
    refine comp_block (RR := fun acc L => compPost C.M C.A (Xp C base X) (some (assign (.Name y py) C.env)) (fun z9a s' => Fp C base Q .next s') acc L) H₁ I₁ k₁ ok hq hsz hJ hstep fun D Lc ys σ' s' m H' hD hJ' k' hn hb hl => ?_
    show wpAny C.M C.A (assign (.Name y py) C.env (.ref D)) _ _ s'
    refine wpAny_assign_Name (store_local2 H' (d := .ref D) (by simp [RepV]) hy fun h₂ t H₂ hs₂ => ?_)
    have hLL : Lc ≠ C.env.locals := fun e => hl (.inr (.inl e))
    have hn₂ := hn.sameBut hs₂ hLL
    refine ⟨m, hn₂, fun h₃ hs₃ => ?_⟩
    obtain ⟨H₃, tk⟩ := H₂.poke' (t := t) hl hb (fun z9a x => Ns.notTuple hn₂ x) (fun z9a x => Ns.notCell hn₂ x) hs₃.extBut
    exact ⟨.next, _, _, H₃, by simp [RepF], hend ys σ' D hJ' k' hD⟩
end
end Mine
set_option tactic.hygienic false
namespace Mine
open PySem PySem.W PyProof.Rows PySem.Calls
section
variable {C : Cx} {base : Heap} {ρ : Vars} {σ : Store} {s : Shared} {X : XPost}
theorem kvSet_length {K : Type} [DecidableEq K] (kvs : List (K × Val)) (k : K) (d : Val) : (kvSet kvs k d).length ≤ kvs.length + 1 := by
  unfold kvSet; split <;> simp
structure AccD (C : Cx) (base : Heap) (σ : Store) (s : Shared) (D : Addr) (ys : List (Str × Val)) : Prop where
  reps : ∃ ws, s.heap.DictOf (PySem.strKind C.prog C.w) D ws ∧ RepKV C.bad s.heap ys ws
  loose : ¬ C.Loose σ D
  base : base.get? D = none
theorem AccD.step {ys D} {σ' : Store} {s' : Shared} (A : AccD C base σ s D ys) (H : St C base ρ σ s) {ρ'} (H' : St C base ρ' σ' s') (P : Pers C σ s s') (F : ∀ b o, s.heap.get? b = some o → ¬ C.Loose σ b → σ' b = none) : AccD C base σ' s' D ys := by
  obtain ⟨⟨vs, hd, rs⟩, hl, hb⟩ := A
  obtain ⟨o, es, ep, ho, r⟩ := id hd
  refine ⟨⟨vs, hd.at fun o ho => P.keep _ _ ho hl, rs.keep P.tup⟩, ?_, hb⟩
  rintro (⟨o, q⟩ | q)
  · rw [F _ _ ho hl] at q; cases q
  · exact hl (.inr q)
theorem DictOf.notTuple {prog w} {h : Heap} {a : Addr} {ws : List (Str × Value)} {items} (x : h.DictOf (PySem.strKind prog w) a ws) (t : h.IsTuple a items) : False := by
  obtain ⟨o, es, ep, ho, hc, r⟩ := x
  obtain ⟨o', ho', hc', _⟩ := t
  rw [ho] at ho'; cases ho'; rw [hc.1] at hc'; revert hc'; decide
theorem DictOf.notCell {prog w} {h : Heap} {a : Addr} {ws : List (Str × Value)} {u} (x : h.DictOf (PySem.strKind prog w) a ws) (t : h.IsCell a u) : False := by
  obtain ⟨o, es, ep, ho, hc, hd, r⟩ := x
  obtain ⟨o', ho', hd'⟩ := t
  rw [ho] at ho'; cases ho'; rw [hd] at hd'; cases hd'
/-- what holds in a comprehension's loop -/
noncomputable def CompStD (C' : Cx) (base : Heap) (scope : Scope) (ρ : Vars) (it : Value) (xs : List Val) (src : Option Addr) (D : Addr) (J : Nat → List (Str × Val) → Store → Prop) (n : Nat) (s' : Shared) : Prop :=
  ∃ i ys ρ₂ σ₂, n = xs.length + 1 - i ∧ i ≤ xs.length ∧ St C' base ρ₂ σ₂ s' ∧ Itr C' base s'.heap it xs src i ∧ Keep1 src xs σ₂ ∧ Capt scope ρ ρ₂ ∧ AccD C' base σ₂ s' D ys ∧ ys.length ≤ i ∧ J i ys σ₂
theorem comp_loopD {C' : Cx} {kx vx target iter : Expr} {ifs : List Expr} {scope : Scope} {pos : Pos} {it : Value} {D : Addr} {xs : List Val} {src : Option Addr} {J : Nat → List (Str × Val) → Store → Prop} {R : Result → Shared → Prop} (hq : C'.quiet = true) (hsz : xs.length ≤ 2 ^ 20)
    (hstep : ∀ i x ys ρ₂ σ₂, xs[i]? = some x → J i ys σ₂ → Keep1 src xs σ₂ → Capt scope ρ ρ₂ →
      As C' ρ₂ σ₂ target x (fun ρ₃ σ₃ => Capt scope ρ ρ₃ ∧ Cts C' ρ₃ σ₃ ifs (fun b σ₄ => if b then Ev C' ρ₃ σ₄ kx (fun dk σ₅ => ∃ k, dk = .str k ∧ Ev C' ρ₃ σ₅ vx (fun d σ₆ => Keep1 src xs σ₆ ∧ J (i + 1) (kvSet ys k d) σ₆) noX) noX else Keep1 src xs σ₄ ∧ J (i + 1) ys σ₄)) noX)
    (hend : ∀ ys ρ₂ σ₂ s₂, St C' base ρ₂ σ₂ s₂ → Capt scope ρ ρ₂ → AccD C' base σ₂ s₂ D ys → ys.length ≤ xs.length → J xs.length ys σ₂ → Keep1 src xs σ₂ → R (.ok .next) s₂)
    (h : CompStD C' base scope ρ it xs src D J (xs.length + 1) s) :
    codeAny C'.M C'.A (.compLoop (.DictComp kx vx [⟨target, iter, ifs, 0⟩] scope pos) 0 it (.ref D) C'.env) R s := by
  refine codeAny_loop rfl (fun n s' => CompStD C' base scope ρ it xs src D J n s') (fun n s hI => ?_) (xs.length + 1) h
  show wpAny _ C'.A ((compTurn (.DictComp kx vx [⟨target, iter, ifs, 0⟩] scope pos) 0 it (.ref D) C'.env).onRaise (fun x => do noteFrame x C'.env; theTreesLotGoes x)) _ _ s
  refine wpAny_noted ?_
  rw [compTurn_dict]
  obtain ⟨i, ys, ρ₂, σ₂, rfl, hi, H₂, I₂, k₂, c₂, A₂, hl₂, J₂⟩ := hI
  refine wpAny_bind (wpAny_standAt (wpAny_bind ?_))
  have keepAcc : ∀ {s₃ : Shared}, St C' base ρ₂ σ₂ s₃ → TupKeep s.heap s₃.heap → (∀ o, s.heap.get? D = some o → s₃.heap.get? D = some o) → AccD C' base σ₂ s₃ D ys := fun H₃ tk k => let ⟨⟨vs, h1, h2⟩, h3, h4⟩ := A₂; ⟨⟨vs, h1.at k, h2.keep tk⟩, h3, h4⟩
  have nI : it ≠ .ref D := fun e => by
    obtain ⟨⟨vs, ⟨oD, es, ep, hoD, hcD, hdD, _⟩, _⟩, _⟩ := id A₂
    obtain ⟨I, o, vs', m, e', _, ho', hd, _⟩ := I₂.obj
    rw [e] at e'; cases e'; rw [hoD] at ho'; cases ho'; rw [hdD] at hd; cases hd
  cases hx : xs[i]? with
  | none =>
    have hi' : i = xs.length := by have := List.getElem?_eq_none_iff.mp hx; lia
    subst hi'
    refine I₂.done2 H₂ k₂ hq hx fun s₃ H₃ tk kD => wpAny_pure (hend ys ρ₂ σ₂ s₃ H₃ c₂ (keepAcc H₃ tk fun o ho => kD _ _ nI ho) hl₂ J₂ k₂)
  | some x =>
    have hi' : i < xs.length := (List.getElem?_eq_some_iff.mp hx).1
    refine I₂.item2 H₂ k₂ hx fun v s₃ H₃ tk kD r I₃ => wpAny_bind (I₃.letOwned ?_)
    have A₃ : AccD C' base σ₂ s₃ D ys := keepAcc H₃ tk fun o ho => kD _ _ nI ho
    refine wpAny_bind ((hstep i x ys ρ₂ σ₂ hx J₂ k₂ c₂).run2 H₃ r (fun ρ₄ σ₄ s₄ H₄ P₄ F₄ ⟨c₄, hb⟩ => ?_) fun e s' x => x.noted0)
    have I₄ := I₃.pers H₃ P₄
    have A₄ := A₃.step H₃ H₄ P₄ F₄
    refine wpAny_bind (hb.run H₄ (fun b σ₅ s₅ H₅ P₅ F₅ q => ?_))
    have I₅ := I₄.pers H₄ P₅
    have A₅ := A₄.step H₄ H₅ P₅ F₅
    cases b with
    | false =>
      have q : Keep1 src xs σ₅ ∧ J (i + 1) ys σ₅ := q
      exact wpAny_pure ⟨rfl, xs.length + 1 - (i + 1), turn_lt hi', i + 1, ys, ρ₄, σ₅, rfl, hi', H₅, I₅, q.1, c₄, A₅, by lia, q.2⟩
    | true =>
      have q : Ev C' ρ₄ σ₅ kx (fun dk σ₅ => ∃ k, dk = .str k ∧ Ev C' ρ₄ σ₅ vx (fun d σ₆ => Keep1 src xs σ₆ ∧ J (i + 1) (kvSet ys k d) σ₆) noX) noX := q
      refine wpAny_bind (wpAny_bind (q.run2 H₅ (fun v₆ dk σ₆ s₆ H₆ P₆ F₆ r₆ ⟨k₀, e₀, q₀⟩ => ?_) fun e s' x => x.noted0))
      subst e₀
      have r₆ := r₆; simp only [RepV] at r₆; obtain ⟨tk₀, rfl⟩ := r₆
      have I₆ := I₅.pers H₅ P₆
      have A₆ := A₅.step H₅ H₆ P₆ F₆
      refine wpAny_bind (wpAny_holding (q₀.run2 H₆ (fun v₇ d σ₇ s₇ H₇ P₇ F₇ r₇ q₇ => ?_) fun e s' x => x.noted0))
      have I₇ := I₆.pers H₆ P₇
      obtain ⟨⟨vs, hp, rs⟩, al, ab⟩ := A₆.step H₆ H₇ P₇ F₇
      have hlen := rs.length
      refine wpAny_bind (wpAny_standAt (wpAny_holding (wpAny_dictSet_pairs (knd := PySem.strKind C'.prog C'.w) (isStrOf_self k₀ tk₀) hp (fun h' hp' hs => wpAny_pure ⟨rfl, xs.length + 1 - (i + 1), turn_lt hi', ?_⟩) (by show vs.length ≤ 2 ^ 24; lia))))
      obtain ⟨H₈, tk⟩ := H₇.poke' (t := s₇.toks + 1) al ab (fun z9a x => DictOf.notTuple hp x) (fun z9a x => DictOf.notCell hp x) hs.extBut
      refine ⟨i + 1, kvSet ys k₀ d, ρ₄, σ₇, rfl, hi', H₈, I₇.keep tk (fun I o e' ho => hs.extBut I o (fun q => ?_) ho), q₇.1, c₄, ⟨⟨_, hp', (rs.keep tk).setAt k₀ (r₇.keep tk)⟩, al, ab⟩, by have := kvSet_length ys k₀ d; lia, q₇.2⟩
      subst q
      obtain ⟨I, o', vs', m, e'', _, ho', hd, _⟩ := I₇.obj
      rw [e'] at e''; cases e''
      obtain ⟨oD, es, ep, hoD, hcD, hdD, _⟩ := hp
      rw [hoD] at ho'; cases ho'; rw [hdD] at hd; cases hd
/-- the turns of a comprehension -/
noncomputable def TurnsD (C : Cx) (ρ : Vars) (scope : Scope) (target kx vx : Expr) (ifs : List Expr) (xs : List Val) (src : Option Addr) (J : Nat → List (Str × Val) → Store → Prop) : Prop :=
  ∀ C', Comp C C' scope → ∀ i x ys ρ₂ σ₂, xs[i]? = some x → J i ys σ₂ → Keep1 src xs σ₂ → Capt scope ρ ρ₂ →
      As C' ρ₂ σ₂ target x (fun ρ₃ σ₃ => Capt scope ρ ρ₃ ∧ Cts C' ρ₃ σ₃ ifs (fun b σ₄ => if b then Ev C' ρ₃ σ₄ kx (fun dk σ₅ => ∃ k, dk = .str k ∧ Ev C' ρ₃ σ₅ vx (fun d σ₆ => Keep1 src xs σ₆ ∧ J (i + 1) (kvSet ys k d) σ₆) noX) noX else Keep1 src xs σ₄ ∧ J (i + 1) ys σ₄)) noX
theorem comp_blockD {kx vx target iter : Expr} {ifs : List Expr} {scope : Scope} {pos : Pos} {it : Value} {xs : List Val} {src : Option Addr} {J : Nat → List (Str × Val) → Store → Prop} {RR : Value → Addr → Result → Shared → Prop} {E : Value → Shared → Prop}
    (H : St C base ρ σ s) (I : Itr C base s.heap it xs src 0) (k : Keep1 src xs σ) (ok : CompOk C scope) (hq : C.quiet = true) (hsz : xs.length ≤ 2 ^ 20) (hJ : J 0 [] σ) (hstep : TurnsD C ρ scope target kx vx ifs xs src J)
    (hend : ∀ D Lc ys σ' s' m, St C base ρ (σ'.set D (.sdict ys)) s' → σ' D = none → J xs.length ys σ' → Keep1 src xs σ' → s'.heap.Ns Lc m → base.get? Lc = none → ¬ C.Loose (σ'.set D (.sdict ys)) Lc → RR (.ref D) Lc (.ok .next) s') :
    wpAny C.M C.A newDict (fun acc s₃ => wpAny C.M C.A (newFunctionEnv scope C.env.globals (capL C.env scope.names) [] C.env.qual none .none (some C.env)) (fun cenv s₄ =>
      codeAny C.M C.A (.compStart (.DictComp kx vx [⟨target, iter, ifs, 0⟩] scope pos) 0 it acc { cenv with scope := relabel scope C.env }) (RR acc cenv.locals) s₄) E s₃) E s := by
  refine wpAny_newObj_type (wpAny_newFunctionEnv ok.nocell (by intro y hy; simp at hy) (fun h₁ hns₁ hsb₁ => ?_) ok.kind)
  dsimp only at hns₁ hsb₁ ⊢
  obtain ⟨m₀, ⟨oL, esL, epL, hoL, hdL, hL3⟩, hL4⟩ := id H.ns
  generalize hH2 : s.heap.push { cls := .type "dict", dict := none, data := .dict #[] } = H2 at hns₁ hsb₁ ⊢
  have hC : H2.objs.size = s.heap.objs.size + 1 := by rw [← hH2, Heap.size_push]
  have hDC : s.heap.objs.size ≠ H2.objs.size := by rw [hC]; exact Nat.ne_of_lt (Nat.lt_succ_self _)
  have keep : ∀ b o, s.heap.get? b = some o → h₁.get? b = some o := fun b o e => hsb₁.extBut b o (by rw [hC]; exact Nat.ne_of_lt (Nat.lt_succ_of_lt (Heap.lt_size e))) (Heap.get?_push_of_some _ (hH2 ▸ Heap.get?_push_of_some _ e))
  have hD0 : s.heap.get? s.heap.objs.size = none := Heap.get?_none_of_le (Nat.le_refl _)
  have hC0 : s.heap.get? H2.objs.size = none := Heap.get?_none_of_le (by rw [hC]; exact Nat.le_succ _)
  have hD1 : h₁.DictOf (PySem.strKind C.prog C.w) s.heap.objs.size [] := (Heap.DictOf.at (hH2 ▸ Heap.DictOf.new s.heap) fun o ho => hsb₁.extBut _ _ hDC (Heap.get?_push_of_some _ ho))
  have hit : ∀ I, it = .ref I → base.get? I = none ∧ ∃ o vs, s.heap.get? I = some o ∧ o.data = .fields vs ∧ o.cls ≠ .type "tuple" := fun I' e => by
    obtain ⟨I'', o, vs, n, e', hb, ho, hd, hc, hn⟩ := I.obj
    rw [e] at e'; cases e'
    refine ⟨hb, o, vs, ho, hd, ?_⟩
    rw [hc]; rcases hn with rfl | rfl | rfl <;> decide
  have H' := comp_enter H ok (it := it) (fun I' e => let ⟨a, o, vs, b, c, _⟩ := hit I' e; ⟨a, o, vs, b, c⟩) hoL (h' := h₁) (t := s.toks + ([] : List (Str × Value)).length) keep hC0 hns₁
  have hBnone : ∀ b, s.heap.get? b = none → (compBase C scope σ s.heap it).get? b = none := fun b hb => by
    cases q : (compBase C scope σ s.heap it).get? b with
    | none => rfl
    | some o => have := (wipe_get.mp q).2; rw [hb] at this; cases this
  have notLoose : ∀ b, s.heap.get? b = none → ¬ C.Loose σ b := fun b hb x => by
    rcases x with ⟨o, h⟩ | rfl | ⟨p, hp, rfl⟩ | ⟨x, h1, h2⟩
    · obtain ⟨ob, ho, _⟩ := (H.store _ _ h).1.there; rw [hb] at ho; cases ho
    · rw [hoL] at hb; cases hb
    · obtain ⟨⟨sl, hs⟩, _⟩ := H.frs p hp; rw [hb] at hs; cases hs
    · obtain ⟨u, ⟨o, ho, _⟩, _⟩ := H.cells _ _ h1; rw [hb] at ho; cases ho
  have I' : Itr (compCx C scope H2.objs.size oL) (compBase C scope σ s.heap it) h₁ it xs src 0 := by
    have I1 := I.keep (h' := h₁) (TupKeep.of_keeps keep) fun I o z9a ho => keep _ _ ho
    obtain ⟨I, e, hb, r⟩ := I1
    exact ⟨I, e, wipe_none (.inr (.inr (.inr (.inr e)))), r⟩
  have aLoose : ¬ (compCx C scope H2.objs.size oL).Loose σ s.heap.objs.size := by
    rintro (⟨o, h⟩ | h | ⟨p, hp, h⟩ | ⟨x, h1, h2⟩)
    · exact notLoose _ hD0 (.inl ⟨o, h⟩)
    · exact hDC h
    · rcases List.mem_cons.mp hp with rfl | hp
      · exact notLoose _ hD0 (.inr (.inl h.symm))
      · exact notLoose _ hD0 (.inr (.inr (.inl ⟨p, hp, h⟩)))
    · obtain ⟨k1, k2⟩ := capL_lookup ok.nodup h1
      obtain ⟨c', h3⟩ := Option.isSome_iff_exists.mp (H.allcells x (.inl (ok.free _ (mem_of_lookup k1) rfl)))
      rw [h3] at k2
      have k2 : s.heap.objs.size = c' := k2
      subst k2
      obtain ⟨u, ⟨o, ho, _⟩, _⟩ := H.cells _ _ h3; rw [hD0] at ho; cases ho
  have A' : AccD (compCx C scope H2.objs.size oL) (compBase C scope σ s.heap it) σ { s with heap := h₁, toks := s.toks + ([] : List (Str × Value)).length } s.heap.objs.size [] :=
    ⟨⟨[], hD1, .nil⟩, aLoose, hBnone _ hD0⟩
  have loop : codeAny C.M C.A (.compLoop (.DictComp kx vx [⟨target, iter, ifs, 0⟩] scope pos) 0 it (.ref s.heap.objs.size) (compCx C scope H2.objs.size oL).env) (RR (.ref s.heap.objs.size) H2.objs.size)
      { s with heap := h₁, toks := s.toks + ([] : List (Str × Value)).length } := by
    refine comp_loopD (C' := compCx C scope H2.objs.size oL) (base := compBase C scope σ s.heap it) (ρ := ρ) (J := J) (src := src) (xs := xs) hq hsz (hstep _ (compCx_comp H.ok ok)) (fun ys ρ₂ σ₂ s₂ H₂ c₂ A₂ hl J₂ k₂ => ?_) ⟨0, [], _, σ, rfl, Nat.zero_le _, H', I', k, capV_capt _ _, A', Nat.le_refl _, hJ⟩
    obtain ⟨H₃, tk⟩ := comp_leave H ok hit hoL H₂ c₂
    obtain ⟨⟨vs, hp, rs⟩, al, ab⟩ := A₂
    have hσD : σ₂ s.heap.objs.size = none := by
      cases q : σ₂ s.heap.objs.size with
      | none => rfl
      | some ob => exact absurd (.inl ⟨ob, q⟩) al
    obtain ⟨m, hn, _⟩ := H₂.ns
    have hne : ∀ b, s.heap.get? b = none → base.get? b = none ∧ b ≠ C.env.locals ∧ ∀ p ∈ C.frs, p.1 ≠ b := fun b hb => H.newAddr hb
    refine hend _ _ ys σ₂ s₂ m (H₃.track hσD ⟨vs, hp, rs⟩ (hne _ hD0)) hσD J₂ k₂ hn (hne _ hC0).1 ?_
    rintro (⟨o, h⟩ | h | ⟨p, hp, h⟩ | ⟨x, h1, h2⟩)
    · unfold Store.set at h
      split at h
      · rename_i q; exact hDC q.symm
      · exact (H₂.store _ _ h).2.2.1 rfl
    · exact (hne _ hC0).2.1 h
    · exact (hne _ hC0).2.2 p hp h
    · obtain ⟨u, hu, _⟩ := H₃.cells _ _ h1; exact Ns.notCell hn hu
  exact codeAny_compStart_dict loop (Itr.self I' loop)
/-- a list comprehension given to a local name -/
theorem exAssignDComp {kx vx target iter : Expr} {ifs : List Expr} {scope : Scope} {pos spos py : Pos} {y : Str} {Q : Out → Vars → Store → Prop} (ok : CompOk C scope) (hq : C.quiet = true)
    (h : ItE C ρ σ iter (fun xs src σ₁ => xs.length ≤ 2 ^ 20 ∧ ∃ J : Nat → List (Str × Val) → Store → Prop, J 0 [] σ₁ ∧ TurnsD C ρ scope target kx vx ifs xs src J ∧
      ∀ ys σ₂ a, J xs.length ys σ₂ → Keep1 src xs σ₂ → σ₂ a = none → Q .next (ρ.set y (.ref a)) (σ₂.set a (.sdict ys))) X)
    (hy : C.env.kindOf y = some .local) (hsw : (py.line == pos.line && !(scope.names.any fun (n, k) => n == y && (k == .local || k == .cell))) = true := by rfl)
    (hs : ∀ x, foldedSetIterable iter C.env x = pure x := by intro _; rfl) : Ex1 C ρ σ (.Assign [.Name y py] (.DictComp kx vx [⟨target, iter, ifs, 0⟩] scope pos) spos) Q X :=
  Ex1.intro fun base s H => by
    have hsw' : swapsWith (.DictComp kx vx [⟨target, iter, ifs, 0⟩] scope pos) (some (.Name y py)) spos.line C.env = pure true := by
      show (pure (C.env.blockKind == .function && C.env.kindOf y == some .local && py.line == pos.line && !(scope.names.any fun (n, k) => n == y && (k == .local || k == .cell))) : Sem Bool) = pure true
      have : C.env.blockKind = .function := by unfold Env.blockKind; rw [H.ok.kind]; rfl
      rw [this, hy, Bool.and_assoc, hsw]; rfl
    rw [exec_Assign_Name_used _ _ _ _ hsw']
    refine wpAny_bind (wpAny_standAt (wpAny_bind ?_))
    show wpAny _ C.A (do let _ ← comprehension (.DictComp kx vx [⟨target, iter, ifs, 0⟩] scope pos) scope C.env _ newDict false (eval iter C.env) (some (assign (.Name y py) C.env))) _ _ s
    refine wpAny_bind (wpAny_mono (wpAny_comprehension_free (g := ⟨target, iter, ifs, 0⟩) (gs := []) (use := some (assign (.Name y py) C.env)) (Q := fun z9a s' => Fp C base Q .next s') rfl hs (comp_closure H ok) ok.kind ok.names
      (wpAny_mono (h base s H) (fun xv s₁ h₁ => wpAny_mono h₁ (fun it s₂ h₂ => ?_) fun z9a z9b e => e) fun z9a z9b e => e)) (fun z9a s' hq => wpAny_pure (wpAny_pure hq)) fun z9a z9b e => e)
    obtain ⟨σ₁, xs, src, H₁, I₁, k₁, hsz, J, hJ, hstep, hend⟩ := h₂
    refine comp_blockD (RR := fun acc L => compPost C.M C.A (Xp C base X) (some (assign (.Name y py) C.env)) (fun z9a s' => Fp C base Q .next s') acc L) H₁ I₁ k₁ ok hq hsz hJ hstep fun D Lc ys σ' s' m H' hD hJ' k' hn hb hl => ?_
    show wpAny C.M C.A (assign (.Name y py) C.env (.ref D)) _ _ s'
    refine wpAny_assign_Name (store_local2 H' (d := .ref D) (by simp [RepV]) hy fun h₂ t H₂ hs₂ => ?_)
    have hLL : Lc ≠ C.env.locals := fun e => hl (.inr (.inl e))
    have hn₂ := hn.sameBut hs₂ hLL
    refine ⟨m, hn₂, fun h₃ hs₃ => ?_⟩
    obtain ⟨H₃, tk⟩ := H₂.poke' (t := t) hl hb (fun z9a x => Ns.notTuple hn₂ x) (fun z9a x => Ns.notCell hn₂ x) hs₃.extBut
    exact ⟨.next, _, _, H₃, by simp [RepF], hend ys σ' D hJ' k' hD⟩
end
end Mine
set_option tactic.hygienic false
namespace Mine
open PySem PySem.W PyProof.Rows PySem.Calls
section
variable {C : Cx} {base : Heap} {ρ : Vars} {σ : Store} {s : Shared} {Q : Val → Store → Prop} {X : XPost}
structure AttrOk (K : Frag) (cls : Addr) (name : Str) : Prop where
  ga : findIn K (.ref cls) "__getattribute__" = some (some (.builtin "object.__getattribute__"))
  sa : findIn K (.ref cls) "__setattr__" = some (some (.builtin "object.__setattr__"))
  hd : hasDictIn K cls = true
  po : plainOver K cls = true
  at_ : findIn K (.ref cls) name = some none
theorem handed_of {B h d v} (r : RepV B h d v) (hb : ∀ i, d ≠ .blt i) : handedIn v = true := by
  cases d with
  | blt i => exact absurd rfl (hb i)
  | none => simp only [RepV] at r; subst r; rfl
  | bool b => simp only [RepV] at r; subst r; rfl
  | int i => simp only [RepV] at r; obtain ⟨t, rfl⟩ := r; rfl
  | str i => simp only [RepV] at r; obtain ⟨t, rfl⟩ := r; rfl
  | tup xs => simp only [RepV] at r; obtain ⟨a, vs, rfl, _⟩ := r; rfl
  | ref a => simp only [RepV] at r; subst r; rfl
  | typ n => simp only [RepV] at r; subst r; rfl
noncomputable abbrev AtP (C : Cx) (name : Str) (Q : Val → Store → Prop) : Val → Store → Prop := fun d σ₁ => ∃ x cls dd fs v, d = .ref x ∧ σ₁ x = some (.inst cls dd) ∧ σ₁ dd = some (.sdict fs) ∧ AttrOk C.K cls name ∧ kvAt fs name = some v ∧ (∀ i, v ≠ .blt i) ∧ Q v σ₁
theorem Ev.attr {o : Expr} {name : Str} {pos : Pos}
    (h : Ev C ρ σ o (AtP C name Q) X)
    (hb : attributeBase o name C.env (eval o C.env) = eval o C.env := by rfl) : Ev C ρ σ (.Attribute o name pos) Q X :=
  Ev.intro fun base s H => by
    rw [arm_eval_Attribute, hb]
    refine wpAny_bind (h.run H (fun v d σ₁ s₁ H₁ P₁ r₁ h₁ => ?_) fun z9a z9b x => x)
    obtain ⟨x, cls, dd, fs, u, rfl, hx, hd, M, hk, hnb, q⟩ := h₁
    simp only [RepV] at r₁; subst r₁
    obtain ⟨ox, od, ws, I, hox, hod, hw, rk⟩ := H₁.inst hx hd
    obtain ⟨o', ho', hl⟩ := lookIn_of hw name
    rw [hod] at ho'; cases ho'
    rcases rk.at name with ⟨h1, _⟩ | ⟨d', v', h1, h2, r'⟩
    · rw [hk] at h1; cases h1
    rw [hk] at h1; cases h1
    rw [h2] at hl
    refine wpAny_bind (wpAny_standAt (wpAny_bind (wpAny_holding (get_value H₁.kin I M.ga (findObj_own M.hd M.at_ rfl hl) (handed_of r' hnb) ?_))))
    exact wpAny_bind (wpAny_letTemporaryGo (wpAny_pure ⟨u, σ₁, H₁.toks _, r', q⟩))
theorem DictOf.putName {prog : Program} {w : World} {h : Heap} {a : Addr} {kvs : List (Str × Value)} (hd : h.DictOf (PySem.strKind prog w) a kvs) (name : Str) (tk : Tok) (v : Value) :
    (h.update a (Obj.putName name (hashStr w name) (.str name tk) v)).DictOf (PySem.strKind prog w) a (stored kvs name v) := by
  obtain ⟨o, es, ep, ho, hc, hdat, hk, hp, hn⟩ := hd
  obtain ⟨oc, oD, od, os⟩ := o
  dsimp only at hdat; subst hdat
  have hf : (fun e : DictEntry => e.key.isStr name) = fun e => (PySem.strKind prog w).is name e.key := funext fun e => ((PySem.strKind prog w).strs name name 0 e.key (by simp [PySem.strKind, Value.isStrOf])).symm
  have hidx : (es.findIdx? fun e => (PySem.strKind prog w).is name e.key) = kvs.findIdx? fun kv => decide (kv.1 = name) := by
    rw [← hp.findIdx name]; obtain ⟨l⟩ := es; simp
  cases hi : es.findIdx? fun e => (PySem.strKind prog w).is name e.key with
  | some i =>
    have e1 : Obj.putName name (hashStr w name) (.str name tk) v ⟨oc, oD, .dict es ep, os⟩ = ⟨oc, oD, .dict (es.modify i fun e => { e with val := v }) ep, os⟩ := by
      simp only [Obj.putName_eq, Obj.putNameByArray, hf, hi]
    refine ⟨_, _, ep, Heap.get?_update_self _ ho (by rw [e1]; rfl), by rw [e1]; exact hc, by rw [e1], hk.modify _ _, ?_, ?_⟩
    · rw [stored, if_pos (any_of_findIdx_some (hidx ▸ hi))]
      have hl : (es.toList.findIdx? fun e => (PySem.strKind prog w).is name e.key) = some i := by rw [← hi]; obtain ⟨l⟩ := es; simp
      have := hp.modify hn hl v
      obtain ⟨l⟩ := es
      simpa using this
    · rw [stored, if_pos (any_of_findIdx_some (hidx ▸ hi)), keys_map_store]; exact hn
  | none =>
    have e1 : Obj.putName name (hashStr w name) (.str name tk) v ⟨oc, oD, .dict es ep, os⟩ = ⟨oc, oD, .dict (es.push ⟨hashStr w name, .str name tk, v⟩) (ep + 1), os⟩ := by
      simp only [Obj.putName_eq, Obj.putNameByArray, hf, hi]
    have hnot : name ∉ kvs.map (·.1) := not_mem_of_findIdx_none (hidx ▸ hi)
    have hany : ¬ (kvs.any fun kv => decide (kv.1 = name)) = true := by
      rw [List.any_eq_true]; rintro ⟨kv, hkv, he⟩
      exact hnot (List.mem_map.mpr ⟨kv, hkv, of_decide_eq_true he⟩)
    have hkey : (PySem.strKind prog w).is name (.str name tk) = true := isStrOf_self name tk
    refine ⟨_, _, ep + 1, Heap.get?_update_self _ ho (by rw [e1]; rfl), by rw [e1]; exact hc, by rw [e1]; rfl, hk.push hkey v, ?_, ?_⟩
    · rw [stored, if_neg hany]
      have := hp.append hkey ((PySem.strKind prog w).hash name) v
      obtain ⟨l⟩ := es
      simpa using this
    · rw [stored, if_neg hany, List.map_append, List.nodup_append]
      refine ⟨hn, by simp, ?_⟩
      intro a ha b hb
      simp only [List.map_cons, List.map_nil, List.mem_singleton] at hb
      subst hb
      exact fun e => hnot (e ▸ ha)
theorem wpAny_nsSet_pairs {A : Around} {E : Value → Shared → Prop} {prog : Program} {w : World} {a : Addr} {kvs : List (Str × Value)} {name : Str} {v : Value} {Q' : Unit → Shared → Prop} (hd : s.heap.DictOf (PySem.strKind prog w) a kvs)
    (hQ : ∀ h', h'.DictOf (PySem.strKind prog w) a (stored kvs name v) → Heap.SameBut a s.heap h' → Q' () { s with heap := h', toks := s.toks + 1 }) : wpAny (model prog w) A (nsSet a name v) Q' E s := by
  obtain ⟨o, es, ep, ho, hc, hdat, hk, hp, hn⟩ := id hd
  unfold nsSet
  refine wpAny_bind (wpAny_bind (wpAny_askSetting (wpAny_pure (wpAny_bind (wpAny_mkText (wpAny_bind (wpAny_loadPart ho ?_)))))))
  rw [hdat]
  dsimp only
  have hany : es.any (·.refKey) = false := by
    have := Pairs.noRef hp
    rwa [Array.any_toList] at this
  rw [aRefKeyMayBeTheName_at, hany, Bool.and_false]
  exact wpAny_updatePart ho (hQ _ (DictOf.putName hd name _ v) (Heap.SameBut.update ..))
theorem As.attr {o : Expr} {name : Str} {pos : Pos} {d : Val} {T : Vars → Store → Prop}
    (h : Ev C ρ σ o (fun d₁ σ₁ => ∃ x cls dd fs, d₁ = .ref x ∧ σ₁ x = some (.inst cls dd) ∧ σ₁ dd = some (.sdict fs) ∧ AttrOk C.K cls name ∧ fs.length ≤ 100 ∧ T ρ (σ₁.set dd (.sdict (kvSet fs name d)))) X) :
    As C ρ σ (.Attribute o name pos) d T X := fun base s v H r => by
  intro Γ p hΓ
  simp only [assign_Attribute, Sem.wp_bind', Sem.wp_holding, Sem.wp_cmd_standAt, Sem.wp_release, Sem.wp_pure']
  have key : wpAny C.M C.A (eval o C.env) (fun ov s₂ => wpAny C.M C.A (setAttr ov name v) (fun z9a s' => ∃ ρ' σ', St C base ρ' σ' s' ∧ T ρ' σ') (Xp C base X) s₂) (Xp C base X) s := by
    refine h.run H (fun v₁ d₁ σ₁ s₁ H₁ P₁ r₁ h₁ => ?_) fun z9a z9b x => x
    obtain ⟨x, cls, dd, fs, rfl, hx, hd, M, hsz, q⟩ := h₁
    simp only [RepV] at r₁; subst r₁
    obtain ⟨ox, od, ws, I, hox, hod, hw, rk⟩ := H₁.inst hx hd
    have rv := P₁.rep r
    refine set_plain H₁.kin I M.sa (osa_open (r := none) (H₁.kin) (s := { s₁ with toks := s₁.toks + 1 }) I M.po (by unfold takerIn; rw [M.at_]; rfl) fun b => ?_)
    obtain ⟨cd, hc, hd'⟩ := any_some M.hd
    obtain ⟨hx', hcl, hn', -⟩ := I
    obtain ⟨oc, odi, oda, osl⟩ := ox
    dsimp only at hcl hox
    subst hcl hox
    refine wpAny_bind (wpAny_pure (wpAny_bind (wpAny_bind (wpAny_loadPart hx' (wpAny_bind (Looks.here (s := { s₁ with toks := s₁.toks + 1 }) (looks_clsIn H₁.kin hc) ?_))))))
    rw [hd']
    refine wpAny_pure (a := some dd) (wpAny_bind (wpAny_pure (wpAny_bind ?_)))
    refine wpAny_nsSet_pairs (s := { s₁ with toks := s₁.toks + 1 }) hw fun h' hw' hs => ?_
    obtain ⟨H₂, tk⟩ := H₁.upd (o' := .sdict (kvSet fs name d)) (t := s₁.toks + 1 + 1) hd hs fun tk => ⟨_, hw', (rk.keep tk).setAt name (rv.keep tk)⟩
    obtain ⟨o₂, es₂, ep₂, ho₂, hc₂, hd₂, _, hp₂, _⟩ := id hw'
    refine wpAny_bind (wpAny_lookBehind ho₂ (by
      rw [hd₂]; refine pastItsLine_dict ?_
      have e1 := hp₂.length
      have e2 : es₂.toList.length = es₂.size := by simp
      have e3 := ((rk.keep tk).setAt name (rv.keep tk)).length
      have e4 := kvSet_length fs name d
      rw [sizeLine_eq]; lia) ?_)
    exact wpAny_pure ⟨ρ, _, H₂, q⟩
  exact Sem.wp_mono C.M Γ _ (fun ov z9a s₂ h₂ => h₂ Γ _ hΓ) (fun z9a z9b z9c h' => h') _ _ (key Γ p hΓ)
end
end Mine
set_option tactic.hygienic false
namespace Mine
open PySem PySem.W PyProof.Rows PySem.Calls
section
variable {C : Cx} {base : Heap} {ρ : Vars} {σ : Store} {s : Shared} {Q : Val → Store → Prop} {X : XPost}
theorem one_arg {B h d vs} (r : RepVs B h [d] vs) : ∃ v, vs = [v] ∧ RepV B h d v := by
  simp only [RepVs] at r; obtain ⟨v, ws, rfl, r1, rfl⟩ := r; exact ⟨v, rfl, r1⟩
theorem two_args {B h d e vs} (r : RepVs B h [d, e] vs) : ∃ v u, vs = [v, u] ∧ RepV B h d v ∧ RepV B h e u := by
  simp only [RepVs] at r; obtain ⟨v, ws, rfl, r1, u, us, rfl, r2, rfl⟩ := r; exact ⟨v, u, rfl, r1, r2⟩
theorem Cal.len {a : Addr} {xs : List Val} (ha : σ a = some (.list xs)) (hz : xs.length < 2 ^ 60) (h : Q (.int xs.length) σ) : Cal C ρ σ (.builtin "len") [.ref a] Q X := fun base s vs H r => by
  obtain ⟨v, e0, r1⟩ := one_arg r; clear r; subst e0; have r := r1; simp only [RepV] at r; subst r
  obtain ⟨ws, hl, rs⟩ := (H.store a _ ha).1
  have hlen := rs.length
  refine call_len_list hl.isList (by rw [List.size_toArray]; lia) ⟨.int xs.length, σ, H.toks _, ?_, h⟩
  simp only [RepV, List.size_toArray]; exact ⟨_, by rw [hlen]⟩
theorem Cal.lenTup {xs : List Val} (hz : xs.length < 2 ^ 60) (h : Q (.int xs.length) σ) : Cal C ρ σ (.builtin "len") [.tup xs] Q X := fun base s vs H r => by
  obtain ⟨v, e0, r1⟩ := one_arg r; clear r; subst e0; have r := r1; simp only [RepV] at r
  obtain ⟨t, ws, rfl, ht, _, rs⟩ := r
  have hlen := rs.length
  refine PyProof.Rows.len_tuple ht (by rw [List.size_toArray]; lia) ⟨.int xs.length, σ, H.toks _, ?_, h⟩
  simp only [RepV, List.size_toArray]; exact ⟨_, by rw [hlen]⟩
theorem Cal.abs {i : Int} (h : Q (.int (if i < 0 then -i else i)) σ) : Cal C ρ σ (.builtin "abs") [.int i] Q X := fun base s vs H r => by
  obtain ⟨v, e0, r1⟩ := one_arg r; clear r; subst e0; have r := r1; simp only [RepV] at r; obtain ⟨t, rfl⟩ := r
  exact call_abs_int fun u tk => ⟨_, σ, H.toks _, by simp [RepV], h⟩
theorem Cal.listOf {a : Addr} {xs : List Val} (ha : σ a = some (.list xs)) (hz : xs.length ≤ 1000) (h : ∀ b, σ b = none → Q (.ref b) (σ.set b (.list xs))) : Cal C ρ σ (.type "list") [.ref a] Q X := fun base s vs H r => by
  obtain ⟨v, e0, r1⟩ := one_arg r; clear r; subst e0; have r := r1; simp only [RepV] at r; subst r
  obtain ⟨ws, ⟨n, ho⟩, rs⟩ := (H.store a _ ha).1
  have hlen := rs.length
  refine call_list_seq a (.inl rfl) ho rfl rfl (fun h' c' keep hD => ?_) (by rw [List.size_toArray]; show _ ≤ 2 ^ 24; lia)
  have hf : s.heap.get? s.heap.objs.size = none := Heap.get?_none_of_le (Nat.le_refl _)
  exact ⟨.ref _, _, (H.grow (t := s.toks) keep).track (o := .list xs) H.fresh ⟨ws, ⟨c', hD⟩, rs.keep (.of_keeps keep)⟩ (H.newAddr hf), by simp [RepV], h _ H.fresh⟩
theorem Cal.tupleOf {a : Addr} {xs : List Val} (ha : σ a = some (.list xs)) (hz : xs.length ≤ 1000) (h : Q (.tup xs) σ) : Cal C ρ σ (.type "tuple") [.ref a] Q X := fun base s vs H r => by
  obtain ⟨v, e0, r1⟩ := one_arg r; clear r; subst e0; have r := r1; simp only [RepV] at r; subst r
  obtain ⟨ws, hl, rs⟩ := (H.store a _ ha).1
  have hlen := rs.length
  refine call_tuple_list hl.isList (fun h' keep => ?_) (by rw [List.size_toArray]; show _ ≤ 2 ^ 24; lia)
  have hne : s.heap.get? h'.objs.size = none := by
    cases q : s.heap.get? h'.objs.size with
    | none => rfl
    | some o => exact absurd (Heap.lt_size (keep _ _ q)) (Nat.lt_irrefl _)
  have k2 : ∀ b o, s.heap.get? b = some o → (h'.push { cls := .type "tuple", data := .seq (List.toArray ws) }).get? b = some o := fun b o e => Heap.get?_push_of_some _ (keep b o e)
  refine ⟨.tup xs, σ, H.grow (t := s.toks) k2, ?_, h⟩
  simp only [RepV]
  exact ⟨_, ws, rfl, ⟨_, Heap.get?_push_size _ rfl, rfl, _, rfl⟩, H.notBad hne, rs.keep (.of_keeps k2)⟩
theorem Cal.tupleTup {xs : List Val} (h : Q (.tup xs) σ) : Cal C ρ σ (.type "tuple") [.tup xs] Q X := fun base s vs H r => by
  obtain ⟨v, e0, r1⟩ := one_arg r; clear r; subst e0; have r := r1
  have r0 := r
  simp only [RepV] at r
  obtain ⟨t, ws, rfl, ht, _, rs⟩ := r
  exact call_tuple_same ht ⟨.tup xs, σ, H, r0, h⟩
theorem Cal.append {a : Addr} {xs : List Val} {d : Val} (ha : σ a = some (.list xs)) (hz : xs.length ≤ 1000) (h : Q .none (σ.set a (.list (xs ++ [d])))) : Cal C ρ σ (.builtin "list.append") [.ref a, d] Q X := fun base s vs H r => by
  obtain ⟨v, u, e0, r1, r2⟩ := two_args r; clear r; subst e0; have r := r1; simp only [RepV] at r; subst r
  obtain ⟨ws, hl, rs⟩ := (H.store a _ ha).1
  have hlen := rs.length
  refine wpAny_list_append_plain hl (fun h' hl' hs => ?_) (by rw [List.size_toArray]; show _ ≤ 2 ^ 24; lia)
  have e : (List.toArray ws).push u = List.toArray (ws ++ [u]) := by simp
  rw [e] at hl'
  exact ⟨.none, _, (H.upd (o' := .list (xs ++ [d])) (t := s.toks) ha hs fun tk => ⟨_, hl', (rs.append (.cons r2 .nil)).keep tk⟩).1, by simp [RepV], h⟩
theorem Cal.extend {a b : Addr} {xs ys : List Val} (ha : σ a = some (.list xs)) (hb : σ b = some (.list ys)) (hz : xs.length ≤ 1000) (hz' : ys.length ≤ 1000) (h : Q .none (σ.set a (.list (xs ++ ys)))) :
    Cal C ρ σ (.builtin "list.extend") [.ref a, .ref b] Q X := fun base s vs H r => by
  obtain ⟨v, u, e0, r1, r2⟩ := two_args r; clear r; subst e0; have r := r1; simp only [RepV] at r r2; subst r r2
  obtain ⟨ws, hl, rs⟩ := (H.store a _ ha).1
  obtain ⟨us, hl2, rs2⟩ := (H.store b _ hb).1
  have hlen := rs.length
  have hlen2 := rs2.length
  obtain ⟨n, ho⟩ := hl
  obtain ⟨n2, ho2⟩ := hl2
  have hbig : sizeLine = 2 ^ 24 := rfl
  refine call_meets PySem.F.slot_list_extend ⟨_, ho, rfl⟩ PySem.F.entry_list_extend (PySem.F.args_list_extend_2 _ _)
    (AutoSeq1.list_extend_list_list_0 a (List.toArray ws) n b (List.toArray us) n2 ?_ ?_ ?_) ⟨ho, ho2, ?_⟩
  · simp only [List.size_toArray, Builtin.List.listTooLong, Bool.and_eq_true, decide_eq_true_eq, not_and]; intro _; lia
  · rw [List.size_toArray]; lia
  · rw [List.size_toArray, List.size_toArray]; lia
  · have hs := Heap.SameBut.update s.heap a (Obj.mapSeq fun x => x ++ List.toArray us)
    have ho' : (s.heap.update a (Obj.mapSeq fun x => x ++ List.toArray us)).PlainList a (List.toArray (ws ++ us)) := by
      have e1 : List.toArray ws ++ List.toArray us = List.toArray (ws ++ us) := by simp
      rw [← e1]
      exact ⟨_, Heap.get?_update_self _ ho rfl⟩
    exact ⟨.none, _, (H.upd (o' := .list (xs ++ ys)) (t := s.toks) ha hs fun tk => ⟨_, ho', (rs.append rs2).keep tk⟩).1, by simp [RepV], h⟩
-- new dicts
theorem evDictI {pos : Pos} (h : ∀ a, σ a = none → Q (.ref a) (σ.set a (.idict []))) : Ev C ρ σ (.Dict [] [] pos) Q X :=
  Ev.intro fun base s H => wpAny_Dict_empty ⟨.ref _, _, (H.push _).track (o := .idict []) H.fresh ⟨[], Heap.DictOf.new _, .nil⟩ (H.newAddr (Heap.get?_none_of_le (Nat.le_refl _))), by simp [RepV], h _ H.fresh⟩
theorem Bin.addList {a b : Addr} {xs ys : List Val} (ha : σ a = some (.list xs)) (hb : σ b = some (.list ys)) (hz : xs.length ≤ 1000) (hz' : ys.length ≤ 1000) (h : ∀ c, σ c = none → Q (.ref c) (σ.set c (.list (xs ++ ys)))) :
    Bin C ρ σ (binaryOp .Add) (.ref a) (.ref b) Q := fun base s v₁ v₂ H r r2 => by
  simp only [RepV] at r r2; subst r r2
  obtain ⟨ws, hl, rs⟩ := (H.store a _ ha).1
  obtain ⟨us, hl2, rs2⟩ := (H.store b _ hb).1
  have hlen := rs.length
  have hlen2 := rs2.length
  obtain ⟨n, ho⟩ := hl
  obtain ⟨n2, ho2⟩ := hl2
  have hbig : sizeLine = 2 ^ 24 := rfl
  refine PySem.P.add_list ho ho2 ⟨.ref _, _, (H.push _ (t := s.toks)).track (o := .list (xs ++ ys)) H.fresh ⟨ws ++ us, ⟨0, ?_⟩, (rs.append rs2).keep (.of_keeps fun z9a z9b e => Heap.get?_push_of_some _ e)⟩ (H.newAddr (Heap.get?_none_of_le (Nat.le_refl _))), by simp [RepV], h _ H.fresh⟩ (by simp only [List.size_toArray]; lia)
  show Heap.get? (Heap.push _ _) _ = _
  rw [Heap.get?_push_size _ rfl]
  simp
theorem Bin.addTup {xs ys : List Val} (hz : xs.length ≤ 1000) (hz' : ys.length ≤ 1000) (h : Q (.tup (xs ++ ys)) σ) : Bin C ρ σ (binaryOp .Add) (.tup xs) (.tup ys) Q := fun base s v₁ v₂ H r r2 => by
  have r0 := r; have r20 := r2
  simp only [RepV] at r r2
  obtain ⟨t, ws, rfl, ht, _, rs⟩ := r
  obtain ⟨t2, us, rfl, ht2, _, rs2⟩ := r2
  have hlen := rs.length
  have hlen2 := rs2.length
  have hbig : sizeLine = 2 ^ 24 := rfl
  obtain ⟨⟨cls, dd, data, sl⟩, ho, hc, n, hd⟩ := id ht
  obtain ⟨⟨cls2, dd2, data2, sl2⟩, ho2, hc2, n2, hd2⟩ := id ht2
  simp only at hc hd hc2 hd2
  subst hc hd hc2 hd2
  have e : List.toArray ws ++ List.toArray us = List.toArray (ws ++ us) := by simp
  by_cases hv : ws = []
  · have : xs = [] := List.length_eq_zero_iff.mp (by rw [← hlen, hv]; rfl)
    subst this
    exact concat_meets ⟨_, ho, rfl⟩ ⟨_, ho2, rfl⟩ noFill_tuple_add seq_tuple_add PySem.F.slot_tuple_add PySem.F.entry_tuple_add (PySem.F.args_tuple_add_2 _ _)
      (tuple_addW0 t t2 (List.toArray ws) (List.toArray us) n n2 dd dd2 sl sl2 (by simp [hv])) ⟨ho, ho2, ⟨.tup ys, σ, H, r20, h⟩⟩
  · by_cases hw : us = []
    · have : ys = [] := List.length_eq_zero_iff.mp (by rw [← hlen2, hw]; rfl)
      subst this
      rw [List.append_nil] at h
      exact concat_meets ⟨_, ho, rfl⟩ ⟨_, ho2, rfl⟩ noFill_tuple_add seq_tuple_add PySem.F.slot_tuple_add PySem.F.entry_tuple_add (PySem.F.args_tuple_add_2 _ _)
        (tuple_addW1 t t2 (List.toArray ws) (List.toArray us) n n2 dd dd2 sl sl2 (by simpa using hv) (by simp [hw])) ⟨ho, ho2, ⟨.tup xs, σ, H, r0, h⟩⟩
    · refine concat_meets ⟨_, ho, rfl⟩ ⟨_, ho2, rfl⟩ noFill_tuple_add seq_tuple_add PySem.F.slot_tuple_add PySem.F.entry_tuple_add (PySem.F.args_tuple_add_2 _ _)
        (tuple_addW2 t t2 (List.toArray ws) (List.toArray us) n n2 dd dd2 sl sl2 (by simpa using hv) (by simpa using hw) (by rw [List.size_toArray, List.size_toArray]; lia)) ⟨ho, ho2, ?_⟩
      have k : ∀ b o, s.heap.get? b = some o → (s.heap.push { cls := Value.type "tuple", data := Data.seq (List.toArray ws ++ List.toArray us) }).get? b = some o := fun z9a z9b e => Heap.get?_push_of_some _ e
      refine ⟨.tup (xs ++ ys), σ, H.grow (t := s.toks) k, ?_, h⟩
      simp only [RepV]
      exact ⟨_, ws ++ us, rfl, ⟨_, Heap.get?_push_size _ rfl, rfl, _, by rw [e]⟩, H.notBad (Heap.get?_none_of_le (Nat.le_refl _)), (rs.append rs2).keep (.of_keeps k)⟩
/-- where a datum stands first in a list -/
noncomputable def firstAt (xs : List Val) (d : Val) (j : Nat) : Prop := (∃ x, xs[j]? = some x ∧ PyData.eqv x.py d.py = true) ∧ ∀ i x, i < j → xs[i]? = some x → PyData.eqv x.py d.py = false
theorem Cal.index {a : Addr} {xs : List Val} {d : Val} {j : Nat} (ha : σ a = some (.list xs)) (hd : d.fit 8 = true) (hx : Val.fits 8 xs = true) (hz : xs.length ≤ 1000) (hj : firstAt xs d j) (h : Q (.int j) σ) :
    Cal C ρ σ (.builtin "list.index") [.ref a, d] Q X := fun base s vs H r => by
  obtain ⟨v, u, e0, r1, r2⟩ := two_args r; clear r; subst e0; simp only [RepV] at r1; subst r1
  obtain ⟨as, h1⟩ := r2.reads hd
  obtain ⟨ws, ⟨n, ho⟩, rs⟩ := (H.store a _ ha).1
  obtain ⟨bs, h2⟩ := rs.reads hx
  have hlen := rs.length
  have hroom := H.room
  have key := SeqAt.items_eqAt (A := C.A) (vs := List.toArray ws) (s := s) (by simpa using h2) h1 (Val.fits_py hx).1 (Val.fit_py hd).1 (by have := (Val.fit_py hd).2; lia)
  have at_ : ∀ (i : Nat) (hi : i < (List.toArray ws).size) x, xs[i]? = some x → SeqAt.readOf s.heap (List.toArray ws)[i] = x.py := fun i hi x hx' => by
    have e := SeqAt.readsAll_map _ _ _ (Val.fits_py hx).1 h2
    have e2 := congrArg (fun l : List PyData => l[i]?) e
    simp only [List.getElem?_map, Val.pys_map, hx', Option.map_some] at e2
    have hi' : i < ws.length := by simpa using hi
    rw [List.getElem?_eq_getElem hi'] at e2
    simpa using e2
  obtain ⟨⟨x, hxj, hxe⟩, hno⟩ := hj
  have hjl : j < xs.length := (List.getElem?_eq_some_iff.mp hxj).1
  have hjw : j < (List.toArray ws).size := by rw [List.size_toArray]; lia
  refine call_meets PySem.F.slot_list_index ⟨_, ho, rfl⟩ PySem.F.entry_list_index (PySem.F.args_list_index_2 _ _)
    (SeqAt.list_indexAt a (List.toArray ws) n none #[] u (fun y => PyData.eqv (SeqAt.readOf s.heap y) d.py) j hjw (by lia) ?_ fun m hm hmj => ?_) ⟨ho, key, ⟨.int j, σ, H.toks _, by simp [RepV], h⟩⟩
  · show PyData.eqv (SeqAt.readOf s.heap _) _ = true; rw [at_ j hjw x hxj]; exact hxe
  · have hmx : m < xs.length := by rw [List.size_toArray] at hm; lia
    obtain ⟨y, hy⟩ : ∃ y, xs[m]? = some y := ⟨_, List.getElem?_eq_getElem hmx⟩
    show PyData.eqv (SeqAt.readOf s.heap _) _ = false; rw [at_ m hm y hy]; exact hno m y hmj hy
end
end Mine
set_option tactic.hygienic false
namespace Mine
open PySem PySem.W PyProof.Rows PySem.Calls
section
variable {C : Cx} {base : Heap} {ρ : Vars} {σ : Store} {s : Shared} {Q : Val → Store → Prop} {X : XPost} {B : Bool → Store → Prop}
/-- a chain of two comparisons, as a test -/
theorem Tst.cmp2 {l r₁ r₂ : Expr} {op₁ op₂ : CmpOp} {pos : Pos}
    (h : Ev C ρ σ l (fun a σ₁ => Ev C ρ σ₁ r₁ (fun b σ₂ => Bin C ρ σ₂ (compareOp op₁) a b (fun d σ₃ => ∃ c, d = .bool c ∧ (c = true → Ev C ρ σ₃ r₂ (fun e σ₄ => Bin C ρ σ₄ (compareOp op₂) b e (fun d σ₅ => ∃ c', d = .bool c' ∧ B c' σ₅)) X) ∧ (c = false → B false σ₃))) X) X)
    (hm : lastMarks [op₁, op₂] [r₁, r₂] = false := by with_unfolding_all rfl) : Tst C ρ σ (.Compare l [op₁, op₂] [r₁, r₂] pos) B X :=
  Tst.intro fun base s H => isTrue_chain (h.run H (fun v₁ d₁ σ₁ s₁ H₁ P₁ q₁ h₁ => test_link (h₁.run H₁ (fun v₂ d₂ σ₂ s₂ H₂ P₂ q₂ h₂ => by
    obtain ⟨m, hm⟩ : ∃ P : Shared → Prop, P = fun s₃ => RepV C.bad s₃.heap d₂ v₂ := ⟨_, rfl⟩
    have tk := h₂
    refine wpAny_mono (tk _ _ _ _ H₂.rebase (P₂.rep q₁) q₂) (fun v s' ⟨d, σ', H', r', b, e, qt, qf⟩ => ?_) fun z9a z9b x => x.elim
    have P' : Pers C σ₂ s₂ s' := ⟨fun a items t => (TupKeep.of_keeps H'.b2) a items (H₂.tuples a items t), fun b o e hn => H'.b2 b o (wipe_get.mpr ⟨hn, e⟩)⟩
    have H' := H'.narrow H₂.b1 H₂.base_in
    subst e
    simp only [RepV] at r'; subst r'
    refine wpAny_truthy_bool ?_
    cases b with
    | false => exact ⟨σ', H', qf rfl⟩
    | true =>
      refine test_last ((qt rfl).run H' (fun v₃ d₃ σ₃ s₃ H₃ P₃ q₃ h₃ => ?_) fun z9a z9b x => x)
      refine wpAny_mono (h₃ _ _ _ _ H₃ (P₃.rep (P'.rep q₂)) q₃) (fun v s' ⟨d, σ', H', r', b, e, q⟩ => ?_) fun z9a z9b x => x.elim
      subst e
      simp only [RepV] at r'; subst r'
      exact wpAny_truthy_bool ⟨σ', H', q⟩) fun z9a z9b x => x)) fun z9a z9b x => x) hm
/-- stores that are swapped: a pair display given to two local names -/
theorem swapped_two {x y : Str} {px py p₁ p₂ : Pos} {k₁ k₂ : Nat} {v₁ v₂ : Expr} {env : Env} (hk : env.scope.kind = .function) (hx : env.kindOf x = some .local) (hy : env.kindOf y = some .local) (hxy : (x == y) = false)
    (hl : px.line = py.line) (hs : [v₁, v₂].any (fun | .Starred .. => true | _ => false) = false) (hf : [v₁, v₂].all (foldedForSure 8) = false) (hc : [v₁, v₂].all (constantsAlone 8) = false) :
    swappedStores [.Tuple [.Name x px, .Name y py] k₁ p₁] (.Tuple [v₁, v₂] k₂ p₂) env = pure (some [x, y]) := by
  unfold swappedStores
  have hb : env.blockKind = .function := by unfold Env.blockKind; rw [hk]; rfl
  have ep : ∀ (n : Str) (p : Pos), (Expr.Name n p).pos = p := fun z9a z9b => rfl
  have hyx : ¬ y = x := fun e => by subst e; simp at hxy
  have hdup : ([x, y] : List Str).eraseDups = [x, y] := by
    have h' : (y == x) = false := by simpa using hyx
    simp [List.eraseDups_cons, List.filter_cons, h']
  simp only [hb, hs, hf, hc, List.filterMap_cons, List.filterMap_nil, hx, hy, ep, List.head?_cons, Option.map_some, Option.getD_some, hl, beq_self_eq_true, Bool.and_self, if_true, hdup]
  rw [if_neg (by simp)]
  refine (if_neg ?_).trans ?_
  · intro h; exact Bool.noConfusion (hs.symm.trans h)
  rw [if_neg (by simp)]
  rfl
theorem swapped_none2 {x y : Str} {px py p₁ p₂ : Pos} {k₁ k₂ : Nat} {vs : List Expr} {env : Env} (h : env.kindOf x ≠ some .local ∨ env.kindOf y ≠ some .local) :
    swappedStores [.Tuple [.Name x px, .Name y py] k₁ p₁] (.Tuple vs k₂ p₂) env = pure none := by
  unfold swappedStores
  have key : ∀ N : List Str, N = ([Expr.Name x px, Expr.Name y py].filterMap fun
    | .Name id pos => if env.kindOf id == some .local && pos.line == (([Expr.Name x px, Expr.Name y py].head?.map (·.pos.line)).getD 0) then some id else none
    | _ => none) → N.length ≠ 2 := by
    rintro N rfl
    rcases h with h | h
    · have h' : (env.kindOf x == some .local) = false := by simpa using h
      simp only [List.filterMap_cons, List.filterMap_nil, h', Bool.false_and, Bool.false_eq_true, if_false]
      split <;> simp
    · have h' : (env.kindOf y == some .local) = false := by simpa using h
      simp only [List.filterMap_cons, List.filterMap_nil, h', Bool.false_and, Bool.false_eq_true, if_false]
      split <;> simp
  have key' := key _ rfl
  dsimp only
  split
  · rfl
  · split
    · rfl
    · refine if_pos ?_
      simp only [Bool.or_eq_true, bne_iff_ne]; exact .inl key'
theorem swapped_none3 {x y z : Str} {px py pz p₁ p₂ : Pos} {k₁ k₂ : Nat} {vs : List Expr} {env : Env} (h : env.kindOf x ≠ some .local) :
    swappedStores [.Tuple [.Name x px, .Name y py, .Name z pz] k₁ p₁] (.Tuple vs k₂ p₂) env = pure none := by
  unfold swappedStores
  have key : ∀ N : List Str, N = ([Expr.Name x px, Expr.Name y py, Expr.Name z pz].filterMap fun
    | .Name id pos => if env.kindOf id == some .local && pos.line == (([Expr.Name x px, Expr.Name y py, Expr.Name z pz].head?.map (·.pos.line)).getD 0) then some id else none
    | _ => none) → N.length ≠ 3 := by
    rintro N rfl
    have h' : (env.kindOf x == some .local) = false := by simpa using h
    simp only [List.filterMap_cons, List.filterMap_nil, h', Bool.false_and, Bool.false_eq_true, if_false]
    split <;> split <;> simp
  have key' := key _ rfl
  dsimp only
  split
  · rfl
  · split
    · rfl
    · refine if_pos ?_
      simp only [Bool.or_eq_true, bne_iff_ne]; exact .inl key'
/-- a pair display given to two local names: the stores are swapped -/
theorem exAssignSwap {x y : Str} {px py p₁ p₂ pos : Pos} {k₁ k₂ : Nat} {v₁ v₂ : Expr} {Q : Out → Vars → Store → Prop} (hq : C.quiet = true)
    (h : Ev C ρ σ v₁ (fun d₁ σ₁ => Ev C ρ σ₁ v₂ (fun d₂ σ₂ => Q .next ((ρ.set y d₂).set x d₁) σ₂) X) X)
    (hx : C.env.kindOf x = some .local) (hy : C.env.kindOf y = some .local) (hxy : (x == y) = false := by decide)
    (hl : px.line = py.line := by rfl) (hs : [v₁, v₂].any (fun | .Starred .. => true | _ => false) = false := by rfl) (hf : [v₁, v₂].all (foldedForSure 8) = false := by rfl) (hc : [v₁, v₂].all (constantsAlone 8) = false := by rfl)
    (he₁ : ∀ r, starEach (v₁ :: r) C.env = (false, eval v₁ C.env) :: starEach r C.env := by intro _; rfl) (he₂ : ∀ r, starEach (v₂ :: r) C.env = (false, eval v₂ C.env) :: starEach r C.env := by intro _; rfl) :
    Ex1 C ρ σ (.Assign [.Tuple [.Name x px, .Name y py] k₁ p₁] (.Tuple [v₁, v₂] k₂ p₂) pos) Q X :=
  Ex1.intro fun base s H => by
    have hw : swappedStores [.Tuple [.Name x px, .Name y py] k₁ p₁] (.Tuple [v₁, v₂] k₂ p₂) C.env = pure (some [x, y]) := swapped_two H.ok.kind hx hy hxy hl hs hf hc
    have hsw : swapsWithSole [.Tuple [.Name x px, .Name y py] k₁ p₁] (.Tuple [v₁, v₂] k₂ p₂) pos.line C.env = pure false := by rfl
    refine Assign_Tuple_swapped (names := [x, y]) ?_ hsw hw
    have hv : Ev C ρ σ (.Tuple [v₁, v₂] k₂ p₂) (fun d σ' => ∃ d₁ d₂, d = .tup [d₁, d₂] ∧ Q .next ((ρ.set y d₂).set x d₁) σ') X :=
      Ev.tuple (Evs.cons (h.mono fun d₁ σ₁ h₁ => Evs.cons (h₁.mono fun d₂ σ₂ q => Evs.nil ⟨by simp, d₁, d₂, rfl, q⟩) (he₂ _)) (he₁ _))
    refine hv.run H (fun v d σ₁ s₁ H₁ P₁ r₁ ⟨d₁, d₂, e, q⟩ => ?_) fun z9a z9b x => x
    subst e
    simp only [RepV] at r₁
    obtain ⟨a, vs, rfl, ht, _, rs⟩ := r₁
    obtain ⟨u₁, u₂, rfl, r1, r2⟩ := two_args rs
    rw [show ([x, y] : List Str).length = (List.toArray [u₁, u₂]).size from rfl]
    refine unpackItems_tuple (H₁.ok.calm hq) ht fun h' he => ?_
    have H₂ := H₁.grow (t := s₁.toks) (ext_of he)
    have tk := TupKeep.of_keeps (ext_of he)
    show wpAny C.M C.A (assignInOrder [bindName C.env y, bindName C.env x] [u₂, u₁]) _ _ _
    refine wpAny_assignInOrder_more (wpAny_bindName (store_local2 H₂ (r2.keep tk) hy fun h₂ t H₃ hs₂ => ?_))
    have tk3 : TupKeep s₁.heap h₂ := tk.trans fun a items x => by
      have hne : a ≠ C.env.locals := fun e => by subst e; obtain ⟨m, hn, _⟩ := H₂.ns; exact Ns.notTuple hn x
      obtain ⟨o, ho, r⟩ := x
      exact ⟨o, (hs₂.2 _ hne).trans ho, r⟩
    exact wpAny_assignInOrder_more (wpAny_bindName (store_local H₃ (r1.keep tk3) hx fun h₃ t' H₄ => wpAny_assignInOrder_none ⟨.next, _, _, H₄, by simp [RepF], q⟩))
-- slices
theorem evSliceList {o : Expr} {u : Int} {k : Nat} {cp p pos : Pos}
    (h : Ev C ρ σ o (fun d σ₁ => ∃ a xs, d = .ref a ∧ σ₁ a = some (.list xs) ∧ xs.length ≤ 1000 ∧ 0 ≤ u ∧ ∀ b, σ₁ b = none → Q (.ref b) (σ₁.set b (.list (xs.take u.toNat)))) X)
    (ht : ∀ v r, letTemporaryGo o v r = pure () := by intro _ _; rfl) : Ev C ρ σ (.Subscript o (.Slice none (some (.Constant (.int u) k cp)) none p) pos) Q X :=
  Ev.intro fun base s H => by
    refine wpAny_Subscript_list_slice (h.run H (fun v d σ₁ s₁ H₁ P₁ r₁ ⟨a, xs, e, ha, hz, h0, q⟩ => ?_) fun z9a z9b x => x) ht
    subst e
    simp only [RepV] at r₁; subst r₁
    obtain ⟨ws, hl, rs⟩ := (H₁.store a _ ha).1
    have hlen := rs.length
    refine evalPart_none_step (evalPart_some_step (wpAny_Constant_int ⟨a, List.toArray ws, none, some u, rfl, hl.isList, by rw [List.size_toArray]; show _ ≤ 2 ^ 24; lia, .none, .int u _, ?_⟩))
    have e1 : (slicePick (List.toArray ws) none (some u) none) = List.toArray (ws.take u.toNat) := by
      rw [kms_pick_eq]
      show List.toArray (kms_pick ws none (some u)) = _
      unfold kms_pick kms_lo kms_hi
      simp only [List.drop_zero, Nat.sub_zero, if_neg (show ¬ u < 0 by lia), kmk_take_min]
    rw [e1]
    have k2 : ∀ b o, s₁.heap.get? b = some o → ((s₁.heap.push { cls := .type "slice", data := .fields #[.none, .int u s₁.toks, .none] }).push { cls := .type "list", data := .seq (List.toArray (ws.take u.toNat)) }).get? b = some o := fun b o e => Heap.get?_push_of_some _ (Heap.get?_push_of_some _ e)
    have hf : s₁.heap.get? (s₁.heap.objs.size + 1) = none := Heap.get?_none_of_le (Nat.le_succ _)
    have hσ : σ₁ (s₁.heap.objs.size + 1) = none := by
      cases q : σ₁ (s₁.heap.objs.size + 1) with
      | none => rfl
      | some o => obtain ⟨ob, ho, _⟩ := (H₁.store _ _ q).1.there; rw [hf] at ho; cases ho
    refine ⟨.ref (s₁.heap.objs.size + 1), _, (H₁.grow (t := s₁.toks + 1) k2).track (o := .list (xs.take u.toNat)) hσ ⟨ws.take u.toNat, ⟨0, ?_⟩, (rs.take _).keep (.of_keeps k2)⟩ (H₁.newAddr hf), by simp [RepV], q _ hσ⟩
    have := Heap.get?_push_size (s₁.heap.push { cls := .type "slice", data := .fields #[.none, .int u s₁.toks, .none] }) (o := { cls := .type "list", data := .seq (List.toArray (ws.take u.toNat)) }) rfl
    rwa [Heap.size_push] at this
theorem evSliceTup {o : Expr} {k : Nat} {cp p pos : Pos}
    (h : Ev C ρ σ o (fun d σ₁ => ∃ x xs, d = .tup (x :: xs) ∧ xs.length ≤ 1000 ∧ Q (.tup xs) σ₁) X)
    (ht : ∀ v r, letTemporaryGo o v r = pure () := by intro _ _; rfl) : Ev C ρ σ (.Subscript o (.Slice (some (.Constant (.int 1) k cp)) none none p) pos) Q X :=
  Ev.intro fun base s H => by
    refine wpAny_Subscript_Slice (T := "tuple") PySem.F.slot_tuple_getitem.lookup (h.run H (fun v d σ₁ s₁ H₁ P₁ r₁ ⟨x, xs, e, hz, q⟩ => ?_) fun z9a z9b x => x) ht
    subst e
    simp only [RepV] at r₁
    obtain ⟨a, vs, rfl, htup, nb, rs⟩ := r₁
    obtain ⟨w₁, ws, rfl, rx, rs⟩ := (by simpa only [RepVs] using rs : ∃ v ws, vs = v :: ws ∧ RepV C.bad s₁.heap x v ∧ RepVs C.bad s₁.heap xs ws)
    have hlen := rs.length
    refine wpAny_Slice (evalPart_some_step (wpAny_Constant_int (evalPart_none_step (evalPart_none_step ⟨(htup.push _).typeIs, ?_⟩))))
    refine getItem_tuple_from (a := 1) (htup.push _) (Heap.IsSliceOf.new ..) (Nat.le_refl _) (by simp) ?_ (by simp only [List.size_toArray, List.length_cons]; show _ ≤ 2 ^ 24; lia)
    have k2 : ∀ b o, s₁.heap.get? b = some o → ((s₁.heap.push { cls := .type "slice", data := .fields #[.int 1 s₁.toks, .none, .none] }).push { cls := .type "tuple", data := .seq (List.toArray ws) }).get? b = some o := fun b o e => Heap.get?_push_of_some _ (Heap.get?_push_of_some _ e)
    refine ⟨.tup xs, σ₁, H₁.grow (t := s₁.toks + 1) k2, ?_, q⟩
    simp only [RepV]
    refine ⟨_, ws, rfl, ⟨_, Heap.get?_push_size _ rfl, rfl, 0, rfl⟩, H₁.notBad (Heap.get?_none_of_le ?_), rs.keep (.of_keeps k2)⟩
    show s₁.heap.objs.size ≤ (s₁.heap.push _).objs.size
    rw [Heap.size_push]; exact Nat.le_succ _
end
end Mine
set_option tactic.hygienic false
namespace Mine
open PySem PySem.W PyProof.Rows PySem.Calls
theorem ints_are {B : List Addr} {h : Heap} : ∀ {ns : List Int} {vs : List Value}, RepVs B h (ns.map .int) vs → IntsAre vs ns
  | [], vs, r => by simp only [List.map_nil, RepVs] at r; subst r; exact .nil
  | n :: ns, vs, r => by
    simp only [List.map_cons, RepVs, RepV] at r
    obtain ⟨v, ws, rfl, ⟨t, rfl⟩, r⟩ := r
    exact .cons n t (ints_are r)
theorem are_ints {B : List Addr} {h : Heap} : ∀ {ns : List Int} {vs : List Value}, IntsAre vs ns → RepVs B h (ns.map .int) vs
  | _, _, .nil => by simp [RepVs]
  | _, _, .cons n t r => by simp only [List.map_cons]; exact .cons (by simp [RepV]) (are_ints r)
section
variable {C : Cx} {base : Heap} {ρ : Vars} {σ : Store} {s : Shared} {Q : Val → Store → Prop} {X : XPost}
/-- all that stands but the own frame -/
noncomputable def others (h : Heap) (L : Addr) : List (Addr × Obj) := (List.range h.objs.size).filterMap fun a => if a = L then none else (h.get? a).map (a, ·)
theorem others_mem {h : Heap} {L b : Addr} {o : Obj} (hb : b ≠ L) (e : h.get? b = some o) : (b, o) ∈ others h L := by
  unfold others
  rw [List.mem_filterMap]
  exact ⟨b, List.mem_range.mpr (Heap.lt_size e), by rw [if_neg hb, e]; rfl⟩
theorem others_news {h : Heap} {L : Addr} : News {} L h (others h L) := fun p hp => by
  unfold others at hp
  rw [List.mem_filterMap] at hp
  obtain ⟨a, _, e⟩ := hp
  split at e
  · cases e
  · rename_i hne
    cases q : h.get? a with
    | none => rw [q] at e; cases e
    | some o => rw [q] at e; cases e; exact ⟨q, hne, by simp [Heap.get?]⟩
theorem St.fr (H : St C base ρ σ s) : ∃ m, Fr {} C.env.locals s.heap m ∧ ∀ h' t, Fr {} C.env.locals h' m → News {} C.env.locals h' (others s.heap C.env.locals) → St C base ρ σ { s with heap := h', toks := t } ∧ TupKeep s.heap h' := by
  obtain ⟨m, hn, y⟩ := id H.ns
  refine ⟨m, ⟨hn, fun b o e => by simp [Heap.get?] at e, by simp⟩, fun h' t F N => ?_⟩
  have keep : ∀ b o, b ≠ C.env.locals → s.heap.get? b = some o → h'.get? b = some o := fun b o hb e => (N _ (others_mem hb e)).1
  have tk : TupKeep s.heap h' := fun a items x => by
    have hne : a ≠ C.env.locals := fun e => by subst e; exact Ns.notTuple hn x
    obtain ⟨o, ho, r⟩ := x
    exact ⟨o, keep _ _ hne ho, r⟩
  refine ⟨⟨H.ok, H.gens, H.os, H.b1, fun b o e => keep b o (fun q => by subst q; rw [H.own] at e; cases e) (H.b2 b o e), ⟨m, F.ns, fun x v e l => let ⟨u, h1, h2⟩ := y x v e l; ⟨u, h1, h2.keep tk⟩⟩, ?_, H.allcells, ?_, H.own, H.ownc, ?_, ?_⟩, tk⟩
  · intro x c e
    obtain ⟨u, h1, h2⟩ := H.cells x c e
    refine ⟨u, ?_, fun v hv hk => let ⟨u', e1, r⟩ := h2 v hv hk; ⟨u', e1, r.keep tk⟩⟩
    have hne : c ≠ C.env.locals := fun e => by subst e; exact Ns.notCell hn h1
    obtain ⟨oc, hoc, hdc⟩ := h1
    exact ⟨oc, keep _ _ hne hoc, hdc⟩
  · intro a ha
    obtain ⟨h1, items, x⟩ := H.bad a ha
    exact ⟨h1, items, tk _ _ x⟩
  · intro p hp
    obtain ⟨⟨sl, h1⟩, h2⟩ := H.frs p hp
    exact ⟨⟨sl, keep _ _ h2.2.2 h1⟩, h2⟩
  · intro b ob e
    obtain ⟨h1, h2⟩ := H.store b ob e
    exact ⟨h1.keep tk fun o' ho' => keep _ _ h2.2.1 ho', h2⟩
theorem Cal.maxInts {a : Addr} {ns : List Int} (ha : σ a = some (.list (ns.map .int))) (hne : 0 < ns.length) (hq : C.quiet = true) (h : ∀ M, M ∈ ns → (∀ x ∈ ns, x ≤ M) → Q (.int M) σ) : Cal C ρ σ (.builtin "max") [.ref a] Q X := fun base s vs H r => by
  obtain ⟨v, e0, r1⟩ := one_arg r; clear r; subst e0; simp only [RepV] at r1; subst r1
  obtain ⟨ws, hl, rs⟩ := (H.store a _ ha).1
  obtain ⟨m, F, back⟩ := H.fr
  refine max_list_N (H.ok.calm hq) F others_news hl.isList (ints_are rs) hne fun h' M t tk F' N' h1 h2 => ?_
  exact ⟨.int M, σ, (back h' tk F' N').1, by simp [RepV], h M h1 h2⟩
theorem Cal.sortedList {a : Addr} {ns : List Int} (ha : σ a = some (.list (ns.map .int))) (h64 : ns.length < 64) (h : ∀ (ns' : List Int) (b : Addr), ns'.Perm ns → ns'.Pairwise (· ≤ ·) → σ b = none → Q (.ref b) (σ.set b (.list (ns'.map .int)))) :
    Cal C ρ σ (.builtin "sorted") [.ref a] Q X := fun base s vs H r => by
  obtain ⟨v, e0, r1⟩ := one_arg r; clear r; subst e0; simp only [RepV] at r1; subst r1
  obtain ⟨ws, hl, rs⟩ := (H.store a _ ha).1
  have hI := ints_are rs
  refine sorted_ints hl.isList hI (by rw [hI.length]; exact h64) fun out ns' a1 a2 a3 => ?_
  obtain ⟨e, he⟩ := sortedAll_at s.heap ws out
  have hf : s.heap.get? (s.heap.objs.size + 1) = none := Heap.get?_none_of_le (Nat.le_succ _)
  have hσ : σ (s.heap.objs.size + 1) = none := by
    cases q : σ (s.heap.objs.size + 1) with
    | none => rfl
    | some o => obtain ⟨ob, ho, _⟩ := (H.store _ _ q).1.there; rw [hf] at ho; cases ho
  refine ⟨.ref (s.heap.objs.size + 1), _, (H.grow (t := s.toks) fun z9a z9b e => sortedAll_old e).track (o := .list (ns'.map .int)) hσ ⟨out.toList, ⟨e, ?_⟩, are_ints a1⟩ (H.newAddr hf), by simp [RepV], h ns' _ a2 a3 hσ⟩
  rw [Array.toArray_toList]; exact he
/-- sorted of what is collected as ints -/
theorem sorted_of (H : St C base ρ σ s) {r : Value} {ns : List Int} (h64 : ns.length < 64)
    (hc : ∀ (R : List Value → Shared → Prop) (E : Value → Shared → Prop), (∀ h' tk ws, (∀ b o, s.heap.get? b = some o → h'.get? b = some o) → IntsAre ws ns → R ws { s with heap := h', toks := tk }) → wpAny C.M C.A.in1 (collect r) R E s)
    (h : ∀ (ns' : List Int) (b : Addr), ns'.Perm ns → ns'.Pairwise (· ≤ ·) → σ b = none → Q (.ref b) (σ.set b (.list (ns'.map .int)))) : wpAny C.M C.A (call (.builtin "sorted") [r]) (Vp C base ρ Q) (Xp C base X) s := by
  refine call_function_entry kind_sorted plain_sorted entry_sorted (args_sorted1 _) ?_
  unfold Builtin.«sorted»
  refine wpAny_bind (m := checkCount "sorted" 1 1 _) (wpAny_pure ?_)
  refine wpAny_bind (hc _ _ fun h' tk ws keep hI => ?_)
  have hlen := hI.length
  refine wpAny_bind (wpAny_newList ?_ (by rw [sizeLine_eq]; lia))
  have ho : (h'.push { cls := .type "list", data := .seq (List.toArray ws) }).get? h'.objs.size = some (seqObj "list" (List.toArray ws) 0) := Heap.get?_push_size _ rfl
  have hf : s.heap.get? h'.objs.size = none := by
    cases q : s.heap.get? h'.objs.size with
    | none => rfl
    | some o => exact absurd (Heap.lt_size (keep _ _ q)) (Nat.lt_irrefl _)
  refine wpAny_bind (wpAny_holding (wpAny_call_entry PyProof.Rows.slot_list_sort ⟨_, ho, rfl⟩ PyProof.Rows.entry_list_sort (list_sort_tree ho hI (by lia) fun out ns' a1 a2 a3 => ⟨.none, rfl, wpAny_pure ⟨_, rfl, ?_⟩⟩) (PyProof.Rows.args_list_sort _)))
  obtain ⟨e, he⟩ := sortedHeap_at (vs := ws) (out := out) ho
  have hσ : σ h'.objs.size = none := by
    cases q : σ h'.objs.size with
    | none => rfl
    | some o => obtain ⟨ob, ho, _⟩ := (H.store _ _ q).1.there; rw [hf] at ho; cases ho
  have k2 : ∀ b o, s.heap.get? b = some o → (sortedHeap (h'.push { cls := .type "list", data := .seq (List.toArray ws) }) h'.objs.size ws out).get? b = some o := fun b o e => by
    have e1 := keep b o e
    rw [sortedHeap_old (Nat.ne_of_lt (Heap.lt_size e1)) (by rw [Heap.size_push]; exact Nat.lt_succ_of_lt (Heap.lt_size e1))]
    exact Heap.get?_push_of_some _ e1
  refine ⟨.ref h'.objs.size, _, (H.grow (t := tk) k2).track (o := .list (ns'.map .int)) hσ ⟨out.toList, ⟨e, ?_⟩, are_ints a1⟩ (H.newAddr hf), by simp [RepV], h ns' _ a2 a3 hσ⟩
  rw [Array.toArray_toList]; exact he
theorem intsAre_at : ∀ {ws : List Value} {ns : List Int}, ws.length = ns.length → (∀ (j : Nat) (v : Value), ws[j]? = some v → ∃ n t, ns[j]? = some n ∧ v = Value.int n t) → IntsAre ws ns
  | [], [], _, _ => .nil
  | [], _ :: _, h, _ => by simp at h
  | _ :: _, [], h, _ => by simp at h
  | v :: ws, n :: ns, h, x => by
    obtain ⟨m, t, e, rfl⟩ := x 0 v rfl
    simp at e; subst e
    exact .cons _ t (intsAre_at (by simpa using h) fun j w hw => x (j + 1) w (by simpa using hw))
theorem Cal.sortedDict {a : Addr} {kvs : List (Int × Val)} (ha : σ a = some (.idict kvs)) (h64 : kvs.length < 64) (hq : C.quiet = true) (hm : (C.h₁.get? sysModules).isSome = true)
    (h : ∀ (ns' : List Int) (b : Addr), ns'.Perm (kvs.map (·.1)) → ns'.Pairwise (· ≤ ·) → σ b = none → Q (.ref b) (σ.set b (.list (ns'.map .int)))) : Cal C ρ σ (.builtin "sorted") [.ref a] Q X := fun base s vs H r => by
  obtain ⟨v, e0, r1⟩ := one_arg r; clear r; subst e0; simp only [RepV] at r1; subst r1
  obtain ⟨ws, hd, rk⟩ := (H.store a _ ha).1
  have hlen := rk.length
  refine sorted_of H (ns := kvs.map (·.1)) (by rw [List.length_map]; exact h64) (fun R E hR => ?_) h
  obtain ⟨ep, hat⟩ := hd.dictAt
  have hne : (a == sysModules) = false := by
    have : a ≠ sysModules := fun e => by
      subst e
      obtain ⟨o, ho⟩ := Option.isSome_iff_exists.mp hm
      have := H.b1 _ _ ho
      rw [(H.store _ _ ha).2.1] at this; cases this
    simpa using this
  have hh : C.A.in1.handled = none := by simpa using H.ok.calm hq
  refine kdu_collect (kdl_dict (knd := intKind C.prog C.w) (kvs := ws) (ep := ep) hne) (H.ok.calm hq) hat (by show ws.length ≤ 2 ^ 24; lia) fun h' tk acc keep hacc => hR h' tk acc.toList keep ?_
  refine intsAre_at (by rw [Array.length_toList, hacc.1, List.length_map]; exact hlen) fun j v hv => ?_
  obtain ⟨k, x, hx, hi⟩ := hacc.2 j v (by rw [← Array.getElem?_toList]; exact hv)
  obtain ⟨t, rfl⟩ : ∃ t, v = .int k t := by
    cases v <;> simp [intKind, Value.isInt] at hi
    subst hi; exact ⟨_, rfl⟩
  refine ⟨k, t, ?_, rfl⟩
  have key : ∀ {kvs : List (Int × Val)} {ws : List (Int × Value)} {j : Nat}, RepKV C.bad s.heap kvs ws → ws[j]? = some (k, x) → (kvs.map (·.1))[j]? = some k := by
    intro kvs ws j r
    induction r generalizing j with
    | nil => intro e; simp at e
    | cons _ _ ih => intro e; cases j with
      | zero => simp at e; simp [e.1]
      | succ j => simp at e; simpa using ih e
  exact key rk hx
end
end Mine
set_option tactic.hygienic false
namespace Mine
open PySem PySem.W PyProof.Rows PySem.Calls
/-- the small ints that are in -/
noncomputable def smalls (p : Nat → Bool) : List Nat := [1, 2, 3, 4].filter p
theorem smalls_cases (p : Nat → Bool) : smalls p = (if p 1 then [1] else []) ++ (if p 2 then [2] else []) ++ (if p 3 then [3] else []) ++ (if p 4 then [4] else []) := by
  unfold smalls
  simp only [List.filter_cons, List.filter_nil]
  cases p 1 <;> cases p 2 <;> cases p 3 <;> cases p 4 <;> rfl
noncomputable def tokSet (tk : Nat → Tok) (k : Nat) (t : Tok) : Nat → Tok := fun j => if j = k then t else tk j
theorem set_fits (w : World) (p : Nat → Bool) (tk : Nat → Tok) : (setTab w (smalls p)).fits (setEs (smalls p) tk).size = true := by
  rw [smalls_cases]
  cases p 1 <;> cases p 2 <;> cases p 3 <;> cases p 4 <;> rfl
theorem set_fits' (w : World) (p : Nat → Bool) (tk : Nat → Tok) : (setTab w (smalls p)).fits (smalls p).length = true := by
  rw [smalls_cases]
  cases p 1 <;> cases p 2 <;> cases p 3 <;> cases p 4 <;> rfl
theorem layNew_of {t t' : SetTable} {es es' : Array (Int × Value)} {h : Int} {x : Value} {k p : Nat} (e1 : t.freeSlot h = some (k, false)) (e2 : t.put k = (t', p)) (e3 : SetTable.insertAt es p (h, x) = es') (e4 : t'.fits es'.size = true) :
    layNew t es h x = (es', t', false, false) := by
  unfold layNew
  rw [e1]
  dsimp only
  rw [e2]
  dsimp only
  rw [e3]
  unfold SetTable.orStandIn
  rw [e4]
  rfl
noncomputable def tab (bt : Bool) (b1 b2 b3 b4 : Bool) : SetTable := { mask := 7, place := ((if b1 then [1] else []) ++ (if b2 then [2] else []) ++ (if b3 then [3] else []) ++ (if b4 then [4] else [])).toArray, dummies := #[], finger := 0, led := bt, moves := 0, plain := true }
noncomputable def cnt (b1 b2 b3 : Bool) : Nat := (if b1 then 1 else 0) + (if b2 then 1 else 0) + (if b3 then 1 else 0)
theorem tab_free : ∀ bt b1 b2 b3 b4, (b1 = false → (tab bt b1 b2 b3 b4).freeSlot 1 = some (1, false)) ∧ (b2 = false → (tab bt b1 b2 b3 b4).freeSlot 2 = some (2, false)) ∧ (b3 = false → (tab bt b1 b2 b3 b4).freeSlot 3 = some (3, false)) ∧ (b4 = false → (tab bt b1 b2 b3 b4).freeSlot 4 = some (4, false)) := by
  decide +kernel
theorem tab_put : ∀ bt b1 b2 b3 b4, (b1 = false → (tab bt b1 b2 b3 b4).put 1 = (tab bt true b2 b3 b4, 0)) ∧ (b2 = false → (tab bt b1 b2 b3 b4).put 2 = (tab bt b1 true b3 b4, cnt b1 false false)) ∧
    (b3 = false → (tab bt b1 b2 b3 b4).put 3 = (tab bt b1 b2 true b4, cnt b1 b2 false)) ∧ (b4 = false → (tab bt b1 b2 b3 b4).put 4 = (tab bt b1 b2 b3 true, cnt b1 b2 b3)) := by
  decide +kernel
noncomputable def elems (tk : Nat → Tok) (b1 b2 b3 b4 : Bool) : Array (Int × Value) := setEs ((if b1 then [1] else []) ++ (if b2 then [2] else []) ++ (if b3 then [3] else []) ++ (if b4 then [4] else [])) tk
theorem elems_put (tk : Nat → Tok) (t : Tok) (b1 b2 b3 b4 : Bool) : (b1 = false → SetTable.insertAt (elems tk b1 b2 b3 b4) 0 (1, .int 1 t) = elems (tokSet tk 1 t) true b2 b3 b4) ∧ (b2 = false → SetTable.insertAt (elems tk b1 b2 b3 b4) (cnt b1 false false) (2, .int 2 t) = elems (tokSet tk 2 t) b1 true b3 b4) ∧
    (b3 = false → SetTable.insertAt (elems tk b1 b2 b3 b4) (cnt b1 b2 false) (3, .int 3 t) = elems (tokSet tk 3 t) b1 b2 true b4) ∧ (b4 = false → SetTable.insertAt (elems tk b1 b2 b3 b4) (cnt b1 b2 b3) (4, .int 4 t) = elems (tokSet tk 4 t) b1 b2 b3 true) := by
  cases b1 <;> cases b2 <;> cases b3 <;> cases b4 <;> refine ⟨fun h => ?_, fun h => ?_, fun h => ?_, fun h => ?_⟩ <;> first | rfl | exact absurd h (by decide)
theorem setTab_tab (w : World) (p : Nat → Bool) : setTab w (smalls p) = tab (!w.params.followText "set-order") (p 1) (p 2) (p 3) (p 4) := by unfold setTab tab; rw [smalls_cases]
theorem setEs_elems (p : Nat → Bool) (tk : Nat → Tok) : setEs (smalls p) tk = elems tk (p 1) (p 2) (p 3) (p 4) := by unfold elems; rw [smalls_cases]
theorem layNew_small (w : World) (p : Nat → Bool) (k : Nat) (hk : 1 ≤ k ∧ k ≤ 4) (hp : p k = false) (tk : Nat → Tok) (t : Tok) :
    layNew (setTab w (smalls p)) (setEs (smalls p) tk) (k : Int) (.int (k : Int) t) = (setEs (smalls fun j => p j || decide (j = k)) (tokSet tk k t), setTab w (smalls fun j => p j || decide (j = k)), false, false) := by
  have hf := set_fits w (fun j => p j || decide (j = k)) (tokSet tk k t)
  rw [setTab_tab, setTab_tab, setEs_elems, setEs_elems] at *
  have h1 := tab_free (!w.params.followText "set-order") (p 1) (p 2) (p 3) (p 4)
  have h2 := tab_put (!w.params.followText "set-order") (p 1) (p 2) (p 3) (p 4)
  have h3 := elems_put tk t (p 1) (p 2) (p 3) (p 4)
  have h : k = 1 ∨ k = 2 ∨ k = 3 ∨ k = 4 := four hk
  rcases h with rfl | rfl | rfl | rfl
  · refine layNew_of (h1.1 hp) ((h2.1 hp).trans ?_) ((h3.1 hp).trans ?_) hf <;> simp
  · refine layNew_of (h1.2.1 hp) ((h2.2.1 hp).trans ?_) ((h3.2.1 hp).trans ?_) hf <;> simp
  · refine layNew_of (h1.2.2.1 hp) ((h2.2.2.1 hp).trans ?_) ((h3.2.2.1 hp).trans ?_) hf <;> simp
  · refine layNew_of (h1.2.2.2 hp) ((h2.2.2.2 hp).trans ?_) ((h3.2.2.2 hp).trans ?_) hf <;> simp
theorem tab_full : ∀ bt b1 b2 b3 b4, (tab bt b1 b2 b3 b4).tooFull = false := by decide +kernel
end Mine
set_option tactic.hygienic false
namespace Mine
open PySem PySem.W PyProof.Rows PySem.Calls
/-- a set of small ints lies at a -/
noncomputable def SetAt (w : World) (h : Heap) (a : Addr) (p : Nat → Bool) : Prop := ∃ tk ep, h.get? a = some (setObj w (smalls p) tk ep)
theorem SetAt.congr {w h a} {p q : Nat → Bool} (x : SetAt w h a p) (e : ∀ k, 1 ≤ k → k ≤ 4 → p k = q k) : SetAt w h a q := by
  have : smalls p = smalls q := by rw [smalls_cases, smalls_cases, e 1 (by lia) (by lia), e 2 (by lia) (by lia), e 3 (by lia) (by lia), e 4 (by lia) (by lia)]
  unfold SetAt at x ⊢; rwa [this] at x
section
variable {prog : Program} {w : World} {A : Around} {E : Value → Shared → Prop} {s : Shared}
theorem smalls_mem {p : Nat → Bool} {k : Nat} : k ∈ smalls p ↔ (1 ≤ k ∧ k ≤ 4) ∧ p k = true := by
  unfold smalls
  rw [List.mem_filter]
  constructor
  · rintro ⟨h1, h2⟩; simp at h1; exact ⟨by lia, h2⟩
  · rintro ⟨h1, h2⟩; refine ⟨?_, h2⟩; simp; lia
theorem smalls_length (p : Nat → Bool) : (smalls p).length ≤ 4 := by
  unfold smalls; exact Nat.le_trans (List.length_filter_le _ _) (by simp)
theorem set_elems (ks : List Nat) (hs : ∀ k ∈ ks, k ≤ 4) (tk : Nat → Tok) : PySem.ElemsOf (intKind prog w) (setEs ks tk).toList := by
  intro e he
  simp only [setEs, List.mem_map] at he
  obtain ⟨k, hk, rfl⟩ := he
  refine ⟨⟨(k : Int), by simp [intKind, Value.isInt], ?_⟩, rfl⟩
  show (k : Int) = hashInt k
  have h4 := hs k hk
  have : k = 0 ∨ k = 1 ∨ k = 2 ∨ k = 3 ∨ k = 4 := by lia
  rcases this with rfl | rfl | rfl | rfl | rfl <;> decide +kernel
theorem set_find (ks : List Nat) (tk : Nat → Tok) (k : Nat) : (setEs ks tk).toList.findIdx? (fun e => (intKind prog w).is (k : Int) e.2) = ks.findIdx? (fun j => j = k) := by
  unfold setEs
  simp only [List.findIdx?_map]
  congr 1
  funext j
  simp only [Function.comp, intKind, Value.isInt]
  by_cases e : j = k
  · subst e; simp
  · have : ¬ ((j : Int) = (k : Int)) := by lia
    simp [e, this]
theorem setAdd_small {a : Addr} {p : Nat → Bool} {k : Nat} {t : Tok} {Q : Bool → Shared → Prop} (hk : 1 ≤ k ∧ k ≤ 4) (hS : SetAt w s.heap a p)
    (h : ∀ b h' tk', Heap.SameBut a s.heap h' → SetAt w h' a (fun j => p j || decide (j = k)) → Q b { s with heap := h', toks := tk' }) : wpAny (model prog w) A (setAdd a (.int (k : Int) t)) Q E s := by
  obtain ⟨tk, ep, ho⟩ := hS
  have hd : (setObj w (smalls p) tk ep).data = .set (setEs (smalls p) tk) ep (setTab w (smalls p)) := rfl
  have hf := set_fits w p tk
  have hel := set_elems (prog := prog) (w := w) (smalls p) (fun k hk => (smalls_mem.mp hk).1.2) tk
  have hb : (setEs (smalls p) tk).size < scanBound := by
    have := smalls_length p
    simp only [setEs, List.size_toArray, List.length_map]; show _ < 4096; lia
  have hkey : (intKind prog w).is (k : Int) (.int (k : Int) t) = true := by simp [intKind, Value.isInt]
  have hhash : (intKind prog w).hash (k : Int) = (k : Int) := by
    show hashInt k = k
    have : k = 1 ∨ k = 2 ∨ k = 3 ∨ k = 4 := by lia
    rcases this with rfl | rfl | rfl | rfl <;> decide +kernel
  unfold setAdd
  refine wpAny_holding (wpAny_bind ((intKind prog w).pyHash hkey ?_))
  unfold setAddHashed setAddHashedIn
  refine wpAny_holding (wpAny_bind (wpAny_setState_of ho hd hf ?_))
  dsimp only
  rw [byScan_of rfl hb hel]
  simp only [↓reduceIte]
  unfold setAddByScan
  refine wpAny_bind ?_
  refine wpAny_bind (wpAny_rule ?_)
  refine wpAny_bind (wpAny_setScan_of hkey ho hd hf hel ?_)
  rw [set_find, hhash]
  cases hr : (smalls p).findIdx? (fun j => j = k) with
  | some j =>
    dsimp only
    have hp : p k = true := by
      obtain ⟨hj, hpj, _⟩ := List.findIdx?_eq_some_iff_getElem.mp hr
      have e : (smalls p)[j] = k := by simpa using hpj
      exact (smalls_mem.mp (e ▸ List.getElem_mem hj)).2
    refine wpAny_pure (wpAny_pure (h false s.heap (s.toks + 1) (Heap.SameBut.refl a s.heap) ?_))
    refine SetAt.congr (p := p) ⟨tk, ep, ho⟩ fun j z9a z9b => ?_
    by_cases e : j = k
    · subst e; simp [hp]
    · simp [e]
  | none =>
    dsimp only
    have hp : p k = false := by
      cases q : p k with
      | false => rfl
      | true =>
        have := List.findIdx?_eq_none_iff.mp hr k (smalls_mem.mpr ⟨hk, q⟩)
        simp at this
    rw [layNew_small w p k hk hp tk t]
    dsimp only
    refine wpAny_bind (wpAny_pure ?_)
    have hplain : (setTab w (smalls fun j => p j || decide (j = k))).plain = true := rfl
    have hfull : (setTab w (smalls fun j => p j || decide (j = k))).tooFull = false := by rw [setTab_tab]; exact tab_full ..
    rw [if_pos hplain, hashByValue_scannable 8 rfl]
    refine wpAny_bind (wpAny_pure ?_)
    show wpAny _ _ _ _ _ _
    simp only [plainKind, if_true]
    have hsz : (setEs (smalls fun j => p j || decide (j = k)) (tokSet tk k t)).size ≤ sizeLine := by
      have := smalls_length fun j => p j || decide (j = k)
      simp only [setEs, List.size_toArray, List.length_map]; rw [sizeLine_eq]; lia
    refine wpAny_bind (wpAny_storeSet_of (s := { s with toks := s.toks + 1 }) ho hd ?_ hsz)
    rw [hfull]
    simp only [Bool.not_false, Bool.and_false, Bool.false_eq_true, if_false]
    refine wpAny_pure (wpAny_pure (h true _ _ (Heap.SameBut.update ..) ⟨tokSet tk k t, ep + 1, ?_⟩))
    rw [Heap.get?_update_self _ ho (by rw [putSet_of _ _ hd]; rfl), putSet_of _ _ hd]
    rfl
theorem codeAny_set_loop {R : Result → Shared → Prop} {I l S : Addr} {items : Array Value} {ns : List Nat} (hh : A.in1.handled = none) (hlI : l ≠ I) (hSI : S ≠ I) (hSl : S ≠ l)
    (hi : IntsAre items.toList (ns.map fun (n : Nat) => (n : Int))) (hn : ∀ n ∈ ns, 1 ≤ n ∧ n ≤ 4) :
    ∀ (k i : Nat) (s : Shared), items.size - i = k → i ≤ items.size → s.heap.IsListIter I l i → s.heap.IsList l items → SetAt w s.heap S (fun j => decide (j ∈ ns.take i)) →
      (∀ h' tk', (∀ b o, b ≠ S → b ≠ I → s.heap.get? b = some o → h'.get? b = some o) → SetAt w h' S (fun j => decide (j ∈ ns)) → R (.ok (.ret .none)) { s with heap := h', toks := tk' }) →
      codeAny (model prog w) A (.builtin "set.update.loop" ⟨[.ref S, .ref I], []⟩) R s := by
  have hlen : items.size = ns.length := by have := hi.length; rw [Array.length_toList, List.length_map] at this; exact this
  intro k
  induction k with
  | zero =>
    intro i s hk hi' hit hl hS hR
    have hin : i = items.size := by lia
    subst hin
    refine codeAny_builtin PyProof.Rows.F.entry_set_update_loop ?_
    rw [Around.under_plainId PyProof.Rows.F.plain_set_update_loop _]
    show wpAny _ A.in1 (pyNext (.ref I) >>= _) _ _ s
    refine wpAny_bind (wpAny_pyNext_list_end hh hit hl (by simp) fun h' he => ?_)
    show wpAny _ A.in1 (ret Value.none) _ _ _
    refine wpAny_pure (hR h' s.toks (fun b o z9a hb e => he b o hb e) ?_)
    obtain ⟨tk, ep, ho⟩ := hS
    have : SetAt w h' S (fun j => decide (j ∈ ns.take items.size)) := ⟨tk, ep, he _ _ hSI ho⟩
    rwa [hlen, List.take_length] at this
  | succ k ih =>
    intro i s hk hi' hit hl hS hR
    have hlt : i < items.size := by lia
    obtain ⟨t, hv⟩ := hi.get i ((ns[i]'(by lia) : Nat) : Int) (by rw [List.getElem?_map, List.getElem?_eq_getElem (by lia)]; rfl)
    have hm := hn _ (List.getElem_mem (by lia : i < ns.length))
    refine codeAny_builtin PyProof.Rows.F.entry_set_update_loop ?_
    rw [Around.under_plainId PyProof.Rows.F.plain_set_update_loop _]
    show wpAny _ A.in1 (pyNext (.ref I) >>= _) _ _ s
    refine wpAny_bind (wpAny_pyNext_list_item hit hl (by rw [← Array.getElem?_toList]; exact hv) fun h' hit' hs => ?_)
    show wpAny _ A.in1 (holding [_] (setAdd S _) >>= _) _ _ _
    obtain ⟨tk, ep, ho⟩ := hS
    refine wpAny_bind (wpAny_holding (setAdd_small (s := { s with heap := h' }) hm (⟨tk, ep, hs.extBut _ _ hSI ho⟩ : SetAt w h' S (fun j => decide (j ∈ ns.take i))) fun b h₂ tk₂ hs₂ hS₂ => ?_))
    refine wpAny_pure ⟨plainId_quiet PyProof.Rows.F.plain_set_update_loop _, ih (i + 1) _ (by lia) hlt (hit'.extBut hs₂.extBut (Ne.symm hSI)) ((hl.extBut hs.extBut hlI).extBut hs₂.extBut (Ne.symm hSl)) (hS₂.congr fun j z9a z9b => ?_) fun h₃ tk₃ k₃ S₃ => ?_⟩
    · have e : ns.take (i + 1) = ns.take i ++ [ns[i]'(by lia)] := by rw [List.take_add_one, List.getElem?_eq_getElem (by lia : i < ns.length)]; rfl
      rw [e, Bool.eq_iff_iff]
      simp only [Bool.or_eq_true, decide_eq_true_eq, List.mem_append, List.mem_singleton]
    · exact hR h₃ tk₃ (fun b o h1 h2 e => k₃ b o h1 h2 (hs₂.extBut b o h1 (hs.extBut b o h2 e))) S₃
theorem code_set_new_led (a : Value) {Q₁ : Value → Shared → Prop}
    (h : Q₁ (.ref s.heap.objs.size) { s with heap := s.heap.push (setObj w [] (fun z9a => 0) 0) }) :
    codeAny (model prog w) A (.call (.builtin "set.__new__") ⟨[.type "set", a], []⟩) (wants Q₁ E) s := by
  refine codeAny_of_tree ?_
  show wpAny _ A.in1 (do checkBuiltinCall "set.__new__" ⟨[.type "set", a], []⟩; again (.builtin "set.__new__" ⟨[.type "set", a], []⟩)) _ _ s
  refine wpAny_bind (wpAny_of_eq (PySem.F.newCall_set_1 a) (wpAny_pure ⟨plainId_quiet PySem.F.plain_set_new _, codeAny_builtin PySem.F.entry_set_new ?_⟩))
  rw [Around.under_plainId PySem.F.plain_set_new _]
  unfold Builtin.«set.__new__» Builtin.Frozenset.newClass
  have hsub := sub_set_self
  obtain ⟨hp, g, d, tk, os⟩ := s
  dsimp only
  wp_walk
  refine wpAny_askSetting (wpAny_pure ?_)
  dsimp only
  simp only [newObj]
  exact wpAny_bind (wpAny_alloc (wpAny_pure (wpAny_pure h)))
set_option maxRecDepth 100000 in
set_option maxHeartbeats 3200000 in
theorem call_set_small {l : Addr} {items : Array Value} {ns : List Nat} {Q : Value → Shared → Prop} (hh : A.handled = none) (hl : s.heap.IsList l items) (hi : IntsAre items.toList (ns.map fun (n : Nat) => (n : Int))) (hn : ∀ n ∈ ns, 1 ≤ n ∧ n ≤ 4)
    (h : ∀ h' tk, SetAt w h' s.heap.objs.size (fun j => decide (j ∈ ns)) → (∀ b o, s.heap.get? b = some o → h'.get? b = some o) → Q (.ref s.heap.objs.size) { s with heap := h', toks := tk }) :
    wpAny (model prog w) A (call (.type "set") [.ref l]) Q E s := by
  obtain ⟨c, tl, hmro⟩ := PySem.F.called_set.mro
  have hmade := PySem.F.called_set.made
  have hsub := PySem.F.called_set.sub
  refine wpAny_call (codeAny_of_tree ?_)
  show wpAny _ _ (callAny (.type "set") _) _ _ _
  refine wpAny_pure ⟨Code.quiet_builtin _ (by decide +kernel), codeAny_builtin PySem.F.entry_type_call ?_⟩
  rw [Around.under_plain (weight_type_call_type "set" [.ref l] []) rfl]
  have h1 := PySem.F.called_set.notType
  have h2 := PySem.F.called_set.canCreate
  have hct := PySem.F.typeCall_set_1 (.ref l)
  repeat (any_goals (first | assumption | wp_step))
  refine codeAny_mono (code_set_new_led (.ref l) (E := E) (Q₁ := fun obj s₁ => obj = .ref s.heap.objs.size ∧ s₁ = { s with heap := s.heap.push (setObj w [] (fun z9a => 0) 0) }) ⟨rfl, rfl⟩) fun r s₁ hr => ?_
  cases r with
  | error e => exact hr
  | ok fl =>
    cases fl with
    | ret obj =>
      obtain ⟨rfl, rfl⟩ := hr
      have hS : (s.heap.push (setObj w [] (fun z9a => 0) 0)).get? s.heap.objs.size = some (setObj w [] (fun z9a => 0) 0) := Heap.get?_push_size _ rfl
      have hT : Shared.TypeIs { s with heap := s.heap.push (setObj w [] (fun z9a => 0) 0) } (.ref s.heap.objs.size) "set" := ⟨_, hS, rfl⟩
      have hli := PySem.F.called_set.init.lookup
      have hbi := PySem.F.called_set.init.bind (.ref s.heap.objs.size)
      repeat (any_goals (first | assumption | wp_step))
      refine codeAny_mono (codeAny_call_builtin (R := wants (fun r s₂ => r = .none ∧ ∃ h' tk, s₂ = { s with heap := h', toks := tk } ∧ SetAt w h' s.heap.objs.size (fun j => decide (j ∈ ns)) ∧
          (∀ b o, s.heap.get? b = some o → h'.get? b = some o)) E) PySem.F.called_set.init.plain PySem.F.entry_set_init (check_set_init_1 hT ?_)) fun r₂ s₂ hr₂ => ?_
      · obtain ⟨ol, hol, hcl, nl, hdl⟩ := hl
        obtain ⟨ocls, odict, odata, oslots⟩ := ol
        simp only at hcl hdl
        subst hcl; subst hdl
        have hol' : (s.heap.push (setObj w [] (fun z9a => 0) 0)).get? l = some { cls := .type "list", dict := odict, data := .seq items nl, slots := oslots } := Heap.get?_push_of_some _ hol
        have hsls := PySem.F.sub_list_set
        have hslf := PySem.F.sub_list_frozenset
        have hne : (Value.type "list" == Value.type "dict") = false := by decide
        have hl1 : (s.heap.push (setObj w [] (fun z9a => 0) 0)).IsList l items := ⟨_, hol', rfl, nl, rfl⟩
        unfold Builtin.«set.__init__» noKeywords Builtin.Frozenset.updateFrom
        generalize hPI : pyIter = PI
        wp_walk
        subst hPI
        refine wpAny_pyIter_list hl1 ?_
        refine wpAny_bind (wpAny_runValue ?_)
        have hlS : l < s.heap.objs.size := Heap.lt_size hol
        have hh3 : A.in1.in1.in1.in1.handled = none := by simp [hh]
        have hsz : (s.heap.push (setObj w [] (fun z9a => 0) 0)).objs.size = s.heap.objs.size + 1 := Heap.size_push ..
        have hget : ((s.heap.push (setObj w [] (fun z9a => 0) 0)).push { cls := .type "list_iterator", data := .fields #[.ref l, .int 0 0] }).get? s.heap.objs.size = some (setObj w [] (fun z9a => 0) 0) := Heap.get?_push_of_some _ hS
        refine codeAny_set_loop (I := (s.heap.push (setObj w [] (fun z9a => 0) 0)).objs.size) (l := l) (S := s.heap.objs.size) (items := items) (ns := ns) (by first | exact hh3 | simp [hh]) (by rw [hsz]; exact Nat.ne_of_lt (Nat.lt_succ_of_lt hlS)) (by rw [hsz]; exact Nat.ne_of_lt (Nat.lt_succ_self _)) (Nat.ne_of_gt hlS) hi hn (items.size - 0) 0 _ (by lia) (Nat.zero_le _)
          ⟨_, Heap.get?_push_size _ rfl, rfl, rfl⟩ (hl1.push _) ⟨fun z9a => 0, 0, ?_⟩ fun h' tk' keep hS' => ?_
        · simpa [smalls_cases] using hget
        · show wpAny _ _ _ _ _ _
          refine wpAny_pure ?_
          show wpAny _ _ (ret Value.none) _ _ _
          refine wpAny_pure ⟨rfl, h', tk', rfl, hS', fun b o e => ?_⟩
          have hb := Heap.lt_size e
          exact keep b o (Nat.ne_of_lt hb) (by rw [hsz]; exact Nat.ne_of_lt (Nat.lt_succ_of_lt hb)) (Heap.get?_push_of_some _ (Heap.get?_push_of_some _ e))
      · cases r₂ with
        | error e => exact hr₂
        | ok fl₂ =>
          cases fl₂ with
          | ret r =>
            obtain ⟨rfl, h', tk, rfl, hS', hk'⟩ := hr₂
            repeat (any_goals (first | assumption | wp_step))
            exact h _ _ hS' hk'
          | _ => exact hr₂.elim
    | _ => exact hr.elim
end
end Mine
set_option tactic.hygienic false
namespace Mine
open PySem PySem.W PyProof.Rows PySem.Calls
theorem slot_si_next : Slot "set_iterator" "__next__" "set_iterator.__next__" :=
  .of (owner := "set_iterator") (n := "__next__") (by rw [typeLookup_type, builtinLookup_eq_fast]; kernel_rfl) (by decide +kernel) (by decide +kernel) (by decide +kernel)
    (by first | exact .inl (by decide +kernel) | exact .inr (by decide +kernel)) (by rw [isSubtype_type]; kernel_rfl)
theorem entry_si_next : entryFor table "set_iterator.__next__" = some Builtin.«set_iterator.__next__» := entryFor_of_tree (by kernel_rfl)
theorem owner_si : Manifest.owners.lookup (String.ofList ['r', 'o', 't', 'a', 'r', 'e', 't', 'i', '_', 't', 'e', 's'].reverse) = some Manifest.sig_set_iterator := by kernel_rfl
theorem args_si_next (a : Value) : argsOk "set_iterator.__next__" ⟨[a], []⟩ := by
  unfold argsOk; rw [signature?_of (id := "set_iterator.__next__") (n := ['_', '_', 't', 'x', 'e', 'n', '_', '_']) (o := ['r', 'o', 't', 'a', 'r', 'e', 't', 'i', '_', 't', 'e', 's']) (by kernel_rfl) owner_si]; kernel_rfl
theorem slot_si_iter : Slot "set_iterator" "__iter__" "set_iterator.__iter__" :=
  .of (owner := "set_iterator") (n := "__iter__") (by rw [typeLookup_type, builtinLookup_eq_fast]; kernel_rfl) (by decide +kernel) (by decide +kernel) (by decide +kernel)
    (by first | exact .inl (by decide +kernel) | exact .inr (by decide +kernel)) (by rw [isSubtype_type]; kernel_rfl)
theorem args_si_iter (a : Value) : argsOk "set_iterator.__iter__" ⟨[a], []⟩ := by
  unfold argsOk; rw [signature?_of (id := "set_iterator.__iter__") (n := ['_', '_', 'r', 'e', 't', 'i', '_', '_']) (o := ['r', 'o', 't', 'a', 'r', 'e', 't', 'i', '_', 't', 'e', 's']) (by kernel_rfl) owner_si]; kernel_rfl
theorem entry_si_iter : entryFor table "set_iterator.__iter__" = some Builtin.«dict_keyiterator.__iter__» :=
  entryFor_alias (id' := "dict_keyiterator.__iter__") (by kernel_rfl) (by first | rfl | decide +kernel | (unfold String.splitOn; simp +decide [String.splitOnAux])) (by decide +kernel) (by kernel_rfl)
theorem entry_set_iter : entryFor table "set.__iter__" = some Builtin.«frozenset.__iter__» :=
  entryFor_alias (id' := "frozenset.__iter__") (by kernel_rfl) (by first | rfl | decide +kernel | (unfold String.splitOn; simp +decide [String.splitOnAux])) (by decide +kernel) (by kernel_rfl)
theorem lookup_set_len : typeLookup (.type "set") "__len__" = pure (some (.builtin "set.__len__")) := by rw [typeLookup_type, builtinLookup_eq_fast]; kernel_rfl
theorem erase_perm {α : Type} : ∀ {l : List α} {i : Nat} (h : i < l.length), (l[i] :: l.eraseIdx i).Perm l
  | _ :: _, 0, _ => .refl _
  | x :: l, i + 1, h => by
    have hi : i < l.length := by simpa using h
    show (l[i] :: x :: l.eraseIdx i).Perm (x :: l)
    exact (List.Perm.swap _ _ _).trans ((erase_perm hi).cons x)
theorem pick_perm {α : Type} (next : Nat → Nat) : ∀ (fuel k : Nat) (left : List α) (out : Array α), left.length = fuel → ∃ l, (pickOrder.go next fuel k left out).toList = out.toList ++ l ∧ l.Perm left
  | 0, k, left, out, h => by
    have : left = [] := List.length_eq_zero_iff.mp h
    subst this
    exact ⟨[], by unfold pickOrder.go; simp, .refl _⟩
  | f + 1, k, left, out, h => by
    have hlt : next k % left.length < left.length := Nat.mod_lt _ (by lia)
    obtain ⟨l, e, p⟩ := pick_perm next f (k + 1) (left.eraseIdx (next k % left.length)) (out.push (left[next k % left.length])) (by rw [List.length_eraseIdx_of_lt hlt]; lia)
    refine ⟨left[next k % left.length] :: l, ?_, ?_⟩
    · unfold pickOrder.go
      rw [List.getElem?_eq_getElem hlt]
      dsimp only
      rw [e]; simp
    · exact (p.cons _).trans (erase_perm hlt)
theorem pickOrder_perm {α : Type} (next : Nat → Nat) (xs : Array α) : (pickOrder next xs).toList.Perm xs.toList := by
  obtain ⟨l, e, p⟩ := pick_perm next xs.size 0 xs.toList #[] (by simp)
  have : (pickOrder next xs).toList = l := by unfold pickOrder; rw [e]; simp
  rw [this]; exact p
/-- the order in which a set's elements come -/
noncomputable def setOrd (w : World) (a : Addr) (ep : Nat) (es : Array (Int × Value)) : List (Int × Value) := if w.params.followText "set-order" = true then (pickOrder (w.params.setOrder a ep) es).toList else es.toList
theorem setOrd_perm (w : World) (a ep es) : (setOrd w a ep es).Perm es.toList := by
  unfold setOrd; split
  · exact pickOrder_perm _ _
  · exact .refl _
noncomputable def slotAt (w : World) (ks : List Nat) (i : Nat) : Nat := if w.params.followText "set-order" = true then 0 else match i with | 0 => 0 | i + 1 => ks.getD i 0 + 1
theorem below_tab : ∀ bt b1 b2 b3 b4, ∀ i : Fin 5, i.val ≤ (tab bt b1 b2 b3 b4).place.size → SetTable.below (tab bt b1 b2 b3 b4).place (match i.val with | 0 => 0 | j + 1 => (tab bt b1 b2 b3 b4).place.getD j 0 + 1) = i.val := by
  decide +kernel
noncomputable def SetIt (h : Heap) (I a : Addr) (slot i n ep : Nat) : Prop := h.get? I = some { cls := .type "set_iterator", data := .fields #[.int slot 0, .int i 0, .ref a, .int n 0, .int ep 0] }
section
variable {prog : Program} {w : World} {A : Around} {E : Value → Shared → Prop} {s : Shared}
theorem byText_ {Q : Bool → Shared → Prop} (h : Q (w.params.followText "set-order") s) : wpAny (model prog w) A setsByText Q E s := by
  unfold setsByText
  exact wpAny_bind (wpAny_askSetting (wpAny_pure h))
theorem setDrawn_ {a : Addr} {ks : List Nat} {tk : Nat → Tok} {ep : Nat} {Q : Bool → Shared → Prop} (ho : s.heap.get? a = some (setObj w ks tk ep)) (hf : (setTab w ks).fits (setEs ks tk).size = true) (h : Q false s) :
    wpAny (model prog w) A (setDrawn a) Q E s := by
  unfold setDrawn
  refine wpAny_bind (wpAny_setState_of ho rfl hf ?_)
  dsimp only
  refine wpAny_bind (byText_ (wpAny_pure ?_))
  have : PySem.SetTable.plain (setTab w ks) = true := rfl
  have e : ∀ b : Bool, (!b && (!PySem.SetTable.plain (setTab w ks) && decide ((setEs ks tk).size > 1))) = false := by intro b; rw [this]; simp
  first | exact (e _) ▸ h | (rw [show (!w.params.followText "set-order" && _) = false from e _]; exact h)
theorem pyIter_set {a : Addr} {p : Nat → Bool} {tk : Nat → Tok} {ep : Nat} {Q : Value → Shared → Prop} (ho : s.heap.get? a = some (setObj w (smalls p) tk ep))
    (hQ : Q (.ref s.heap.objs.size) { s with heap := s.heap.push { cls := .type "set_iterator", data := .fields #[.int 0 0, .int 0 0, .ref a, .int (smalls p).length 0, .int ep 0] } }) : wpAny (model prog w) A (pyIter (.ref a)) Q E s := by
  have hf := set_fits w p tk
  have hT : s.TypeIs (.ref a) "set" := ⟨_, ho, rfl⟩
  refine wpAny_pyIter_slot hT PySem.F.slot_set_iter (wpAny_call_entry PySem.F.slot_set_iter hT entry_set_iter ?_ (PySem.F.args_set_iter_1 _))
  unfold Builtin.«frozenset.__iter__»
  show wpAny _ _ (Builtin.Frozenset.sizeOf a >>= _) _ _ s
  refine wpAny_bind ?_
  unfold Builtin.Frozenset.sizeOf setEntries
  refine wpAny_bind (wpAny_bind (wpAny_setState_of ho rfl hf (wpAny_pure (wpAny_pure ?_))))
  refine wpAny_bind (setDrawn_ ho hf ?_)
  simp only [Bool.false_eq_true, if_false]
  refine wpAny_bind (wpAny_pure ?_)
  refine wpAny_bind ?_
  unfold setEpoch
  refine wpAny_bind (wpAny_setState_of ho rfl hf (wpAny_pure ?_))
  refine wpAny_bind (wpAny_newObj_type (wpAny_pure ⟨_, rfl, "set_iterator", _, ⟨_, Heap.get?_push_size _ rfl, rfl⟩, slot_si_next.lookup, ?_⟩))
  have e : (setEs (smalls p) tk).size = (smalls p).length := by simp [setEs]
  dsimp only
  rw [e]
  exact hQ
theorem setNext_ {a : Addr} {p : Nat → Bool} {tk : Nat → Tok} {ep i : Nat} {Q : Option (Value × Nat) → Shared → Prop} (ho : s.heap.get? a = some (setObj w (smalls p) tk ep)) (hi : i ≤ (smalls p).length)
    (h : Q (((setOrd w a ep (setEs (smalls p) tk))[i]?).map fun e => (e.2, slotAt w (smalls p) (i + 1))) s) : wpAny (model prog w) A (setNext a (slotAt w (smalls p) i) i ep) Q E s := by
  have hf := set_fits w p tk
  unfold setNext
  refine wpAny_bind (wpAny_setState_of ho rfl hf ?_)
  dsimp only
  refine wpAny_bind (byText_ ?_)
  by_cases hb : w.params.followText "set-order" = true
  · rw [hb]
    simp only [if_true, bne_self_eq_false, Bool.false_eq_true, if_false]
    refine wpAny_bind ?_
    unfold setWalk
    refine wpAny_bind (wpAny_setState_of ho rfl hf ?_)
    dsimp only
    refine wpAny_bind (byText_ ?_)
    rw [hb]
    simp only [if_true]
    refine wpAny_bind (wpAny_askSetting (wpAny_pure (wpAny_pure ?_)))
    unfold setOrd slotAt at h
    rw [if_pos hb, if_pos hb] at h
    unfold slotAt
    rw [if_pos hb]
    rw [← Array.getElem?_toList]
    exact h
  · have hb' : w.params.followText "set-order" = false := by simpa using hb
    rw [hb']
    simp only [Bool.false_eq_true, if_false]
    have hplain : PySem.SetTable.plain (setTab w (smalls p)) = true := rfl
    have hled : PySem.SetTable.led (setTab w (smalls p)) = true := by show (!w.params.followText "set-order") = true; rw [hb']; rfl
    refine wpAny_ite_split (fun hc => ?_) (fun z9a => ?_)
    · have hc' : (!PySem.SetTable.plain (setTab w (smalls p)) && decide ((setEs (smalls p) tk).size > 1)) = true := hc
      rw [hplain] at hc'; simp at hc'
    refine wpAny_bind (m := if (!PySem.SetTable.led (setTab w (smalls p)) && !(setEs (smalls p) tk).isEmpty) = true then unsupported "set:maker-not-led" else pure ()) ?_
    rw [hled]
    simp only [Bool.not_true, Bool.false_and, Bool.false_eq_true, if_false]
    refine wpAny_pure ?_
    have hsl : slotAt w (smalls p) i = (match i with | 0 => 0 | j + 1 => (smalls p).getD j 0 + 1) := by unfold slotAt; rw [if_neg hb]; cases i <;> rfl
    have hbel : SetTable.below (setTab w (smalls p)).place (slotAt w (smalls p) i) = i := by
      have h4 := smalls_length p
      have hpl : (setTab w (smalls p)).place.size = (smalls p).length := by simp [setTab]
      have := below_tab (!w.params.followText "set-order") (p 1) (p 2) (p 3) (p 4) ⟨i, by lia⟩ (by rw [← setTab_tab, hpl]; exact hi)
      rw [← setTab_tab] at this
      rw [hsl]
      refine Eq.trans ?_ this
      congr 1
      cases i with
      | zero => rfl
      | succ j => simp [setTab, Array.getD, List.getD]; split <;> simp_all
    rw [hbel]
    unfold setOrd at h
    rw [if_neg hb] at h
    have hpi : (setTab w (smalls p)).place[i]? = (smalls p)[i]? := by simp [setTab]
    have hei : (setEs (smalls p) tk)[i]? = ((smalls p)[i]?).map fun (k : Nat) => ((k : Int), Value.int (k : Int) (tk k)) := by simp [setEs]
    rw [hpi, hei]
    have hel : (setEs (smalls p) tk).toList[i]? = ((smalls p)[i]?).map fun (k : Nat) => ((k : Int), Value.int (k : Int) (tk k)) := by simp [setEs]
    rw [hel] at h
    cases q : (smalls p)[i]? with
    | none => rw [q] at h; exact wpAny_pure h
    | some k =>
      rw [q] at h
      have hsn : slotAt w (smalls p) (i + 1) = k + 1 := by
        unfold slotAt; rw [if_neg hb]
        show (smalls p).getD i 0 + 1 = k + 1
        rw [List.getD, q]; rfl
      rw [hsn] at h
      exact wpAny_pure h
end
end Mine
set_option tactic.hygienic false
namespace Mine
open PySem PySem.W PyProof.Rows PySem.Calls
noncomputable def stepObj (I a : Addr) (slot i n ep : Nat) : Obj := { cls := .type "set_iterator", data := .fields #[.int slot 0, .int i 0, .ref a, .int n 0, .int ep 0] }
section
variable {prog : Program} {w : World} {A : Around} {E : Value → Shared → Prop} {s : Shared}
theorem setNext_item {a I : Addr} {p : Nat → Bool} {tk : Nat → Tok} {ep i : Nat} {x : Int × Value} {Q : Option Value → Shared → Prop} (ho : s.heap.get? a = some (setObj w (smalls p) tk ep)) (hI : SetIt s.heap I a (slotAt w (smalls p) i) i (smalls p).length ep)
    (hi : i ≤ (smalls p).length) (hx : (setOrd w a ep (setEs (smalls p) tk))[i]? = some x)
    (hQ : ∀ h', SetIt h' I a (slotAt w (smalls p) (i + 1)) (i + 1) (smalls p).length ep → Heap.SameBut I s.heap h' → Q (some x.2) { s with heap := h' }) : wpAny (model prog w) A (pyNext (.ref I)) Q E s := by
  have hf := set_fits w p tk
  have hT : s.TypeIs (.ref I) "set_iterator" := ⟨_, hI, rfl⟩
  unfold pyNext
  refine wpAny_bind (wpAny_attempt (wpAny_callSpecial?_slot (name := Str.ofString "__next__") hT slot_si_next (wpAny_call_entry slot_si_next hT entry_si_next ?_ (args_si_next _))))
  unfold Builtin.«set_iterator.__next__»
  show wpAny _ _ (fieldsOf (.ref I) >>= _) _ _ s
  refine wpAny_bind (wpAny_fieldsOf hI rfl ?_)
  show wpAny _ _ (setEntries a >>= _) _ _ s
  refine wpAny_bind ?_
  unfold setEntries
  refine wpAny_bind (wpAny_setState_of ho rfl hf (wpAny_pure ?_))
  have e : (setEs (smalls p) tk).size = (smalls p).length := by simp [setEs]
  dsimp only
  rw [e, if_neg (by simp)]
  show wpAny _ _ (setNext a _ _ _ >>= _) _ _ s
  simp only [Int.toNat_natCast]
  refine wpAny_bind (setNext_ ho hi ?_)
  rw [hx]
  dsimp only [Option.map_some]
  refine wpAny_bind (wpAny_setField hI rfl (by simp) ?_)
  have h1 : (s.heap.update I (Obj.mapFields (·.setIfInBounds 0 (rawInt (slotAt w (smalls p) (i + 1)))))).get? I = some { cls := .type "set_iterator", data := .fields #[.int (slotAt w (smalls p) (i + 1)) 0, .int i 0, .ref a, .int (smalls p).length 0, .int ep 0] } := by
    rw [Heap.get?_update_self _ hI rfl]; simp [Obj.mapFields, rawInt]
  refine wpAny_bind (wpAny_setField (s := { s with heap := _ }) h1 rfl (by simp) ?_)
  refine wpAny_pure ⟨x.2, rfl, wpAny_pure (hQ _ ?_ ((Heap.SameBut.update ..).trans (Heap.SameBut.update ..)))⟩
  unfold SetIt
  rw [Heap.get?_update_self _ h1 rfl]; simp [Obj.mapFields, rawInt]
theorem setNext_end {a I : Addr} {p : Nat → Bool} {tk : Nat → Tok} {ep i : Nat} {Q : Option Value → Shared → Prop} (hh : A.handled = none) (ho : s.heap.get? a = some (setObj w (smalls p) tk ep)) (hI : SetIt s.heap I a (slotAt w (smalls p) i) i (smalls p).length ep)
    (hi : i ≤ (smalls p).length) (hx : (setOrd w a ep (setEs (smalls p) tk))[i]? = none)
    (hQ : ∀ h', Heap.ExtBut I s.heap h' → Q none { s with heap := h' }) : wpAny (model prog w) A (pyNext (.ref I)) Q E s := by
  have hf := set_fits w p tk
  have hT : s.TypeIs (.ref I) "set_iterator" := ⟨_, hI, rfl⟩
  unfold pyNext
  refine wpAny_bind (wpAny_attempt (wpAny_callSpecial?_slot (name := Str.ofString "__next__") hT slot_si_next (wpAny_call_entry slot_si_next hT entry_si_next ?_ (args_si_next _))))
  unfold Builtin.«set_iterator.__next__»
  show wpAny _ _ (fieldsOf (.ref I) >>= _) _ _ s
  refine wpAny_bind (wpAny_fieldsOf hI rfl ?_)
  show wpAny _ _ (setEntries a >>= _) _ _ s
  refine wpAny_bind ?_
  unfold setEntries
  refine wpAny_bind (wpAny_setState_of ho rfl hf (wpAny_pure ?_))
  have e : (setEs (smalls p) tk).size = (smalls p).length := by simp [setEs]
  dsimp only
  rw [e, if_neg (by simp)]
  show wpAny _ _ (setNext a _ _ _ >>= _) _ _ s
  simp only [Int.toNat_natCast]
  refine wpAny_bind (setNext_ ho hi ?_)
  rw [hx]
  dsimp only [Option.map_none]
  refine wpAny_bind (wpAny_setField hI rfl (by simp) ?_)
  show wpAny _ _ (newExc (.type "StopIteration") [] >>= _) _ _ _
  refine wpAny_bind ?_
  simp only [newExc, newTuple]
  refine wpAny_bind (wpAny_newObj_type ?_ (by size_fits))
  refine wpAny_bind (m := firstArgMember _ _) (wpAny_of_eq (a := Value.none) (by first | rfl | (simp only [firstArgMember]; rfl)) ?_)
  refine wpAny_newObj_type ?_ (by size_fits)
  simp only [raiseNew]
  refine wpAny_bind (wpAny_handled ?_)
  first | rw [show A.in1.handled = none from hh] | rw [hh]
  refine wpAny_bind (wpAny_pure (wpAny_throw ?_))
  refine wpAny_bind (wpAny_isInstance (T := "StopIteration") (b := true) ⟨_, Heap.get?_push_size _ rfl, rfl⟩ isSubtype_stop ?_)
  exact wpAny_pure (hQ _ (((Heap.SameBut.update ..).extBut.push _).push _))
theorem hint_set {r : Addr} {Q : Bool → Shared → Prop} (hT : s.TypeIs (.ref r) "set") (h : Q false s) : wpAny (model prog w) A (Builtin.List.listLengthHint (.ref r)) Q E s := by
  unfold Builtin.List.listLengthHint
  refine wpAny_bind (wpAny_specialOf hT lookup_set_len ?_)
  generalize hid : ("set.__len__" : String) = id0
  wp_delta
  rw [show splitId id0 = some ("set", "__len__") from by subst hid; decide +kernel]
  subst hid
  refine wpAny_bind (wpAny_isInstance (T := "set") (b := true) hT (by rw [isSubtype_type]; kernel_rfl) ?_)
  refine wpAny_ite_split (fun hab => absurd hab (by decide)) (fun z9a => ?_)
  refine wpAny_ite_split (fun z9a => ?_) (fun hab => absurd (by decide +kernel) hab)
  refine wpAny_bind (wpAny_typeOf hT ?_)
  exact wpAny_pure h
theorem ord_length {w : World} {a ep : Nat} {p : Nat → Bool} {tk : Nat → Tok} : (setOrd w a ep (setEs (smalls p) tk)).length = (smalls p).length := by
  rw [(setOrd_perm ..).length_eq]; simp [setEs]
theorem src_set {a : Addr} {p : Nat → Bool} {tk : Nat → Tok} {ep : Nat} : KdlSrc prog w "set" a a (smalls p).length (fun i v => ∃ x, (setOrd w a ep (setEs (smalls p) tk))[i]? = some x ∧ v = x.2) (fun h => h.get? a = some (setObj w (smalls p) tk ep)) where
  type := fun z9a ho => ⟨_, ho, rfl⟩
  there := fun z9a ho => ⟨Heap.lt_size ho, Heap.lt_size ho⟩
  keep := fun z9a z9b ho hk => hk a (.inl rfl) _ ho
  notList := by decide
  notTuple := by decide
  hint := fun z9a z9b z9c z9d ho hq => hint_set ⟨_, ho, rfl⟩ hq
  iter := fun A s hh ho => by
    refine ⟨stepObj s.heap.objs.size a 0 0 (smalls p).length ep, fun i h => SetIt h s.heap.objs.size a (slotAt w (smalls p) i) i (smalls p).length ep ∧ h.get? a = some (setObj w (smalls p) tk ep) ∧ i ≤ (smalls p).length,
      fun z9a z9b hq => pyIter_set ho hq, ?_, ?_, Heap.get?_push_of_some _ ho, Nat.zero_le _⟩
    · have hne : a ≠ s.heap.objs.size := Nat.ne_of_lt (Heap.lt_size ho)
      exact {
        sub := fun b hb => by simp at hb; simp [hb]
        frame := fun z9a z9b z9c st hk => ⟨hk _ (by simp) _ st.1, hk _ (by simp) _ st.2.1, st.2.2⟩
        item := fun i s' Q E hi st hQ => by
          obtain ⟨x, hx⟩ : ∃ x, (setOrd w a ep (setEs (smalls p) tk))[i]? = some x := ⟨_, List.getElem?_eq_getElem (by rw [ord_length]; exact hi)⟩
          exact setNext_item st.2.1 st.1 st.2.2 hx fun h' hI hs => hQ _ h' s'.toks ⟨x, hx, rfl⟩ ⟨hI, hs.extBut _ _ hne st.2.1, hi⟩ fun b o hb e => hs.extBut b o (fun q => hb (by simp [q])) e
        done := fun s' Q E st hQ => setNext_end hh st.2.1 st.1 st.2.2 (List.getElem?_eq_none_iff.mpr (by rw [ord_length]; exact Nat.le_refl _)) fun h' he => hQ h' s'.toks fun b o hb e => he b o (fun q => hb (by simp [q])) e
        self := fun i s' Q E st hQ => by
          have hT : s'.TypeIs (.ref s.heap.objs.size) "set_iterator" := ⟨_, st.1, rfl⟩
          refine wpAny_pyIter_slot hT slot_si_iter (wpAny_call_entry slot_si_iter hT entry_si_iter ?_ (args_si_iter _))
          show wpAny _ _ (ret (.ref _)) _ _ s'
          exact wpAny_pure ⟨_, rfl, "set_iterator", _, hT, slot_si_next.lookup, hQ⟩ }
    · show (s.heap.push _).get? _ = _
      rw [Heap.get?_push_size _ rfl]
      unfold stepObj slotAt
      split <;> rfl
end
section
variable {C : Cx} {base : Heap} {ρ : Vars} {σ : Store} {s : Shared} {Q : Val → Store → Prop} {X : XPost}
theorem Cal.setOf {a : Addr} {ns : List Nat} (ha : σ a = some (.list (ns.map fun (n : Nat) => .int (n : Int)))) (hn : ∀ n ∈ ns, 1 ≤ n ∧ n ≤ 4) (hq : C.quiet = true) (h : ∀ b, σ b = none → Q (.ref b) (σ.set b (.iset (smalls fun j => decide (j ∈ ns))))) :
    Cal C ρ σ (.type "set") [.ref a] Q X := fun base s vs H r => by
  obtain ⟨v, e0, r1⟩ := one_arg r; clear r; subst e0; simp only [RepV] at r1; subst r1
  obtain ⟨ws, hl, rs⟩ := (H.store a _ ha).1
  have hI : IntsAre (List.toArray ws).toList (ns.map fun (n : Nat) => (n : Int)) := by
    refine ints_are (B := C.bad) (h := s.heap) ?_
    rw [List.map_map]; exact rs
  refine call_set_small (H.ok.calm hq) hl.isList hI hn fun h' tk hS keep => ?_
  obtain ⟨tks, ep, ho⟩ := hS
  have hf : s.heap.get? s.heap.objs.size = none := Heap.get?_none_of_le (Nat.le_refl _)
  exact ⟨.ref _, _, (H.grow (t := tk) keep).track (o := .iset _) H.fresh ⟨tks, ep, ho⟩ (H.newAddr hf), by simp [RepV], h _ H.fresh⟩
theorem Cal.sortedSet {a : Addr} {p : Nat → Bool} (ha : σ a = some (.iset (smalls p))) (hq : C.quiet = true) (h : ∀ b : Addr, σ b = none → Q (.ref b) (σ.set b (.list ((smalls p).map fun (n : Nat) => .int (n : Int))))) :
    Cal C ρ σ (.builtin "sorted") [.ref a] Q X := fun base s vs H r => by
  obtain ⟨v, e0, r1⟩ := one_arg r; clear r; subst e0; simp only [RepV] at r1; subst r1
  obtain ⟨tk, ep, ho⟩ := (H.store a _ ha).1
  have hle := smalls_length p
  have hperm : ((setOrd C.w a ep (setEs (smalls p) tk)).map (·.1)).Perm ((smalls p).map fun (n : Nat) => (n : Int)) := by
    refine ((setOrd_perm C.w a ep _).map _).trans ?_
    simp [setEs, Function.comp_def]
  refine sorted_of H (ns := (setOrd C.w a ep (setEs (smalls p) tk)).map (·.1)) (by rw [List.length_map, ord_length]; lia) (fun R E hR => ?_) fun ns' b hp ho' hb => ?_
  · refine kdu_collect (src_set (p := p) (tk := tk) (ep := ep)) (H.ok.calm hq) ho (by rw [sizeLine_eq]; lia) fun h' tk' acc keep hacc => hR h' tk' acc.toList keep ?_
    refine intsAre_at (by rw [Array.length_toList, hacc.1, List.length_map, ord_length]) fun j v hv => ?_
    obtain ⟨x, hx, rfl⟩ := hacc.2 j v (by rw [← Array.getElem?_toList]; exact hv)
    have hm : x ∈ (setEs (smalls p) tk).toList := (setOrd_perm C.w a ep _).mem_iff.mp (List.mem_of_getElem? hx)
    simp only [setEs, List.mem_map] at hm
    obtain ⟨k, hk, rfl⟩ := hm
    exact ⟨(k : Int), tk k, by rw [List.getElem?_map, hx]; rfl, rfl⟩
  · have hsorted : ((smalls p).map fun (n : Nat) => (n : Int)).Pairwise (· ≤ ·) := by
      rw [smalls_cases]
      cases p 1 <;> cases p 2 <;> cases p 3 <;> cases p 4 <;> simp
    have e := lks_uniq (hp.trans hperm) ho' hsorted
    rw [e, List.map_map]
    exact h b hb
end
end Mine
set_option tactic.hygienic false
namespace Mine
open PySem PySem.W PyProof.Rows PySem.Calls
/-- the run of a sort with the answers at hand; none: something beyond n is asked -/
noncomputable def evalB (n : Nat) (lt : Nat → Nat → Bool) {α : Type} : KasT α → Option α
  | .ret a => some a
  | .ask i j k => if i < n ∧ j < n then evalB n lt (k (lt i j)) else none
theorem evalB_wp {n : Nat} {lt : Nat → Nat → Bool} {α : Type} {cmp : Nat → Nat → (Bool → Shared → Prop) → Shared → Prop} {G : α → Shared → Prop} {s : Shared} (hc : ∀ i j (C : Bool → Shared → Prop), i < n → j < n → C (lt i j) s → cmp i j C s) :
    ∀ (t : KasT α) (a : α), evalB n lt t = some a → G a s → t.kasWp cmp G s
  | .ret a, b, e, h => by cases e; exact h
  | .ask i j k, b, e, h => by
    unfold evalB at e
    split at e
    · rename_i hij
      exact hc i j _ hij.1 hij.2 (evalB_wp hc (k (lt i j)) b e h)
    · cases e
noncomputable def rankLt (rs : List Nat) (i j : Nat) : Bool := decide (rs.getD i 0 < rs.getD j 0)
noncomputable def sortedBy (rs : List Nat) (p : List Nat) : Bool := p.isPerm (List.range rs.length) && (p.map fun i => rs.getD i 0) == ([1, 2, 3, 4].filter fun k => rs.contains k)
theorem sort_two : ∀ a b : Fin 4, a ≠ b → ((evalB 2 (rankLt [a.val + 1, b.val + 1]) (kas_sort 2)).map fun p => sortedBy [a.val + 1, b.val + 1] p.toList) = some true := by decide +kernel
theorem sort_three : ∀ a b c : Fin 4, a ≠ b → a ≠ c → b ≠ c → ((evalB 3 (rankLt [a.val + 1, b.val + 1, c.val + 1]) (kas_sort 3)).map fun p => sortedBy [a.val + 1, b.val + 1, c.val + 1] p.toList) = some true := by decide +kernel
theorem sort_four : ∀ a b c d : Fin 4, a ≠ b → a ≠ c → a ≠ d → b ≠ c → b ≠ d → c ≠ d → ((evalB 4 (rankLt [a.val + 1, b.val + 1, c.val + 1, d.val + 1]) (kas_sort 4)).map fun p => sortedBy [a.val + 1, b.val + 1, c.val + 1, d.val + 1] p.toList) = some true := by decide +kernel
theorem nodup_le : ∀ {l m : List Nat}, l.Nodup → (∀ x ∈ l, x ∈ m) → l.length ≤ m.length
  | [], m, _, _ => Nat.zero_le _
  | x :: l, m, hn, h => by
    rw [List.nodup_cons] at hn
    have hx := h x List.mem_cons_self
    have := nodup_le (m := m.erase x) hn.2 fun y hy => (List.mem_erase_of_ne fun e => hn.1 (by rw [← e]; exact hy)).mpr (h y (List.mem_cons_of_mem _ hy))
    rw [List.length_erase_of_mem hx] at this
    have hp : 0 < m.length := List.length_pos_of_mem hx
    simp only [List.length_cons]; lia
theorem sort_out {rs : List Nat} {o : Option (Array Nat)} (h : (o.map fun p => sortedBy rs p.toList) = some true) : ∃ p, o = some p ∧ sortedBy rs p.toList = true := by
  cases o with
  | none => cases h
  | some p => exact ⟨p, rfl, by simpa using h⟩
theorem sort_run : ∀ {rs : List Nat}, rs.Nodup → (∀ r ∈ rs, 1 ≤ r ∧ r ≤ 4) → 2 ≤ rs.length → ∃ p : Array Nat, evalB rs.length (rankLt rs) (kas_sort rs.length) = some p ∧ sortedBy rs p.toList = true := by
  intro rs hn hr h2
  have fin : ∀ r ∈ rs, ∃ f : Fin 4, r = f.val + 1 := fun r h => ⟨⟨r - 1, by have := hr r h; lia⟩, by have := hr r h; show r = r - 1 + 1; lia⟩
  rcases rs with _ | ⟨a, _ | ⟨b, _ | ⟨c, _ | ⟨d, _ | ⟨e, r⟩⟩⟩⟩⟩
  · simp at h2
  · simp at h2
  · obtain ⟨fa, rfl⟩ := fin a (by simp)
    obtain ⟨fb, rfl⟩ := fin b (by simp)
    simp at hn
    exact sort_out (sort_two fa fb fun e => hn (by rw [e]))
  · obtain ⟨fa, rfl⟩ := fin a (by simp)
    obtain ⟨fb, rfl⟩ := fin b (by simp)
    obtain ⟨fc, rfl⟩ := fin c (by simp)
    simp at hn
    exact sort_out (sort_three fa fb fc (fun e => hn.1.1 (by rw [e])) (fun e => hn.1.2 (by rw [e])) (fun e => hn.2 (by rw [e])))
  · obtain ⟨fa, rfl⟩ := fin a (by simp)
    obtain ⟨fb, rfl⟩ := fin b (by simp)
    obtain ⟨fc, rfl⟩ := fin c (by simp)
    obtain ⟨fd, rfl⟩ := fin d (by simp)
    simp at hn
    exact sort_out (sort_four fa fb fc fd (fun e => hn.1.1 (by rw [e])) (fun e => hn.1.2.1 (by rw [e])) (fun e => hn.1.2.2 (by rw [e])) (fun e => hn.2.1.1 (by rw [e])) (fun e => hn.2.1.2 (by rw [e])) (fun e => hn.2.2 (by rw [e])))
  · exfalso
    have hsub : ∀ x ∈ (a :: b :: c :: d :: e :: r), x ∈ [1, 2, 3, 4] := fun x hx => by have := hr x hx; simp; lia
    have := nodup_le hn hsub
    simp at this
/-- a place two calls within -/
noncomputable def Cx.in2 (C : Cx) : Cx := { C with A := C.A.in1.in1, room := C.room - 1 }
theorem Cx.in2_ok {C : Cx} (H : C.Ok) (hr : 0 < C.room) : C.in2.Ok where
  depth := room_lt H.depth
  units := by show C.A.units + 1 + 1 + 20 * (C.room - 1) + 20 < _; have := H.units; lia
  calm := H.calm
  kind := H.kind
  globals := H.globals
  builtins := H.builtins
  kin := H.kin
  hasf := H.hasf
  nolimit := H.nolimit
  apart := H.apart
  stack := H.stack
theorem St.in2 {C : Cx} {base ρ σ s} (H : St C base ρ σ s) (hr : 0 < C.room) : St C.in2 base ρ σ s :=
  ⟨Cx.in2_ok H.ok hr, H.gens, H.os, H.b1, H.b2, H.ns, H.cells, H.allcells, H.bad, H.own, H.ownc, H.frs, H.store⟩
theorem St.out2 {C : Cx} {base ρ σ s} (H : St C.in2 base ρ σ s) (ok : C.Ok) : St C base ρ σ s :=
  ⟨ok, H.gens, H.os, H.b1, H.b2, H.ns, H.cells, H.allcells, H.bad, H.own, H.ownc, H.frs, H.store⟩
section
variable {C : Cx} {base : Heap} {ρ : Vars} {σ : Store} {s : Shared} {Q : Val → Store → Prop} {X : XPost}
theorem Cal.run2 {u : Value} {ds : List Val} (h : Cal C ρ σ u ds Q X) (H : St C base ρ σ s) {vs : List Value} (r : RepVs C.bad s.heap ds vs) {Q' : Value → Shared → Prop} {E' : Value → Shared → Prop}
    (hQ : ∀ v d σ' s', St C base ρ σ' s' → Pers C σ s s' → (∀ b o, s.heap.get? b = some o → ¬ C.Loose σ b → σ' b = none) → RepV C.bad s'.heap d v → Q d σ' → Q' v s') (hX : ∀ e s', Xp C base X e s' → E' e s') : wpAny C.M C.A (call u vs) Q' E' s := by
  refine wpAny_mono (h _ s vs H.rebase r) ?_ ?_
  · rintro v s' ⟨d, σ', H', r', q⟩
    refine hQ v d σ' s' (H'.narrow H.b1 H.base_in) ⟨fun a items t => (TupKeep.of_keeps H'.b2) a items (H.tuples a items t), fun b o e hn => H'.b2 b o (wipe_get.mpr ⟨hn, e⟩)⟩ (fun b o e hn => ?_) r' q
    cases q' : σ' b with
    | none => rfl
    | some ob => have := (H'.store b ob q').2.1; rw [wipe_get.mpr ⟨hn, e⟩] at this; cases this
  · rintro e s' ⟨c, ρ', σ', x, H', q⟩
    exact hX e s' ⟨c, ρ', σ', x.narrow H.base_in, H'.narrow H.b1 H.base_in, q⟩
/-- all that stands but the own frame and some other things -/
noncomputable def others2 (h : Heap) (L a b : Addr) : List (Addr × Obj) := (others h L).filter fun p => decide (p.1 ≠ a ∧ p.1 ≠ b)
theorem St.fr2 (H : St C base ρ σ s) {x y : Addr} (hx : ∀ z, z = x ∨ z = y → ¬ C.Loose σ z ∧ base.get? z = none ∧ (∀ items, ¬ s.heap.IsTuple z items) ∧ ∀ u, ¬ s.heap.IsCell z u) :
    ∃ m, Fr {} C.env.locals s.heap m ∧ News {} C.env.locals s.heap (others2 s.heap C.env.locals x y) ∧ ∀ h' t, Fr {} C.env.locals h' m → News {} C.env.locals h' (others2 s.heap C.env.locals x y) → St C base ρ σ { s with heap := h', toks := t } ∧ TupKeep s.heap h' := by
  obtain ⟨m, hn, yv⟩ := id H.ns
  refine ⟨m, ⟨hn, fun b o e => by simp [Heap.get?] at e, by simp⟩, fun p hp => others_news p (List.mem_filter.mp hp).1, fun h' t F N => ?_⟩
  have keep : ∀ b o, b ≠ C.env.locals → b ≠ x → b ≠ y → s.heap.get? b = some o → h'.get? b = some o := fun b o hb h1 h2 e => (N (b, o) (List.mem_filter.mpr ⟨others_mem hb e, by simp [h1, h2]⟩)).1
  have ne : ∀ b, C.Loose σ b → b ≠ x ∧ b ≠ y := fun b l => ⟨fun e => (hx b (.inl e)).1 l, fun e => (hx b (.inr e)).1 l⟩
  have tk : TupKeep s.heap h' := fun a items t => by
    have hne : a ≠ C.env.locals := fun e => by subst e; exact Ns.notTuple hn t
    have h1 : a ≠ x := fun e => (hx a (.inl e)).2.2.1 _ t
    have h2 : a ≠ y := fun e => (hx a (.inr e)).2.2.1 _ t
    obtain ⟨o, ho, r⟩ := t
    exact ⟨o, keep _ _ hne h1 h2 ho, r⟩
  refine ⟨⟨H.ok, H.gens, H.os, H.b1, fun b o e => keep b o (fun q => by subst q; rw [H.own] at e; cases e) (fun q => by rw [(hx b (.inl q)).2.1] at e; cases e) (fun q => by rw [(hx b (.inr q)).2.1] at e; cases e) (H.b2 b o e),
    ⟨m, F.ns, fun x v e l => let ⟨u, h1, h2⟩ := yv x v e l; ⟨u, h1, h2.keep tk⟩⟩, ?_, H.allcells, ?_, H.own, H.ownc, ?_, ?_⟩, tk⟩
  · intro z c e
    obtain ⟨u, h1, h2⟩ := H.cells z c e
    refine ⟨u, ?_, fun v hv hk => let ⟨u', e1, r⟩ := h2 v hv hk; ⟨u', e1, r.keep tk⟩⟩
    have hne : c ≠ C.env.locals := fun e => by subst e; exact Ns.notCell hn h1
    have h1' : c ≠ x := fun e => (hx c (.inl e)).2.2.2 _ h1
    have h2' : c ≠ y := fun e => (hx c (.inr e)).2.2.2 _ h1
    obtain ⟨oc, hoc, hdc⟩ := h1
    exact ⟨oc, keep _ _ hne h1' h2' hoc, hdc⟩
  · intro a ha
    obtain ⟨h1, items, t⟩ := H.bad a ha
    exact ⟨h1, items, tk _ _ t⟩
  · intro p hp
    obtain ⟨⟨sl, h1⟩, h2⟩ := H.frs p hp
    have := ne p.1 (.inr (.inr (.inl ⟨p, hp, rfl⟩)))
    exact ⟨⟨sl, keep _ _ h2.2.2 this.1 this.2 h1⟩, h2⟩
  · intro b ob e
    obtain ⟨h1, h2⟩ := H.store b ob e
    have := ne b (.inl ⟨ob, e⟩)
    exact ⟨h1.keep tk fun o' ho' => keep _ _ h2.2.1 this.1 this.2 ho', h2⟩
end
end Mine
set_option tactic.hygienic false
namespace Mine
open PySem PySem.W PyProof.Rows PySem.Calls
theorem abs_nat (z : Int) : (if z < 0 then -z else z) = (z.natAbs : Int) := by split <;> lia
noncomputable def keyVal (l : Int) : Val := .tup [.int (if l < 0 then -l else l), .bool (decide (l > 0))]
theorem key_at {B : List Addr} {h : Heap} {ls : List Int} {keys : List Value} (r : RepVs B h (ls.map keyVal) keys) {i : Nat} (hi : i < ls.length) :
    ∃ a o n t, keys[i]? = some (.ref a) ∧ h.get? a = some o ∧ o.cls = .type "tuple" ∧ o.data = .seq #[.int (if ls[i] < 0 then -ls[i] else ls[i]) t, .bool (decide (ls[i] > 0))] n := by
  obtain ⟨v, hv, rv⟩ := r.get (i := i) (x := keyVal ls[i]) (by rw [List.getElem?_map, List.getElem?_eq_getElem hi]; rfl)
  unfold keyVal at rv
  simp only [RepV] at rv
  obtain ⟨a, vs, rfl, ⟨o, ho, hc, n, hd⟩, _, rs⟩ := rv
  obtain ⟨u₁, u₂, rfl, r1, r2⟩ := two_args rs
  simp only [RepV] at r1 r2
  obtain ⟨t, rfl⟩ := r1
  subst r2
  exact ⟨a, o, n, t, hv, ho, hc, hd⟩
theorem keys_tups {B : List Addr} {h : Heap} : ∀ {ls : List Int} {keys : List Value}, RepVs B h (ls.map keyVal) keys → ∃ fs, KatTups h keys fs ∧ fs.length = ls.length ∧ ∀ v ∈ fs, ∃ i t, v = .int i t
  | [], keys, r => by simp only [List.map_nil, RepVs] at r; subst r; exact ⟨[], KatTups.nil, rfl, by simp⟩
  | l :: ls, keys, r => by
    obtain ⟨a, o, n, t, h1, h2, h3, h4⟩ := key_at r (i := 0) (by simp)
    simp only [List.map_cons, RepVs] at r
    obtain ⟨v, ws, rfl, _, r⟩ := r
    obtain ⟨fs, k1, k2, k3⟩ := keys_tups r
    simp at h1; subst h1
    refine ⟨_ :: fs, KatTups.cons (f := .int (if (l :: ls)[0] < 0 then -(l :: ls)[0] else (l :: ls)[0]) t) h2 h3 h4 (by simp) k1, by simp [k2], fun v hv => ?_⟩
    rcases List.mem_cons.mp hv with rfl | hv
    · exact ⟨_, _, rfl⟩
    · exact k3 v hv
section
variable {C : Cx} {base : Heap} {ρ : Vars} {σ : Store} {s : Shared} {Q : Val → Store → Prop} {X : XPost}
theorem kas_keys {prog : Program} {w : World} {A : Around} {B : List Addr} {ls : List Int} {keys : List Value} (r : RepVs B s.heap (ls.map keyVal) keys) (hn : (ls.map Int.natAbs).Nodup) {i j : Nat} {C' : Bool → Shared → Prop} (hi : i < ls.length) (hj : j < ls.length)
    (h : C' (rankLt (ls.map Int.natAbs) i j) s) : kas_ask prog w A (tuples' true) keys i j C' s := by
  obtain ⟨a, o, n, t, h1, h2, h3, h4⟩ := key_at r hi
  obtain ⟨a', o', n', t', h1', h2', h3', h4'⟩ := key_at r hj
  unfold kas_ask
  have g1 : keys.getD i Value.none = .ref a := by rw [List.getD, h1]; rfl
  have g2 : keys.getD j Value.none = .ref a' := by rw [List.getD, h1']; rfl
  rw [g1, g2]
  have hrank : rankLt (ls.map Int.natAbs) i j = decide ((if ls[i] < 0 then -ls[i] else ls[i]) < (if ls[j] < 0 then -ls[j] else ls[j])) := by
    unfold rankLt
    have e1 : (ls.map Int.natAbs).getD i 0 = ls[i].natAbs := by simp [List.getD, hi]
    have e2 : (ls.map Int.natAbs).getD j 0 = ls[j].natAbs := by simp [List.getD, hj]
    rw [e1, e2]
    congr 1
    apply propext
    rw [abs_nat, abs_nat]
    constructor <;> intro h <;> lia
  refine kat_lt h2 h4 h2' h4' ?_
  show KatLex prog w A true _ C' [(_, _), (_, _)] 0 s
  refine kat_cons (SeqAt.EqAt.int_int _ _ _ _ prog w _ _ ?_)
  refine kat_go (fun e => ?_) (fun e => ?_)
  · have e : (if ls[i] < 0 then -ls[i] else ls[i]) = (if ls[j] < 0 then -ls[j] else ls[j]) := by simpa using e
    have hij : i = j := by
      have e3 : ls[i].natAbs = ls[j].natAbs := by rw [abs_nat, abs_nat] at e; lia
      have hi' : i < (ls.map Int.natAbs).length := by simpa using hi
      have hj' : j < (ls.map Int.natAbs).length := by simpa using hj
      exact (List.getElem_inj hn).mp (by simpa using e3 : (ls.map Int.natAbs)[i] = (ls.map Int.natAbs)[j])
    subst hij
    refine kat_yes (kat_cons (SeqAt.EqAt.bool_bool _ _ prog w _ _ ?_))
    rw [beq_self_eq_true]
    refine kat_yes (kat_nil ?_)
    rw [hrank] at h
    simpa using h
  · refine kat_no ?_
    show wpAny _ _ (oneLt' true _ _) _ _ _
    refine oneLt_int ?_
    rw [← hrank]; exact h
theorem small_filter {ls : List Int} (hr : ∀ r ∈ ls.map Int.natAbs, 1 ≤ r ∧ r ≤ 4) (h : ls.length < 2) : ls.map Int.natAbs = [1, 2, 3, 4].filter (fun k => (ls.map Int.natAbs).contains k) := by
  rcases ls with _ | ⟨l, _ | ⟨_, _⟩⟩
  · simp
  · have h1 := hr l.natAbs (by simp)
    have : l.natAbs = 1 ∨ l.natAbs = 2 ∨ l.natAbs = 3 ∨ l.natAbs = 4 := four h1
    simp only [List.map_cons, List.map_nil]
    rcases this with e | e | e | e <;> rw [e] <;> decide
  · simp at h; lia
theorem pick_ints {vs : List Value} {ls : List Int} (hI : IntsAre vs ls) : ∀ {p : List Nat}, (∀ i ∈ p, i < ls.length) → IntsAre (p.map fun i => vs.getD i Value.none) (p.map fun i => ls.getD i 0)
  | [], _ => .nil
  | i :: p, h => by
    have hi := h i List.mem_cons_self
    obtain ⟨t, e⟩ := hI.get i ls[i] (List.getElem?_eq_getElem hi)
    rw [List.map_cons, List.map_cons]
    have e1 : vs.getD i Value.none = .int ls[i] t := by rw [List.getD, e]; rfl
    have e2 : ls.getD i 0 = ls[i] := by simp [List.getD, hi]
    rw [e1, e2]
    exact .cons _ _ (pick_ints hI fun j hj => h j (List.mem_cons_of_mem _ hj))
theorem range_pick (ls : List Int) : (List.range ls.length).map (fun i => ls.getD i 0) = ls := by
  apply List.ext_getElem
  · simp
  · intro i h1 h2
    simp [List.getD, h2]
theorem St.noneLoose (H : St C base ρ σ s) {b : Addr} (hb : s.heap.get? b = none) : ¬ C.Loose σ b := fun x => by
  rcases x with ⟨o, h⟩ | rfl | ⟨p, hp, rfl⟩ | ⟨x, h1, h2⟩
  · obtain ⟨ob, ho, _⟩ := (H.store _ _ h).1.there; rw [hb] at ho; cases ho
  · obtain ⟨m, ⟨o, _, _, ho, _⟩, _⟩ := H.ns; rw [ho] at hb; cases hb
  · obtain ⟨⟨sl, hs⟩, _⟩ := H.frs p hp; rw [hb] at hs; cases hs
  · obtain ⟨u, ⟨o, ho, _⟩, _⟩ := H.cells _ _ h1; rw [hb] at ho; cases ho
/-- sorted(d, key=f) where f gives a pair of the size and the sign -/
theorem call_sorted_keyed (H : St C base ρ σ s) {d f : Addr} {kvs : List (Int × Val)} {ls : List Int} (hd : σ d = some (.idict kvs)) (hls : kvs.map (·.1) = ls) (hn : (ls.map Int.natAbs).Nodup) (hr : ∀ r ∈ ls.map Int.natAbs, 1 ≤ r ∧ r ≤ 4)
    (hroom : 0 < C.room) (hq : C.quiet = true) (hm : (C.h₁.get? sysModules).isSome = true)
    (hf : ∀ l ∈ ls, Cal C.in2 ρ σ (.ref f) [.int l] (fun d σ' => d = keyVal l ∧ σ' = σ) noX)
    (h : ∀ (ns' : List Int) (b : Addr), ns'.Perm ls → ns'.map Int.natAbs = [1, 2, 3, 4].filter (fun k => (ls.map Int.natAbs).contains k) → σ b = none → Q (.ref b) (σ.set b (.list (ns'.map .int)))) :
    wpAny C.M C.A (call (.builtin "sorted") [.ref d] [(Str.ofString "key", .ref f)]) (Vp C base ρ Q) (Xp C base X) s := by
  have h4 : ls.length ≤ 4 := by
    have := nodup_le (m := [1, 2, 3, 4]) hn fun x hx => by have := hr x hx; simp; lia
    simpa using this
  obtain ⟨ws, hdd, rk⟩ := (H.store d _ hd).1
  have hlen := rk.length
  have hlsl : kvs.length = ls.length := by rw [← hls, List.length_map]
  refine call_function_entry_kw kind_sorted plain_sorted entry_sorted (ksk_s1 _ _) ?_
  unfold Builtin.«sorted»
  refine wpAny_bind (m := checkCount "sorted" 1 1 _) (wpAny_pure ?_)
  obtain ⟨ep, hat⟩ := hdd.dictAt
  have hne : (d == sysModules) = false := by
    have : d ≠ sysModules := fun e => by
      subst e
      obtain ⟨o, ho⟩ := Option.isSome_iff_exists.mp hm
      have := H.b1 _ _ ho
      rw [(H.store _ _ hd).2.1] at this; cases this
    simpa using this
  refine wpAny_bind (kdu_collect (kdl_dict (knd := intKind C.prog C.w) (kvs := ws) (ep := ep) hne) (H.ok.calm hq) hat (by show ws.length ≤ 2 ^ 24; lia) fun h' tk acc keep hacc => ?_)
  have hI : IntsAre acc.toList ls := by
    refine intsAre_at (by rw [Array.length_toList, hacc.1]; lia) fun j v hv => ?_
    obtain ⟨k, x, hx, hi⟩ := hacc.2 j v (by rw [← Array.getElem?_toList]; exact hv)
    obtain ⟨t, rfl⟩ : ∃ t, v = .int k t := by
      cases v <;> simp [intKind, Value.isInt] at hi
      subst hi; exact ⟨_, rfl⟩
    refine ⟨k, t, ?_, rfl⟩
    have key : ∀ {kvs : List (Int × Val)} {ws : List (Int × Value)} {j : Nat}, RepKV C.bad s.heap kvs ws → ws[j]? = some (k, x) → (kvs.map (·.1))[j]? = some k := by
      intro kvs ws j r
      induction r generalizing j with
      | nil => intro e; simp at e
      | cons _ _ ih => intro e; cases j with
        | zero => simp at e; simp [e.1]
        | succ j => simp at e; simpa using ih e
    rw [← hls]; exact key rk hx
  generalize acc.toList = vs at hI
  clear hacc acc
  have hvl := hI.length
  refine wpAny_bind (wpAny_newList ?_ (by rw [sizeLine_eq]; lia))
  have ho : (h'.push { cls := .type "list", data := .seq (List.toArray vs) }).get? h'.objs.size = some (seqObj "list" (List.toArray vs) 0) := Heap.get?_push_size _ rfl
  generalize hD : h'.objs.size = D at *
  have hfD : s.heap.get? D = none := by
    cases q : s.heap.get? D with
    | none => rfl
    | some o => exact absurd (Heap.lt_size (keep _ _ q)) (by rw [hD]; exact Nat.lt_irrefl _)
  refine wpAny_bind (wpAny_holding (wpAny_call_entry_kw PyProof.Rows.slot_list_sort ⟨_, ho, rfl⟩ PyProof.Rows.entry_list_sort ?body (ksk_l1 _ _)))
  case body =>
    show wpAny C.M C.A.in1.in1 (Builtin.«list.sort» ⟨[.ref D], [(Str.ofString "key", .ref f)]⟩) _ _ _
    rw [ksk_t1]
    unfold ksk_tree
    refine wpAny_bind (listItems_at ho rfl ?_)
    refine wpAny_bind (listUpdate_at ho rfl ?_ (by rw [List.size_toArray, sizeLine_eq]; lia) (Nat.zero_le _))
    obtain ⟨e1, ho1⟩ : ∃ e1, ((h'.push { cls := .type "list", data := .seq (List.toArray vs) }).update D (Obj.mapSeq fun z9a => (#[] : Array Value))).get? D = some (seqObj "list" #[] e1) := ⟨_, get?_update_seq ho fun z9a => #[]⟩
    refine wpAny_bind (seqEpoch_at ho1 rfl ?_)
    refine wpAny_bind (wpAny_newTuple ?_ (by show vs.length ≤ _; rw [sizeLine_eq]; lia))
    refine wpAny_bind (wpAny_newList ?_ (Nat.zero_le _))
    refine wpAny_holding ?_
    generalize hh1 : (h'.push { cls := .type "list", data := .seq (List.toArray vs) }).update D (Obj.mapSeq fun z9a => (#[] : Array Value)) = h1 at ho1 ⊢
    generalize hh2 : h1.push (seqObj "tuple" (List.toArray vs) 0) = h2
    show wpAny C.M C.A.in1.in1 (ksk_rest D (.ref f) false vs.toArray e1 (.ref h2.objs.size)) _ _ { s with heap := h2.push { cls := .type "list", data := .seq ([] : List Value).toArray }, toks := tk }
    have old1 : ∀ b o, s.heap.get? b = some o → h1.get? b = some o := fun b o e => by
      rw [← hh1, Heap.get?_update_ne _ _ _ _ (fun q => by rw [q, hfD] at e; cases e)]
      exact Heap.get?_push_of_some _ (keep b o e)
    have old2 : ∀ b o, s.heap.get? b = some o → h2.get? b = some o := fun b o e => by rw [← hh2]; exact Heap.get?_push_of_some _ (old1 b o e)
    have hDk : D ≠ h2.objs.size := by rw [← hh2, Heap.size_push]; exact Nat.ne_of_lt (Nat.lt_succ_of_lt (Heap.lt_size ho1))
    have hD2 : h2.get? D = some (seqObj "list" #[] e1) := by rw [← hh2]; exact Heap.get?_push_of_some _ ho1
    have hfk : s.heap.get? h2.objs.size = none := by
      cases q : s.heap.get? h2.objs.size with
      | none => rfl
      | some o => exact absurd (Heap.lt_size (old2 _ _ q)) (Nat.lt_irrefl _)
    have H3 := H.grow (h' := h2.push { cls := .type "list", data := .seq ([] : List Value).toArray }) (t := tk) fun b o e => Heap.get?_push_of_some _ (old2 b o e)
    have nlD := H.noneLoose hfD
    have nlk := H.noneLoose hfk
    have bD := (H.newAddr hfD).1
    have bk := (H.newAddr hfk).1
    have hσD : σ D = none := by
      cases q : σ D with
      | none => rfl
      | some o => exact absurd (.inl ⟨o, q⟩) nlD
    have hkl : h2.objs.size ≠ C.env.locals := (H.newAddr hfk).2.1
    have hDl : D ≠ C.env.locals := (H.newAddr hfD).2.1
    unfold ksk_rest
    refine wpAny_bind (wpAny_rule ?_)
    first
      | rw [List.forIn_toArray]
      | (rw [← Array.forIn_toList]; simp only [List.toList_toArray])
      | rw [← Array.forIn_toList]
    refine wpAny_bind (ksk_fold (fun i s' => ∃ keys e, St C base ρ σ s' ∧ s'.heap.get? D = some (seqObj "list" #[] e1) ∧ s'.heap.get? h2.objs.size = some (seqObj "list" (List.toArray keys) e) ∧ RepVs C.bad s'.heap ((ls.take i).map keyVal) keys) vs 0 _
      ⟨[], 0, H3, Heap.get?_push_of_some _ hD2, Heap.get?_push_size _ rfl, by simpa using RepVs.nil⟩ ?step ?done)
    case step =>
      rintro j x s' hx ⟨keys, e, H', gD, gk, rk'⟩
      simp only [Nat.zero_add] at rk' ⊢
      have hj : j < ls.length := by have := (List.getElem?_eq_some_iff.mp hx).1; lia
      obtain ⟨t, hxt⟩ := hI.get j ls[j] (List.getElem?_eq_getElem hj)
      rw [hxt] at hx; cases hx
      have hk := rk'.length
      simp only [List.length_map, List.length_take] at hk
      refine wpAny_bind (wpAny_attempt ((hf ls[j] (List.getElem_mem hj)).run2 (H'.in2 hroom) (.cons (by simp [RepV]) .nil) (fun v d' σ' s'' H'' P F r ⟨q1, q2⟩ => ?_) fun e s' ⟨_, _, _, _, _, q⟩ => q.elim))
      subst q1 q2
      have gD' := P.keep _ _ gD nlD
      have gk' := P.keep _ _ gk nlk
      have ek : (List.toArray keys).push v = List.toArray (keys ++ [v]) := by simp
      have hs1 := Heap.SameBut.update s''.heap h2.objs.size (Obj.mapSeq (·.push v))
      obtain ⟨c2, hc2⟩ : ∃ c2, (s''.heap.update h2.objs.size (Obj.mapSeq (·.push v))).get? h2.objs.size = some (seqObj "list" (List.toArray (keys ++ [v])) c2) := ⟨_, by rw [← ek]; exact get?_update_seq gk' (·.push v)⟩
      refine wpAny_bind (listUpdate_at gk' rfl ?_ (by rw [List.size_toArray, sizeLine_eq]; lia) (Nat.le_trans (Nat.le_of_eq (Array.size_push ..)) (by rw [List.size_toArray, sizeLine_eq]; lia)))
      have nt : ∀ items, ¬ s''.heap.IsTuple h2.objs.size items := fun z9a t => by obtain ⟨o, ho, hc, _⟩ := t; rw [gk'] at ho; cases ho; revert hc; show Value.type "list" = _ → _; decide
      have nc : ∀ u, ¬ s''.heap.IsCell h2.objs.size u := fun z9a t => by obtain ⟨o, ho, hc⟩ := t; rw [gk'] at ho; cases ho; cases hc
      obtain ⟨H4, tk4⟩ := (H''.out2 H.ok).poke' (t := s''.toks) nlk bk nt nc hs1.extBut
      refine wpAny_pure ⟨rfl, keys ++ [v], c2, H4, (hs1.2 _ hDk).trans gD', hc2, ?_⟩
      have et : ls.take (j + 1) = ls.take j ++ [ls[j]] := by rw [List.take_add_one, List.getElem?_eq_getElem hj]; rfl
      rw [et, List.map_append]
      exact ((P.reps rk').append (.cons r .nil)).keep tk4
    case done =>
      rintro s' ⟨keys, e, H', gD, gk, rk'⟩
      simp only [Nat.zero_add] at rk'
      rw [List.take_of_length_le (by lia)] at rk'
      have hk := rk'.length
      rw [List.length_map] at hk
      refine wpAny_bind (listItems_at gk rfl ?_)
      have ntD : ∀ items, ¬ s'.heap.IsTuple D items := fun z9a t => by obtain ⟨o, ho, hc, _⟩ := t; rw [gD] at ho; cases ho; revert hc; show Value.type "list" = _ → _; decide
      have ncD : ∀ u, ¬ s'.heap.IsCell D u := fun z9a t => by obtain ⟨o, ho, hc⟩ := t; rw [gD] at ho; cases ho; cases hc
      have nt : ∀ items, ¬ s'.heap.IsTuple h2.objs.size items := fun z9a t => by obtain ⟨o, ho, hc, _⟩ := t; rw [gk] at ho; cases ho; revert hc; show Value.type "list" = _ → _; decide
      have nc : ∀ u, ¬ s'.heap.IsCell h2.objs.size u := fun z9a t => by obtain ⟨o, ho, hc⟩ := t; rw [gk] at ho; cases ho; cases hc
      obtain ⟨m, F, N, back⟩ := H'.fr2 (x := D) (y := h2.objs.size) (fun z hz => hz.elim (fun q => by rw [q]; exact ⟨nlD, bD, ntD, ncD⟩) (fun q => by rw [q]; exact ⟨nlk, bk, nt, nc⟩))
      have apart : ∀ p ∈ others2 s'.heap C.env.locals D h2.objs.size, p.1 ≠ D ∧ p.1 ≠ h2.objs.size := fun p hp => by have := (List.mem_filter.mp hp).2; simpa using this
      have fin : ∀ (out : List Value) (ns' : List Int), IntsAre out ns' → ns'.Perm ls → ns'.map Int.natAbs = [1, 2, 3, 4].filter (fun k => (ls.map Int.natAbs).contains k) → ∀ (P : Shared → Prop),
          (∀ h3, Vp C base ρ Q (.ref D) { s' with heap := h3 } → P { s' with heap := h3 }) →
          KatFin {} C.env.locals m h2.objs.size D keys e e1 out P s' := fun out ns' o1 o2 o3 P hP => by
        refine ⟨(h2.objs.size, seqObj "list" (List.toArray keys) e) :: (D, seqObj "list" #[] e1) :: others2 s'.heap C.env.locals D h2.objs.size, _, F, ?_, .head fun p hp => ?_, fun h3 c F3 N3 => ⟨_, _, F3, fun p hp => N3 p (List.mem_cons_of_mem _ hp), .head fun p hp => (apart p hp).1, fun h4 c4 F4 N4 => hP h4 ?_⟩⟩
        · intro p hp
          rcases List.mem_cons.mp hp with rfl | hp
          · exact ⟨gk, hkl, by simp [Heap.get?]⟩
          · rcases List.mem_cons.mp hp with rfl | hp
            · exact ⟨gD, hDl, by simp [Heap.get?]⟩
            · exact N p hp
        · rcases List.mem_cons.mp hp with rfl | hp
          · exact hDk
          · exact (apart p hp).2
        · obtain ⟨H4, _⟩ := back h4 s'.toks F4 fun p hp => N4 p (List.mem_cons_of_mem _ hp)
          have gD4 := (N4 _ List.mem_cons_self).1
          exact ⟨.ref D, _, H4.track (o := .list (ns'.map .int)) hσD ⟨out, ⟨c4, gD4⟩, are_ints o1⟩ ⟨bD, hDl, (H.newAddr hfD).2.2⟩, by simp [RepV], h ns' D o2 o3 hσD⟩
      by_cases hl2 : vs.length < 2
      · unfold ksk_end
        try dsimp only
        simp only [Bool.false_eq_true, if_false]
        rw [if_pos (by rw [List.size_toArray]; exact hl2), if_pos (by rw [List.size_toArray]; exact hl2)]
        refine wpAny_bind (wpAny_pure ?_)
        rw [StateT.run_pure]
        refine wpAny_bind (wpAny_pure ?_)
        try dsimp only
        refine kat_tail (h₀ := {}) (L := C.env.locals) (m := m) (e := e) (b := false) (ks := keys) (out := vs) ?_ (by lia) (by lia) rfl ?_
        · show ((List.toArray keys).zip vs.toArray).map (·.2) = _
          apply Array.toList_inj.mp
          rw [Array.toList_map, ksk_zip, List.map_snd_zip (by show vs.length ≤ keys.length; lia)]
        · show KatFin {} C.env.locals m h2.objs.size D keys e e1 vs _ s'
          exact fin vs ls hI (.refl _) (small_filter hr (by lia)) _ fun h3 q => ⟨_, rfl, wpAny_pure ⟨_, rfl, q⟩⟩
      · have hrl : (ls.map Int.natAbs).length = ls.length := List.length_map ..
        obtain ⟨p, hp, hsb⟩ := sort_run hn hr (by rw [hrl]; lia)
        unfold sortedBy at hsb
        rw [Bool.and_eq_true, beq_iff_eq] at hsb
        obtain ⟨hperm, hmap⟩ := hsb
        have hperm := List.isPerm_iff.mp hperm
        rw [hrl] at hp hperm
        obtain ⟨fs, k1, k2, k3⟩ := keys_tups rk'
        refine kat_end (h₀ := {}) (L := C.env.locals) (m := m) (e := e) (b := false) (by lia) (by lia) (by lia) (kat_kind (T := .type "int") k1 (by lia) (fun v hv => by obtain ⟨i, t, rfl⟩ := k3 v hv; exact Looks.of_pure rfl) (by decide) ?_)
        rw [show ((Value.type "int" : Value) != Value.type "tuple") = true by decide]
        rw [hvl]
        refine evalB_wp (n := ls.length) (lt := rankLt (ls.map Int.natAbs)) (fun i j C' hi hj hC => kas_keys rk' hn hi hj hC) _ p hp ?_
        have hin : ∀ i ∈ p.toList, i < ls.length := fun i hi => List.mem_range.mp (hperm.mem_iff.mp hi)
        show KatFin {} C.env.locals m h2.objs.size D keys e e1 (p.toList.map fun i => vs.getD i Value.none) _ s'
        refine fin _ (p.toList.map fun i => ls.getD i 0) ?_ ?_ ?_ _ fun h3 q => ⟨_, rfl, wpAny_pure ⟨_, rfl, q⟩⟩
        · exact pick_ints hI hin
        · refine (hperm.map _).trans ?_
          rw [range_pick]
        · rw [List.map_map, ← hmap]
          refine List.map_congr_left fun i hi => ?_
          simp [List.getD, hin i hi]
end
end Mine
set_option tactic.hygienic false
namespace Mine
open PySem PySem.W PyProof.Rows PySem.Calls
section
variable {prog : Program} {w : World} {A : Around} {E : Value → Shared → Prop} {s : Shared}
theorem nextOf_tup {it t : Addr} {i : Nat} {items} {x : Value} {Q : Value → Shared → Prop} (hit : s.heap.IsTupleIter it t i) (ht : s.heap.IsTuple t items) (hx : items[i]? = some x)
    (hQ : ∀ h', h'.IsTupleIter it t (i + 1) → Heap.SameBut it s.heap h' → Q x { s with heap := h' }) : wpAny (model prog w) A (Builtin.SmallTypes.nextOf (.ref it)) Q E s := by
  obtain ⟨o, ho, hc, hd⟩ := id hit
  obtain ⟨ot, hot, _, nt, hdt⟩ := ht
  unfold Builtin.SmallTypes.nextOf
  refine wpAny_bind (wpAny_callSpecial?_slot (name := Str.ofString "__next__") hit.typeIs F.slot_tuple_iterator_next (wpAny_call_entry F.slot_tuple_iterator_next hit.typeIs F.entry_tuple_iterator_next ?_ (F.args_tuple_iterator_next_1 _)))
  show wpAny _ _ (field (.ref it) 0 >>= _) _ _ s
  refine wpAny_bind (wpAny_field ho hd (x := .ref t) rfl ?_)
  show wpAny _ _ (if (Value.ref t == Value.none) = true then _ else _) _ _ s
  rw [if_neg (show ¬ ((Value.ref t == Value.none) = true) from Bool.false_ne_true)]
  show wpAny _ _ (field (.ref it) 1 >>= _) _ _ s
  refine wpAny_bind (wpAny_field ho hd (x := .int i 0) rfl ?_)
  show wpAny _ _ (seqItems? (.ref t) >>= _) _ _ s
  refine wpAny_bind (wpAny_seqItems hot hdt ?_)
  simp only [Int.toNat_natCast, hx]
  refine wpAny_bind (wpAny_setField ho hd (by simp) (wpAny_pure ⟨x, rfl, wpAny_pure (hQ _ ?_ (Heap.SameBut.update ..))⟩))
  exact ⟨_, Heap.get?_update_self _ ho (Obj.isFreed_of_fields (Obj.data_mapFields hd _)), (Obj.cls_mapFields ..).trans hc, by rw [Obj.data_mapFields hd]; simp [rawInt]⟩
theorem nextOf_tup_end {it t : Addr} {i : Nat} {items} {Q : Value → Shared → Prop} (hh : A.handled = none) (hit : s.heap.IsTupleIter it t i) (ht : s.heap.IsTuple t items) (hx : items[i]? = none)
    (hE : ∀ h' e, Heap.ExtBut it s.heap h' → (∃ o, h'.get? e = some o ∧ o.cls = .type "StopIteration") → E (.ref e) { s with heap := h' }) : wpAny (model prog w) A (Builtin.SmallTypes.nextOf (.ref it)) Q E s := by
  obtain ⟨o, ho, hc, hd⟩ := id hit
  obtain ⟨ot, hot, _, nt, hdt⟩ := ht
  unfold Builtin.SmallTypes.nextOf
  refine wpAny_bind (wpAny_callSpecial?_slot (name := Str.ofString "__next__") hit.typeIs F.slot_tuple_iterator_next (wpAny_call_entry F.slot_tuple_iterator_next hit.typeIs F.entry_tuple_iterator_next ?_ (F.args_tuple_iterator_next_1 _)))
  show wpAny _ _ (field (.ref it) 0 >>= _) _ _ s
  refine wpAny_bind (wpAny_field ho hd (x := .ref t) rfl ?_)
  show wpAny _ _ (if (Value.ref t == Value.none) = true then _ else _) _ _ s
  rw [if_neg (show ¬ ((Value.ref t == Value.none) = true) from Bool.false_ne_true)]
  show wpAny _ _ (field (.ref it) 1 >>= _) _ _ s
  refine wpAny_bind (wpAny_field ho hd (x := .int i 0) rfl ?_)
  show wpAny _ _ (seqItems? (.ref t) >>= _) _ _ s
  refine wpAny_bind (wpAny_seqItems hot hdt ?_)
  simp only [Int.toNat_natCast, hx]
  refine wpAny_bind (wpAny_rule (wpAny_bind (wpAny_setField ho hd (by simp) ?_)))
  show wpAny _ _ (newExc (.type "StopIteration") [] >>= _) _ _ _
  refine wpAny_bind ?_
  simp only [newExc, newTuple]
  refine wpAny_bind (wpAny_newObj_type ?_ (by size_fits))
  refine wpAny_bind (m := firstArgMember _ _) (wpAny_of_eq (a := Value.none) (by first | rfl | (simp only [firstArgMember]; rfl)) ?_)
  refine wpAny_newObj_type ?_ (by size_fits)
  simp only [raiseNew]
  refine wpAny_bind (wpAny_handled ?_)
  first | rw [show A.in1.handled = none from hh] | rw [hh]
  refine wpAny_bind (wpAny_pure (wpAny_throw ?_))
  exact hE _ _ (((Heap.SameBut.update ..).extBut.push _).push _) ⟨_, Heap.get?_push_size _ rfl, rfl⟩
theorem Heap.IsTupleIter.at2 {h h' : Heap} {a t : Addr} {i : Nat} (x : h.IsTupleIter a t i) (k : ∀ o, h.get? a = some o → h'.get? a = some o) : h'.IsTupleIter a t i := let ⟨o, ho, r⟩ := x; ⟨o, k o ho, r⟩
theorem Heap.IsTuple.at2 {h h' : Heap} {a : Addr} {xs} (x : h.IsTuple a xs) (k : ∀ o, h.get? a = some o → h'.get? a = some o) : h'.IsTuple a xs := let ⟨o, ho, r⟩ := x; ⟨o, k o ho, r⟩
theorem zipT_item {z TI TO i1 i2 l1 l2 : Addr} {k1 k2 : Nat} {xs ys : Array Value} {x y a b : Value} {Q : Value → Shared → Prop} (D : ZipApart z TI TO i1 i2 l1 l2)
    (hz : IsZip s.heap z TI TO .none) (hTI : IsPair s.heap TI (.ref i1) (.ref i2)) (hTO : IsPair s.heap TO a b)
    (h1 : s.heap.IsTupleIter i1 l1 k1) (h2 : s.heap.IsTupleIter i2 l2 k2) (hl1 : s.heap.IsTuple l1 xs) (hl2 : s.heap.IsTuple l2 ys) (hx : xs[k1]? = some x) (hy : ys[k2]? = some y)
    (hQ : ∀ h', IsZip h' z TI TO (rawInt s.heap.objs.size) → IsPair h' TO x y → h'.IsTupleIter i1 l1 (k1 + 1) → h'.IsTupleIter i2 l2 (k2 + 1) → IsPair h' s.heap.objs.size x y →
      (∀ c o, c ≠ z → c ≠ TO → c ≠ i1 → c ≠ i2 → s.heap.get? c = some o → h'.get? c = some o) → Q (.ref s.heap.objs.size) { s with heap := h' }) :
    wpAny (model prog w) A (Builtin.«zip.__next__» ⟨[.ref z], []⟩) (fun fin s' => ∃ v, fin = .done (.ret v) ∧ Q v s') E s := by
  show wpAny _ _ (field (.ref z) 2 >>= _) _ _ _
  refine wpAny_bind (wpAny_field hz rfl (x := .bool false) rfl ?_)
  show wpAny _ _ (field (.ref z) 3 >>= _) _ _ _
  refine wpAny_bind (wpAny_field hz rfl (x := .ref TI) rfl ?_)
  refine wpAny_bind (wpAny_seqItems hTI rfl ?_)
  show wpAny _ _ (Builtin.SmallTypes.ownedTupleIsFree (.ref z) >>= _) _ _ _
  refine wpAny_bind ?_
  unfold Builtin.SmallTypes.ownedTupleIsFree
  refine wpAny_bind (wpAny_field hz rfl (x := .none) rfl (wpAny_pure ?_))
  simp only [if_true]
  refine wpAny_bind (wpAny_rule ?_)
  refine wpAny_bind (wpAny_field hz rfl (x := .ref TO) rfl ?_)
  refine wpAny_bind (wpAny_setField_rec hz (by simp) fun h₁ hz₁ hs₁ => ?_)
  replace hz₁ : IsZip h₁ z TI TO .ellipsis := hz₁
  refine wpAny_bind ?_
  simp only [List.zipIdx_cons, List.zipIdx_nil, List.forIn_cons, List.forIn_nil]
  refine wpAny_bind (wpAny_bind (wpAny_onRaise ?_))
  show wpAny _ _ (Builtin.SmallTypes.nextOf (.ref i1) >>= _) _ _ _
  refine wpAny_bind (nextOf_tup (h1.extBut hs₁.extBut D.i1z) (hl1.extBut hs₁.extBut D.l1z) hx fun h₂ h1₂ hs₂ => wpAny_pure ?_)
  have hTO₂ : IsPair h₂ TO a b := hs₂.extBut _ _ D.TOi1 (hs₁.extBut _ _ D.TOz hTO)
  refine wpAny_bind (wpAny_seqItems hTO₂ rfl ?_)
  refine wpAny_bind (wpAny_updateSeq_pair hTO₂ fun h₃ hTO₃ hs₃ => ?_)
  replace hTO₃ : IsPair h₃ TO x b := hTO₃
  refine wpAny_bind (wpAny_letGo (wpAny_pure ?_))
  refine wpAny_bind (wpAny_bind (wpAny_onRaise ?_))
  show wpAny _ _ (Builtin.SmallTypes.nextOf (.ref i2) >>= _) _ _ _
  refine wpAny_bind (nextOf_tup (((h2.extBut hs₁.extBut D.i2z).extBut hs₂.extBut D.i12.symm).extBut hs₃.extBut D.TOi2.symm) (((hl2.extBut hs₁.extBut D.l2z).extBut hs₂.extBut D.l2i1).extBut hs₃.extBut D.l2TO) hy fun h₄ h2₄ hs₄ => wpAny_pure ?_)
  have hTO₄ : IsPair h₄ TO x b := hs₄.extBut _ _ D.TOi2 hTO₃
  refine wpAny_bind (wpAny_seqItems hTO₄ rfl ?_)
  refine wpAny_bind (wpAny_updateSeq_pair hTO₄ fun h₅ hTO₅ hs₅ => ?_)
  replace hTO₅ : IsPair h₅ TO x y := hTO₅
  refine wpAny_bind (wpAny_letGo (wpAny_pure (wpAny_pure ?_)))
  refine wpAny_bind (wpAny_seqItems hTO₅ rfl ?_)
  refine wpAny_bind (wpAny_newTuple ?_)
  have hsz : h₅.objs.size = s.heap.objs.size := by rw [hs₅.1, hs₄.1, hs₃.1, hs₂.1, hs₁.1]
  have hz₅ : IsZip h₅ z TI TO .ellipsis := hs₅.extBut _ _ D.TOz.symm (hs₄.extBut _ _ D.i2z.symm (hs₃.extBut _ _ D.TOz.symm (hs₂.extBut _ _ D.i1z.symm hz₁)))
  have hk₅ : ∀ c o, c ≠ z → c ≠ TO → c ≠ i1 → c ≠ i2 → s.heap.get? c = some o → h₅.get? c = some o := fun c o c1 c2 c3 c4 e =>
    hs₅.extBut _ _ c2 (hs₄.extBut _ _ c4 (hs₃.extBut _ _ c2 (hs₂.extBut _ _ c3 (hs₁.extBut _ _ c1 e))))
  have h1₅ : h₅.IsTupleIter i1 l1 (k1 + 1) := ((h1₂.extBut hs₃.extBut D.TOi1.symm).extBut hs₄.extBut D.i12).extBut hs₅.extBut D.TOi1.symm
  have h2₅ : h₅.IsTupleIter i2 l2 (k2 + 1) := h2₄.extBut hs₅.extBut D.TOi2.symm
  have hzlt : z < h₅.objs.size := Heap.lt_size hz₅
  show wpAny _ _ (Builtin.SmallTypes.ownedTupleHandOut (.ref z) (.ref h₅.objs.size) >>= _) _ _ _
  refine wpAny_bind ?_
  unfold Builtin.SmallTypes.ownedTupleHandOut
  have hz₆ : IsZip (h₅.push { cls := .type "tuple", data := .seq #[x, y] }) z TI TO .ellipsis := Heap.get?_push_of_some _ hz₅
  refine wpAny_bind (wpAny_setField_rec hz₆ (by simp) fun h₇ hz₇ hs₇ => ?_)
  replace hz₇ : IsZip h₇ z TI TO (rawInt h₅.objs.size) := hz₇
  refine wpAny_setField_rec hz₇ (by simp) fun h₈ hz₈ hs₈ => ?_
  replace hz₈ : IsZip h₈ z TI TO (rawInt h₅.objs.size) := hz₈
  have up : ∀ c o, c ≠ z → h₅.get? c = some o → h₈.get? c = some o := fun c o c1 e => hs₈.extBut _ _ c1 (hs₇.extBut _ _ c1 (Heap.get?_push_of_some _ e))
  have hT₈ : IsPair h₈ h₅.objs.size x y := hs₈.extBut _ _ (Nat.ne_of_gt hzlt) (hs₇.extBut _ _ (Nat.ne_of_gt hzlt) (Heap.get?_push_size _ rfl))
  rw [hsz] at hz₈ hT₈
  refine wpAny_pure ⟨_, rfl, ?_⟩
  show Q (.ref h₅.objs.size) _
  rw [hsz]
  exact hQ h₈ hz₈ (up _ _ D.TOz hTO₅) (Heap.IsTupleIter.at2 h1₅ fun o e => up _ o D.i1z e) (Heap.IsTupleIter.at2 h2₅ fun o e => up _ o D.i2z e) hT₈ fun c o c1 c2 c3 c4 e => up c o c1 (hk₅ c o c1 c2 c3 c4 e)
theorem zipT_end {z TI TO i1 i2 l1 l2 : Addr} {k1 : Nat} {xs : Array Value} {a b : Value} {Q : Fin → Shared → Prop} (hh : A.handled = none) (D : ZipApart z TI TO i1 i2 l1 l2)
    (hz : IsZip s.heap z TI TO .none) (hTI : IsPair s.heap TI (.ref i1) (.ref i2)) (hTO : IsPair s.heap TO a b) (h1 : s.heap.IsTupleIter i1 l1 k1) (hl1 : s.heap.IsTuple l1 xs) (hx : xs[k1]? = none)
    (hE : ∀ h' e, (∀ c o, c ≠ z → c ≠ i1 → s.heap.get? c = some o → h'.get? c = some o) → (∃ o, h'.get? e = some o ∧ o.cls = .type "StopIteration") → E (.ref e) { s with heap := h' }) :
    wpAny (model prog w) A (Builtin.«zip.__next__» ⟨[.ref z], []⟩) Q E s := by
  show wpAny _ _ (field (.ref z) 2 >>= _) _ _ _
  refine wpAny_bind (wpAny_field hz rfl (x := .bool false) rfl ?_)
  show wpAny _ _ (field (.ref z) 3 >>= _) _ _ _
  refine wpAny_bind (wpAny_field hz rfl (x := .ref TI) rfl ?_)
  refine wpAny_bind (wpAny_seqItems hTI rfl ?_)
  show wpAny _ _ (Builtin.SmallTypes.ownedTupleIsFree (.ref z) >>= _) _ _ _
  refine wpAny_bind ?_
  unfold Builtin.SmallTypes.ownedTupleIsFree
  refine wpAny_bind (wpAny_field hz rfl (x := .none) rfl (wpAny_pure ?_))
  simp only [if_true]
  refine wpAny_bind (wpAny_rule ?_)
  refine wpAny_bind (wpAny_field hz rfl (x := .ref TO) rfl ?_)
  refine wpAny_bind (wpAny_setField_rec hz (by simp) fun h₁ hz₁ hs₁ => ?_)
  replace hz₁ : IsZip h₁ z TI TO .ellipsis := hz₁
  refine wpAny_bind ?_
  simp only [List.zipIdx_cons, List.zipIdx_nil, List.forIn_cons, List.forIn_nil]
  refine wpAny_bind (wpAny_bind (wpAny_onRaise ?_))
  show wpAny _ _ (Builtin.SmallTypes.nextOf (.ref i1) >>= _) _ _ _
  refine wpAny_bind (nextOf_tup_end hh (h1.extBut hs₁.extBut D.i1z) (hl1.extBut hs₁.extBut D.l1z) hx fun h₂ e hs₂ he => ?_)
  obtain ⟨oe, hoe, hce⟩ := he
  have hz₂ : IsZip h₂ z TI TO .ellipsis := hs₂ _ _ D.i1z.symm hz₁
  have hez : e ≠ z := fun x => by subst x; rw [hz₂] at hoe; cases hoe; simp at hce
  exact wpAny_setField_rec hz₂ (by simp) fun h₃ z9a hs₃ => hE h₃ e (fun c o c1 c3 x => hs₃.extBut _ _ c1 (hs₂ _ _ c3 (hs₁.extBut _ _ c1 x))) ⟨oe, hs₃.extBut _ _ hez hoe, hce⟩
theorem next_zipT {z TI TO i1 i2 l1 l2 : Addr} {k1 k2 : Nat} {xs ys : Array Value} {x y a b : Value} {Q : Option Value → Shared → Prop} (D : ZipApart z TI TO i1 i2 l1 l2)
    (hz : IsZip s.heap z TI TO .none) (hTI : IsPair s.heap TI (.ref i1) (.ref i2)) (hTO : IsPair s.heap TO a b)
    (h1 : s.heap.IsTupleIter i1 l1 k1) (h2 : s.heap.IsTupleIter i2 l2 k2) (hl1 : s.heap.IsTuple l1 xs) (hl2 : s.heap.IsTuple l2 ys) (hx : xs[k1]? = some x) (hy : ys[k2]? = some y)
    (hQ : ∀ h', IsZip h' z TI TO (rawInt s.heap.objs.size) → IsPair h' TO x y → h'.IsTupleIter i1 l1 (k1 + 1) → h'.IsTupleIter i2 l2 (k2 + 1) → IsPair h' s.heap.objs.size x y →
      (∀ c o, c ≠ z → c ≠ TO → c ≠ i1 → c ≠ i2 → s.heap.get? c = some o → h'.get? c = some o) → Q (some (.ref s.heap.objs.size)) { s with heap := h' }) :
    wpAny (model prog w) A (pyNext (.ref z)) Q E s := by
  have hT : s.TypeIs (.ref z) "zip" := ⟨_, hz, rfl⟩
  unfold pyNext
  exact wpAny_bind (wpAny_attempt (wpAny_callSpecial?_slot (name := Str.ofString "__next__") hT F.slot_zip_next (wpAny_call_entry F.slot_zip_next hT F.entry_zip_next
    (zipT_item D hz hTI hTO h1 h2 hl1 hl2 hx hy fun h' a1 a2 a3 a4 a5 a7 => wpAny_pure (hQ h' a1 a2 a3 a4 a5 a7)) (F.args_zip_next_1 _))))
theorem next_zipT_end {z TI TO i1 i2 l1 l2 : Addr} {k1 : Nat} {xs : Array Value} {a b : Value} {Q : Option Value → Shared → Prop} (hh : A.handled = none) (D : ZipApart z TI TO i1 i2 l1 l2)
    (hz : IsZip s.heap z TI TO .none) (hTI : IsPair s.heap TI (.ref i1) (.ref i2)) (hTO : IsPair s.heap TO a b) (h1 : s.heap.IsTupleIter i1 l1 k1) (hl1 : s.heap.IsTuple l1 xs) (hx : xs[k1]? = none)
    (hQ : ∀ h', (∀ c o, c ≠ z → c ≠ i1 → s.heap.get? c = some o → h'.get? c = some o) → Q none { s with heap := h' }) : wpAny (model prog w) A (pyNext (.ref z)) Q E s := by
  have hT : s.TypeIs (.ref z) "zip" := ⟨_, hz, rfl⟩
  unfold pyNext
  refine wpAny_bind (wpAny_attempt (wpAny_callSpecial?_slot (name := Str.ofString "__next__") hT F.slot_zip_next (wpAny_call_entry F.slot_zip_next hT F.entry_zip_next
    (zipT_end hh D hz hTI hTO h1 hl1 hx fun h' e hk he => ?_) (F.args_zip_next_1 _))))
  obtain ⟨o, ho, hc⟩ := he
  refine wpAny_bind (wpAny_isInstance (T := "StopIteration") (b := true) ⟨o, ho, hc⟩ isSubtype_stop ?_)
  exact wpAny_pure (hQ _ hk)
end
noncomputable def zt1 (h : Heap) (l1 : Addr) : Heap := h.push { cls := .type "tuple_iterator", data := .fields #[.ref l1, .int 0 0] }
noncomputable def zt2 (h : Heap) (l1 l2 : Addr) : Heap := (zt1 h l1).push { cls := .type "tuple_iterator", data := .fields #[.ref l2, .int 0 0] }
noncomputable def zt3 (h : Heap) (l1 l2 : Addr) : Heap := (zt2 h l1 l2).push { cls := .type "tuple", data := .seq #[.ref h.objs.size, .ref (zt1 h l1).objs.size] }
noncomputable def zt4 (h : Heap) (l1 l2 : Addr) : Heap := (zt3 h l1 l2).push { cls := .type "tuple", data := .seq #[.none, .none] }
noncomputable def zt5 (h : Heap) (l1 l2 : Addr) : Heap := (zt4 h l1 l2).push { cls := .type "zip", data := .fields #[.none, .bool false, .bool false, .ref (zt2 h l1 l2).objs.size, .ref (zt3 h l1 l2).objs.size] }
theorem meets_zipT (l1 l2 : Addr) (xs ys : Array Value) :
    Meets (Builtin.«zip.__new__» ⟨[.type "zip", .ref l1, .ref l2], []⟩) (fun z9a R s => s.heap.IsTuple l1 xs ∧ s.heap.IsTuple l2 ys ∧
      R (.ok (.ret (.ref (zt4 s.heap l1 l2).objs.size))) { s with heap := zt5 s.heap l1 l2 }) :=
  .of_wp fun prog w A R s h => by
    obtain ⟨hp, g, d, tk, os⟩ := s; obtain ⟨hl1, hl2, h⟩ := h
    have hsub := sub_zip
    have hL1 : Heap.IsTuple (Shared.heap ⟨hp, g, d, tk, os⟩) l1 xs := hl1
    have hL2 : Heap.IsTuple (Shared.heap ⟨hp.push { cls := .type "tuple_iterator", data := .fields #[.ref l1, .int 0 0] }, g, d, tk, os⟩) l2 ys := Heap.IsTuple.push hl2 _
    wp_walk using wpAny_pyIter_tuple hL1, wpAny_pyIter_tuple hL2
    exact ⟨_, rfl, h⟩
theorem call_zipT {prog : Program} {w : World} {A : Around} {E : Value → Shared → Prop} {s : Shared} {l1 l2 : Addr} {xs ys : Array Value} {Q : Value → Shared → Prop} (hl1 : s.heap.IsTuple l1 xs) (hl2 : s.heap.IsTuple l2 ys)
    (h : ∀ h', IsZip h' (s.heap.objs.size + 4) (s.heap.objs.size + 2) (s.heap.objs.size + 3) .none → IsPair h' (s.heap.objs.size + 2) (.ref s.heap.objs.size) (.ref (s.heap.objs.size + 1)) →
      IsPair h' (s.heap.objs.size + 3) .none .none → h'.IsTupleIter s.heap.objs.size l1 0 → h'.IsTupleIter (s.heap.objs.size + 1) l2 0 →
      (∀ c o, s.heap.get? c = some o → h'.get? c = some o) → Q (.ref (s.heap.objs.size + 4)) { s with heap := h' }) :
    wpAny (model prog w) A (call (.type "zip") [.ref l1, .ref l2]) Q E s := by
  refine callType_new F.called_zip (by decide) (F.typeCall_zip_2 _ _) (F.newCall_zip_2 _ _) (fun obj => F.args_object_init_3 obj _ _) F.entry_zip_new (meets_zipT l1 l2 xs ys) ⟨hl1, hl2, ?_⟩
  have z1 : (zt1 s.heap l1).objs.size = s.heap.objs.size + 1 := Heap.size_push ..
  have z2 : (zt2 s.heap l1 l2).objs.size = s.heap.objs.size + 2 := by unfold zt2; rw [Heap.size_push, z1]
  have z3 : (zt3 s.heap l1 l2).objs.size = s.heap.objs.size + 3 := by unfold zt3; rw [Heap.size_push, z2]
  have z4 : (zt4 s.heap l1 l2).objs.size = s.heap.objs.size + 4 := by unfold zt4; rw [Heap.size_push, z3]
  have g5 : (zt5 s.heap l1 l2).get? (zt4 s.heap l1 l2).objs.size = some _ := Heap.get?_push_size _ rfl
  have g4 : (zt5 s.heap l1 l2).get? (zt3 s.heap l1 l2).objs.size = some _ := Heap.get?_push_of_some _ (Heap.get?_push_size _ rfl)
  have g3 : (zt5 s.heap l1 l2).get? (zt2 s.heap l1 l2).objs.size = some _ := Heap.get?_push_of_some _ (Heap.get?_push_of_some _ (Heap.get?_push_size _ rfl))
  have g2 : (zt5 s.heap l1 l2).get? (zt1 s.heap l1).objs.size = some _ := Heap.get?_push_of_some _ (Heap.get?_push_of_some _ (Heap.get?_push_of_some _ (Heap.get?_push_size _ rfl)))
  have g1 : (zt5 s.heap l1 l2).get? s.heap.objs.size = some _ := Heap.get?_push_of_some _ (Heap.get?_push_of_some _ (Heap.get?_push_of_some _ (Heap.get?_push_of_some _ (Heap.get?_push_size _ rfl))))
  show _ ∧ _
  rw [z2, z3, z4] at g5
  rw [z1, z2] at g3
  rw [z3] at g4
  rw [z1] at g2
  rw [z4]
  exact ⟨⟨_, g5, rfl⟩, h _ g5 g3 g4 ⟨_, g1, rfl, rfl⟩ ⟨_, g2, rfl, rfl⟩ fun c o x =>
    Heap.get?_push_of_some _ (Heap.get?_push_of_some _ (Heap.get?_push_of_some _ (Heap.get?_push_of_some _ (Heap.get?_push_of_some _ x))))⟩
end Mine
set_option tactic.hygienic false
namespace Mine
open PySem PySem.W PyProof.Rows PySem.Calls
section
mutual
theorem RepV.keepB {B : List Addr} {h h' : Heap} (k : ∀ a items, a ∉ B → h.IsTuple a items → h'.IsTuple a items) : ∀ {d : Val} {v : Value}, RepV B h d v → RepV B h' d v
  | .none, _, x => x
  | .bool _, _, x => x
  | .int _, _, x => x
  | .str _, _, x => x
  | .tup xs, _, x => by
    simp only [RepV] at x ⊢
    obtain ⟨a, vs, e, t, nb, r⟩ := x
    exact ⟨a, vs, e, k _ _ nb t, nb, RepVs.keepB k r⟩
  | .ref _, _, x => x
  | .blt _, _, x => x
  | .typ _, _, x => x
theorem RepVs.keepB {B : List Addr} {h h' : Heap} (k : ∀ a items, a ∉ B → h.IsTuple a items → h'.IsTuple a items) : ∀ {ds : List Val} {vs : List Value}, RepVs B h ds vs → RepVs B h' ds vs
  | [], _, x => x
  | d :: ds, _, x => by
    simp only [RepVs] at x ⊢
    obtain ⟨v, ws, e, r, rs⟩ := x
    exact ⟨v, ws, e, RepV.keepB k r, RepVs.keepB k rs⟩
end
theorem RepKV.keepB {B : List Addr} {h h' : Heap} {K : Type} (k : ∀ a items, a ∉ B → h.IsTuple a items → h'.IsTuple a items) {ds : List (K × Val)} {vs} (x : RepKV B h ds vs) : RepKV B h' ds vs := by
  induction x with
  | nil => exact .nil
  | cons a _ ih => exact .cons (a.keepB k) ih
theorem RepO.keepB {prog w B h h' a} (k : ∀ a items, a ∉ B → h.IsTuple a items → h'.IsTuple a items) (ka : ∀ o, h.get? a = some o → h'.get? a = some o) {o : MObj} (x : RepO prog w B h a o) : RepO prog w B h' a o := by
  cases o with
  | list xs => obtain ⟨vs, ⟨n, ho⟩, rs⟩ := x; exact ⟨vs, ⟨n, ka _ ho⟩, rs.keepB k⟩
  | idict kvs => obtain ⟨ws, ⟨o, es, ep, ho, r⟩, rs⟩ := x; exact ⟨ws, ⟨o, es, ep, ka _ ho, r⟩, rs.keepB k⟩
  | sdict kvs => obtain ⟨ws, ⟨o, es, ep, ho, r⟩, rs⟩ := x; exact ⟨ws, ⟨o, es, ep, ka _ ho, r⟩, rs.keepB k⟩
  | inst C d => obtain ⟨sl, ho⟩ := x; exact ⟨sl, ka _ ho⟩
  | iset ks => obtain ⟨tk, ep, ho⟩ := x; exact ⟨tk, ep, ka _ ho⟩
theorem RepKV.away {B B' : List Addr} {h : Heap} {K : Type} (k : ∀ a ∈ B', a ∈ B ∨ h.get? a = none) {ds : List (K × Val)} {vs} (x : RepKV B h ds vs) : RepKV B' h ds vs := by
  induction x with
  | nil => exact .nil
  | cons a _ ih => exact .cons (a.away k) ih
theorem RepO.away {prog w B B' h a} (k : ∀ a ∈ B', a ∈ B ∨ h.get? a = none) : ∀ {o : MObj}, RepO prog w B h a o → RepO prog w B' h a o
  | .list xs, ⟨vs, ho, rs⟩ => ⟨vs, ho, rs.away k⟩
  | .idict kvs, ⟨ws, ho, rs⟩ => ⟨ws, ho, rs.away k⟩
  | .sdict kvs, ⟨ws, ho, rs⟩ => ⟨ws, ho, rs.away k⟩
  | .inst C d, ⟨sl, ho⟩ => ⟨sl, ho⟩
  | .iset ks, ⟨tk, ep, ho⟩ => ⟨tk, ep, ho⟩
theorem RepF.away {B B' : List Addr} {h : Heap} (k : ∀ a ∈ B', a ∈ B ∨ h.get? a = none) {o : Out} {f : Flow} (x : RepF B h o f) : RepF B' h o f := by
  cases o with
  | ret d => simp only [RepF] at x ⊢; obtain ⟨v, e, r⟩ := x; exact ⟨v, e, r.away k⟩
  | _ => exact x
variable {C : Cx} {base : Heap} {ρ : Vars} {σ : Store} {s : Shared}
noncomputable def Cx.wb (C : Cx) (t : Addr) : Cx := { C with bad := t :: C.bad }
theorem Cx.wb_ok {t : Addr} (h : C.Ok) : (C.wb t).Ok := ⟨h.depth, h.units, h.calm, h.kind, h.globals, h.builtins, h.kin, h.hasf, h.nolimit, h.apart, h.stack⟩
/-- all stands also without one written tuple -/
theorem St.rebad {C' : Cx} (H : St C base ρ σ s) (e1 : C'.prog = C.prog) (e2 : C'.w = C.w) (e3 : C'.env = C.env) (e4 : C'.h₁ = C.h₁) (e5 : C'.os = C.os) (e6 : C'.frs = C.frs) (ok : C'.Ok)
    (k : ∀ a ∈ C'.bad, a ∈ C.bad ∨ s.heap.get? a = none) (hb : ∀ a ∈ C'.bad, C.h₁.get? a = none ∧ ∃ items, s.heap.IsTuple a items) : St C' base ρ σ s := by
  refine ⟨ok, H.gens, by rw [e5]; exact H.os, by rw [e4]; exact H.b1, H.b2, ?_, ?_, by rw [e3]; exact H.allcells, by rw [e4]; exact hb, by rw [e3]; exact H.own, by rw [e3]; exact H.ownc, by rw [e6, e3]; exact H.frs, ?_⟩
  · rw [e3]
    obtain ⟨m, hn, y⟩ := H.ns
    exact ⟨m, hn, fun x v e l => let ⟨u, h1, h2⟩ := y x v e l; ⟨u, h1, h2.away k⟩⟩
  · rw [e3]
    intro x c e
    obtain ⟨u, h1, h2⟩ := H.cells x c e
    exact ⟨u, h1, fun v hv hk => let ⟨u', e1, r⟩ := h2 v hv hk; ⟨u', e1, r.away k⟩⟩
  · rw [e1, e2, e3, e6]
    intro a o e
    obtain ⟨h1, h2⟩ := H.store a o e
    exact ⟨h1.away k, h2⟩
theorem St.outBad {t : Addr} (H : St (C.wb t) base ρ σ s) (ok : C.Ok) : St C base ρ σ s :=
  H.rebad rfl rfl rfl rfl rfl rfl ok (fun a ha => .inl (List.mem_cons_of_mem _ ha)) fun a ha => H.bad a (List.mem_cons_of_mem _ ha)
/-- some places of the run's own change: records, and written tuples -/
theorem St.change (H : St C base ρ σ s) {h' : Heap} {D : Addr → Prop} (hk : ∀ b o, ¬ D b → s.heap.get? b = some o → h'.get? b = some o)
    (hD : ∀ b, D b → base.get? b = none ∧ ((∃ o vs, s.heap.get? b = some o ∧ o.data = .fields vs ∧ o.cls ≠ .type "tuple") ∨ (b ∈ C.bad ∧ (∃ items, s.heap.IsTuple b items) ∧ ∃ items, h'.IsTuple b items))) : St C base ρ σ { s with heap := h' } := by
  have nl : ∀ b, C.Loose σ b → ¬ D b := fun b hl hb => by
    obtain ⟨_, ⟨o, vs, ho, hd, _⟩ | ⟨_, ⟨items, t⟩, _⟩⟩ := hD b hb
    · exact H.fieldsLoose ho hd hl
    · exact H.notTuple hl t
  have nc : ∀ b u, s.heap.IsCell b u → ¬ D b := fun b u hc hb => by
    obtain ⟨_, ⟨o, vs, ho, hd, _⟩ | ⟨_, ⟨items, t⟩, _⟩⟩ := hD b hb
    · obtain ⟨o', ho', hd'⟩ := hc; rw [ho] at ho'; cases ho'; rw [hd] at hd'; cases hd'
    · exact IsCell.notTuple hc t
  have tk : ∀ a items, a ∉ C.bad → s.heap.IsTuple a items → h'.IsTuple a items := fun a items hb t => by
    have hd : ¬ D a := fun q => by
      obtain ⟨_, ⟨o, vs, ho, _, hc⟩ | ⟨h1, _⟩⟩ := hD a q
      · obtain ⟨o', ho', hc', _⟩ := t; rw [ho] at ho'; cases ho'; exact hc hc'
      · exact hb h1
    obtain ⟨o, ho, r⟩ := t
    exact ⟨o, hk a o hd ho, r⟩
  refine ⟨H.ok, H.gens, H.os, H.b1, fun b o e => hk b o (fun q => by rw [(hD b q).1] at e; cases e) (H.b2 b o e), ?_, ?_, H.allcells, ?_, H.own, H.ownc, ?_, ?_⟩
  · obtain ⟨m, ⟨o, es, ep, ho, r⟩, y⟩ := H.ns
    exact ⟨m, ⟨o, es, ep, hk _ o (nl _ (.inr (.inl rfl))) ho, r⟩, fun x v e l => let ⟨u, h1, h2⟩ := y x v e l; ⟨u, h1, h2.keepB tk⟩⟩
  · intro x c e
    obtain ⟨u, h1, h2⟩ := H.cells x c e
    have hn := nc c u h1
    obtain ⟨oc, hoc, hdc⟩ := h1
    exact ⟨u, ⟨oc, hk c oc hn hoc, hdc⟩, fun v hv hk' => let ⟨u', e1, r⟩ := h2 v hv hk'; ⟨u', e1, r.keepB tk⟩⟩
  · intro a ha
    obtain ⟨h1, items, t⟩ := H.bad a ha
    refine ⟨h1, ?_⟩
    by_cases q : D a
    · obtain ⟨_, ⟨o, vs, ho, _, hc⟩ | ⟨_, _, h2⟩⟩ := hD a q
      · obtain ⟨o', ho', hc', _⟩ := t; rw [ho] at ho'; cases ho'; exact absurd hc' hc
      · exact h2
    · obtain ⟨o, ho, r⟩ := t
      exact ⟨items, o, hk a o q ho, r⟩
  · intro p hp
    obtain ⟨⟨sl, h1⟩, h2⟩ := H.frs p hp
    exact ⟨⟨sl, hk _ _ (nl _ (.inr (.inr (.inl ⟨p, hp, rfl⟩)))) h1⟩, h2⟩
  · intro b ob e
    obtain ⟨h1, h2⟩ := H.store b ob e
    exact ⟨h1.keepB tk fun o ho => hk _ _ (nl _ (.inl ⟨ob, e⟩)) ho, h2⟩
/-- a zip of two tuples at place i -/
structure ZT (C : Cx) (base h : Heap) (z TI TO i1 i2 t1 t2 : Addr) (xs ys : List Val) (i : Nat) : Prop where
  D : ZipApart z TI TO i1 i2 t1 t2
  hz : IsZip h z TI TO .none
  hTI : IsPair h TI (.ref i1) (.ref i2)
  hTO : ∃ a b, IsPair h TO a b
  h1 : h.IsTupleIter i1 t1 i
  h2 : h.IsTupleIter i2 t2 i
  r1 : ∃ vs, h.IsTuple t1 (List.toArray vs) ∧ RepVs C.bad h xs vs
  r2 : ∃ vs, h.IsTuple t2 (List.toArray vs) ∧ RepVs C.bad h ys vs
  b1 : base.get? z = none ∧ base.get? TO = none ∧ base.get? i1 = none ∧ base.get? i2 = none
  bd : TO ∈ C.bad
theorem ZT.pers {z TI TO i1 i2 t1 t2 xs ys i} {s' : Shared} (Z : ZT C base s.heap z TI TO i1 i2 t1 t2 xs ys i) (H : St C base ρ σ s) (P : Pers C σ s s') : ZT C base s'.heap z TI TO i1 i2 t1 t2 xs ys i := by
  obtain ⟨D, hz, hTI, ⟨a, b, hTO⟩, ⟨o1, g1, c1, d1⟩, ⟨o2, g2, c2, d2⟩, ⟨vs, u1, v1⟩, ⟨ws, u2, v2⟩, b1, bd⟩ := Z
  exact ⟨D, P.keep _ _ hz (H.fieldsLoose hz rfl), P.keep _ _ hTI fun q => H.notTuple q ⟨_, hTI, rfl, _, rfl⟩, ⟨a, b, P.keep _ _ hTO fun q => H.notTuple q ⟨_, hTO, rfl, _, rfl⟩⟩, ⟨o1, P.keep _ _ g1 (H.fieldsLoose g1 d1), c1, d1⟩, ⟨o2, P.keep _ _ g2 (H.fieldsLoose g2 d2), c2, d2⟩, ⟨vs, P.tup _ _ u1, P.reps v1⟩, ⟨ws, P.tup _ _ u2, P.reps v2⟩, b1, bd⟩
end
end Mine
set_option tactic.hygienic false
namespace Mine
open PySem PySem.W PyProof.Rows PySem.Calls
section
variable {C : Cx} {base : Heap} {ρ : Vars} {σ : Store} {s : Shared}
theorem St.inBad {t : Addr} {h' : Heap} (H : St C base ρ σ s) (kp : ∀ b o, s.heap.get? b = some o → h'.get? b = some o) (hn : s.heap.get? t = none) (ht : ∃ items, h'.IsTuple t items) : St (C.wb t) base ρ σ { s with heap := h' } := by
  have k : ∀ a ∈ (C.wb t).bad, a ∈ C.bad ∨ s.heap.get? a = none := fun a ha => by
    rcases List.mem_cons.mp ha with rfl | ha
    · exact .inr hn
    · exact .inl ha
  have tk : TupKeep s.heap h' := .of_keeps kp
  have hn1 : C.h₁.get? t = none := by
    cases q : C.h₁.get? t with
    | none => rfl
    | some o => rw [H.b2 _ _ (H.b1 _ _ q)] at hn; cases hn
  have G := H.grow (t := s.toks) kp
  refine ⟨Cx.wb_ok H.ok, H.gens, H.os, H.b1, G.b2, ?_, ?_, H.allcells, fun a ha => ?_, H.own, H.ownc, G.frs, ?_⟩
  · obtain ⟨m, hn, y⟩ := H.ns
    exact ⟨m, hn.keeps kp, fun x v e l => let ⟨u, h1, h2⟩ := y x v e l; ⟨u, h1, (h2.away k).keep tk⟩⟩
  · intro x c e
    obtain ⟨u, h1, h2⟩ := H.cells x c e
    exact ⟨u, h1.keeps kp, fun v hv hk => let ⟨u', e1, r⟩ := h2 v hv hk; ⟨u', e1, (r.away k).keep tk⟩⟩
  · rcases List.mem_cons.mp ha with rfl | ha
    · exact ⟨hn1, ht⟩
    · exact G.bad a ha
  · intro a o e
    obtain ⟨h1, h2⟩ := H.store a o e
    exact ⟨(h1.away k).keep tk (kp _), h2⟩
theorem ZT.item {z TI TO i1 i2 t1 t2 : Addr} {xs ys : List Val} {i : Nat} {u v : Val} {elts : List Expr} {k : Nat} {pos : Pos} {Q : Option Value → Shared → Prop} {E : Value → Shared → Prop} (Z : ZT C base s.heap z TI TO i1 i2 t1 t2 xs ys i) (H : St C base ρ σ s) (hx : xs[i]? = some u) (hy : ys[i]? = some v)
    (h : ∀ T s₁, (∀ (E' : Value → Shared → Prop) (Q' : Unit → Shared → Prop), (∀ s₂, St C base ρ σ s₂ → RepV C.bad s₂.heap (.tup [u, v]) (.ref T) → ZT C base s₂.heap z TI TO i1 i2 t1 t2 xs ys (i + 1) → Q' () s₂) → wpAny C.M C.A (letOwnedTupleGo (.Tuple elts k pos) (.ref z) (.ref T)) Q' E' s₁) → Q (some (.ref T)) s₁) :
    wpAny C.M C.A (pyNext (.ref z)) Q E s := by
  obtain ⟨D, hz, hTI, ⟨a, b, hTO⟩, h1, h2, ⟨vs, u1, v1⟩, ⟨ws, u2, v2⟩, ⟨b1, b2, b3, b4⟩, bd⟩ := Z
  obtain ⟨x, gx, rx⟩ := v1.get hx
  obtain ⟨y, gy, ry⟩ := v2.get hy
  obtain ⟨o1, g1, c1, d1⟩ := id h1
  obtain ⟨o2, g2, c2, d2⟩ := id h2
  refine next_zipT D hz hTI hTO h1 h2 u1 u2 (x := x) (y := y) (by simpa using gx) (by simpa using gy) fun h' a1 a2 a3 a4 a5 hk => h _ _ fun E' Q' hq => wpAny_letOwnedTupleGo_zip a1 fun h'' hz'' hs'' => ?_
  have kk : ∀ c o, ¬ (c = z ∨ c = TO ∨ c = i1 ∨ c = i2) → s.heap.get? c = some o → h''.get? c = some o := fun c o hc e => by
    simp only [not_or] at hc
    exact hs''.extBut _ _ hc.1 (hk c o hc.1 hc.2.1 hc.2.2.1 hc.2.2.2 e)
  have hTO'' : IsPair h'' TO x y := hs''.extBut _ _ D.TOz a2
  have hlt : ∀ {c o}, s.heap.get? c = some o → s.heap.objs.size ≠ c := fun e => Nat.ne_of_gt (Heap.lt_size e)
  have hT'' : IsPair h'' s.heap.objs.size x y := hs''.extBut _ _ (hlt hz) a5
  have tk : ∀ a items, a ∉ C.bad → s.heap.IsTuple a items → h''.IsTuple a items := fun a items hb ⟨o, ho, hc, r⟩ => by
    refine ⟨o, kk a o (fun q => ?_) ho, hc, r⟩
    rcases q with rfl | rfl | rfl | rfl
    · rw [hz] at ho; cases ho; simp at hc
    · exact hb bd
    · rw [g1] at ho; cases ho; rw [c1] at hc; simp at hc
    · rw [g2] at ho; cases ho; rw [c2] at hc; simp at hc
  refine hq _ (H.change (D := fun c => c = z ∨ c = TO ∨ c = i1 ∨ c = i2) kk fun c hc => ?_) ?_ ⟨D, hz'', hs''.extBut _ _ D.TIz (hk _ _ D.TIz D.TITO D.TIi1 D.TIi2 hTI), ⟨x, y, hTO''⟩, a3.extBut hs''.extBut D.i1z, a4.extBut hs''.extBut D.i2z, ?_, ?_, ⟨b1, b2, b3, b4⟩, bd⟩
  · rcases hc with rfl | rfl | rfl | rfl
    · exact ⟨b1, .inl ⟨_, _, hz, rfl, by show Value.type "zip" ≠ _; decide⟩⟩
    · exact ⟨b2, .inr ⟨bd, ⟨_, _, hTO, rfl, _, rfl⟩, _, _, hTO'', rfl, _, rfl⟩⟩
    · exact ⟨b3, .inl ⟨_, _, g1, d1, by rw [c1]; decide⟩⟩
    · exact ⟨b4, .inl ⟨_, _, g2, d2, by rw [c2]; decide⟩⟩
  · simp only [RepV]
    exact ⟨_, [x, y], rfl, ⟨_, hT'', rfl, _, rfl⟩, H.notBad (Heap.get?_none_of_le (Nat.le_refl _)), RepVs.cons (rx.keepB tk) (RepVs.cons (ry.keepB tk) RepVs.nil)⟩
  · exact ⟨vs, Heap.IsTuple.at2 u1 fun o e => kk _ o (by simp only [not_or]; exact ⟨D.l1z, D.l1TO, D.l1i1, D.l1i2⟩) e, v1.keepB tk⟩
  · exact ⟨ws, Heap.IsTuple.at2 u2 fun o e => kk _ o (by simp only [not_or]; exact ⟨D.l2z, D.l2TO, D.l2i1, D.l2i2⟩) e, v2.keepB tk⟩
theorem ZT.done {z TI TO i1 i2 t1 t2 : Addr} {xs ys : List Val} {i : Nat} {Q : Option Value → Shared → Prop} {E : Value → Shared → Prop} (Z : ZT C base s.heap z TI TO i1 i2 t1 t2 xs ys i) (H : St C base ρ σ s) (hq : C.quiet = true) (hx : xs[i]? = none)
    (h : ∀ s', St C base ρ σ s' → Q none s') : wpAny C.M C.A (pyNext (.ref z)) Q E s := by
  obtain ⟨D, hz, hTI, ⟨a, b, hTO⟩, h1, h2, ⟨vs, u1, v1⟩, ⟨ws, u2, v2⟩, ⟨b1, b2, b3, b4⟩, bd⟩ := Z
  obtain ⟨o1, g1, c1, d1⟩ := id h1
  have hlen := v1.length
  refine next_zipT_end (H.ok.calm hq) D hz hTI hTO h1 u1 (by have := List.getElem?_eq_none_iff.mp hx; simp; lia) fun h' hk => h _ (H.change (D := fun c => c = z ∨ c = i1) (fun c o hc e => ?_) fun c hc => ?_)
  · simp only [not_or] at hc; exact hk c o hc.1 hc.2 e
  · rcases hc with rfl | rfl
    · exact ⟨b1, .inl ⟨_, _, hz, rfl, by show Value.type "zip" ≠ _; decide⟩⟩
    · exact ⟨b3, .inl ⟨_, _, g1, d1, by rw [c1]; decide⟩⟩
theorem Xp.elim4 {e : Value} {P : Prop} (x : Xp C base noX e s) : P := by
  obtain ⟨c, ρ', σ', x, H, q⟩ := x
  exact q.elim
theorem Ex1.forZip {Q : Out → Vars → Store → Prop} {elts args : List Expr} {k : Nat} {tp p pos fpos : Pos} {body : List Stmt} (hq : C.quiet = true)
    (h : Ev C ρ σ (.Name "zip" p) (fun d σ₁ => d = .typ "zip" ∧ Evs C ρ σ₁ args (fun ds σ₂ => ∃ xs ys, ds = [.tup xs, .tup ys] ∧ xs.length = ys.length ∧ ∃ J : Nat → Vars → Store → Prop, J 0 ρ σ₂ ∧
      (∀ t i u v ρ₂ σ₃, xs[i]? = some u → ys[i]? = some v → J i ρ₂ σ₃ → As (C.wb t) ρ₂ σ₃ (.Tuple elts k tp) (.tup [u, v]) (fun ρ₃ σ₄ => Ex (C.wb t) ρ₃ σ₄ body (fun o ρ₄ σ₅ => match o with
        | .next => J (i + 1) ρ₄ σ₅ | .cont => J (i + 1) ρ₄ σ₅ | .brk => Q .next ρ₄ σ₅ | .ret v => Q (.ret v) ρ₄ σ₅) noX) noX) ∧
      (∀ ρ₂ σ₃, J xs.length ρ₂ σ₃ → Q .next ρ₂ σ₃)) noX) noX)
    (he : ∀ e ∈ args, ∀ r, starEach (e :: r) C.env = (false, eval e C.env) :: starEach r C.env)
    (hs : ∀ x, foldedSetIterable (.Call (.Name "zip" p) args [] pos) C.env x = pure x := by intro _; rfl) : Ex1 C ρ σ (.For (.Tuple elts k tp) (.Call (.Name "zip" p) args [] pos) body [] fpos) Q noX :=
  Ex1.intro fun base s H => by
    refine wpAny_For ?_ hs
    refine iterCall H (L := fun u ds σ₂ => u = .type "zip" ∧ ∃ xs ys, ds = [.tup xs, .tup ys] ∧ xs.length = ys.length ∧ ∃ J : Nat → Vars → Store → Prop, J 0 ρ σ₂ ∧
      (∀ t i u v ρ₂ σ₃, xs[i]? = some u → ys[i]? = some v → J i ρ₂ σ₃ → As (C.wb t) ρ₂ σ₃ (.Tuple elts k tp) (.tup [u, v]) (fun ρ₃ σ₄ => Ex (C.wb t) ρ₃ σ₄ body (fun o ρ₄ σ₅ => match o with
        | .next => J (i + 1) ρ₄ σ₅ | .cont => J (i + 1) ρ₄ σ₅ | .brk => Q .next ρ₄ σ₅ | .ret v => Q (.ret v) ρ₄ σ₅) noX) noX) ∧
      (∀ ρ₂ σ₃, J xs.length ρ₂ σ₃ → Q .next ρ₂ σ₃)) (h.mono fun d σ₁ ⟨hd, ha⟩ => ⟨_, hd ▸ Fixed.typ _, Keeps.type, fun ps => Tp.mono (ha ps) (fun _ _ _ _ ⟨e, ds, r, hds⟩ => ⟨e, ds, r, rfl, hds⟩) fun z9a z9b z9c x => x⟩) he fun u vs ds σ₁ s₁ H₁ r₁ hL => ?_
    obtain ⟨rfl, xs, ys, rfl, hlen, J, hJ, hstep, hend⟩ := hL
    simp only [RepVs, RepV] at r₁
    obtain ⟨_, _, rfl, ⟨t1, us, rfl, ht1, nb1, ru⟩, _, _, rfl, ⟨t2, ws, rfl, ht2, nb2, rw'⟩, rfl⟩ := r₁
    have l1 : t1 < s₁.heap.objs.size := by obtain ⟨_, e, _⟩ := ht1; exact Heap.lt_size e
    have l2 : t2 < s₁.heap.objs.size := by obtain ⟨_, e, _⟩ := ht2; exact Heap.lt_size e
    have fr : ∀ j, s₁.heap.get? (s₁.heap.objs.size + j) = none := fun j => Heap.get?_none_of_le (Nat.le_add_right _ _)
    have fb : ∀ j, base.get? (s₁.heap.objs.size + j) = none := fun j => (H₁.newAddr (fr j)).1
    refine call_zipT ht1 ht2 fun h' z1 z2 z3 z4 z5 kp => wpAny_pyIter_zip z1 ?_
    have HB : St (C.wb (s₁.heap.objs.size + 3)) base ρ σ₁ { s₁ with heap := h' } := H₁.inBad kp (fr 3) ⟨_, _, z3, rfl, _, rfl⟩
    have aw : ∀ a ∈ (C.wb (s₁.heap.objs.size + 3)).bad, a ∈ C.bad ∨ s₁.heap.get? a = none := fun a ha => by
      rcases List.mem_cons.mp ha with rfl | ha
      · exact .inr (fr 3)
      · exact .inl ha
    have Z0 : ZT (C.wb (s₁.heap.objs.size + 3)) base h' (s₁.heap.objs.size + 4) (s₁.heap.objs.size + 2) (s₁.heap.objs.size + 3) s₁.heap.objs.size (s₁.heap.objs.size + 1) t1 t2 xs ys 0 :=
      ⟨zipApart_new l1 l2, z1, z2, ⟨_, _, z3⟩, z4, z5, ⟨us, (TupKeep.of_keeps kp) _ _ ht1, (ru.away aw).keep (.of_keeps kp)⟩, ⟨ws, (TupKeep.of_keeps kp) _ _ ht2, (rw'.away aw).keep (.of_keeps kp)⟩, ⟨fb 4, fb 3, fb 0, fb 1⟩, List.mem_cons_self⟩
    have hOk := H.ok
    generalize s₁.heap.objs.size + 3 = TO at HB Z0
    generalize s₁.heap.objs.size + 4 = z at Z0 ⊢
    generalize s₁.heap.objs.size + 2 = TI at Z0
    generalize s₁.heap.objs.size + 1 = i2 at Z0
    generalize s₁.heap.objs.size = i1 at Z0
    refine codeAny_forLoop_any (fun n s' => ∃ i ρ₂ σ₂, n = xs.length + 1 - i ∧ i ≤ xs.length ∧ St (C.wb TO) base ρ₂ σ₂ s' ∧ ZT (C.wb TO) base s'.heap z TI TO i1 i2 t1 t2 xs ys i ∧ J i ρ₂ σ₂) ?_ (xs.length + 1) ⟨0, ρ, σ₁, rfl, Nat.zero_le _, HB, Z0, hJ⟩
    rintro n s' ⟨i, ρ₂, σ₂, rfl, hi, H₂, Z₂, J₂⟩
    cases hx : xs[i]? with
    | none =>
      have hi' : i = xs.length := by have := List.getElem?_eq_none_iff.mp hx; lia
      subst hi'
      exact Z₂.done H₂ hq hx fun s₃ H₃ => wpAny_execs_nil ⟨.next, ρ₂, σ₂, H₃.outBad hOk, by simp [RepF], hend _ _ J₂⟩
    | some x =>
      have hi' : i < xs.length := (List.getElem?_eq_some_iff.mp hx).1
      obtain ⟨y, hy⟩ : ∃ y, ys[i]? = some y := ⟨_, List.getElem?_eq_getElem (by lia)⟩
      refine Z₂.item H₂ hx hy fun T s₃ hgo => hgo _ _ fun s₄ H₄ r₄ Z₄ => ?_
      refine (hstep TO i x y ρ₂ σ₂ hx hy J₂).run H₄ r₄ (fun ρ₄ σ₄ s₄' H₅ P₅ hb => ?_) fun e s' x => x.elim4
      have Z₅ := Z₄.pers H₄ P₅
      refine hb.run H₅ (fun f o ρ₅ σ₅ s₅ H₆ P₆ rf q => ?_) fun e s' x => x.elim4
      have Z₆ := Z₅.pers H₅ P₆
      cases o with
      | next => simp only [RepF] at rf; subst rf; exact ⟨xs.length + 1 - (i + 1), turn_lt hi', i + 1, ρ₅, σ₅, rfl, hi', H₆, Z₆, q⟩
      | cont => simp only [RepF] at rf; subst rf; exact ⟨xs.length + 1 - (i + 1), turn_lt hi', i + 1, ρ₅, σ₅, rfl, hi', H₆, Z₆, q⟩
      | brk => simp only [RepF] at rf; subst rf; exact ⟨.next, ρ₅, σ₅, H₆.outBad hOk, by simp [RepF], q⟩
      | ret d => have rf0 := rf; simp only [RepF] at rf; obtain ⟨u, rfl, r'⟩ := rf; exact ⟨.ret d, ρ₅, σ₅, H₆.outBad hOk, RepF.away (fun a ha => .inl (List.mem_cons_of_mem _ ha)) rf0, q⟩
end
end Mine
set_option tactic.hygienic false
namespace Mine
open PySem PySem.W PyProof.Rows PySem.Calls
set_option maxRecDepth 100000
theorem left_of {p q : Program} {loose : List Str} {Xt : Shared → Bool} {α : Type} {Yf : Shared → α} {Ya : World → α} {N : Nat} {g0 : Bool} {H₀ : Params → Heap} {gs₀ : Array GenState} {d₀ : Drawn} {k₀ : Nat} {m₀ : Nat} {ann : Option Value} {M : Nat}
    (open_ : ∀ w : World, (fencedOpening treeTable p w N).map (fun s => (s.heap, s.gens, s.drawn, s.toks)) = some (H₀ w.params, gs₀, d₀, k₀))
    (size : ∀ w : World, ((H₀ w.params).isNs mainGlobals && gs₀.size == 0, (H₀ w.params).objs.size, (H₀ w.params).nsMap mainGlobals "__annotations__") = (true, m₀, ann)) (le : Nat.ble M N = true)
    (run : ∀ (w : World) (os : OsState), (topRun treeTable p w m₀ ann M ⟨H₀ w.params, gs₀, d₀, k₀, os⟩ (topStub p)).map (fun s => (staticsOk (importedModules p.main.body) (H₀ w.params) s.heap && namesBound p s.heap && gensDone s && laidKept (H₀ w.params) s.heap,
      openSeen q loose (importedModules p.main.body) Xt g0 s, Yf s)) = some (true, openGood q loose, Ya w)) : LeftO p q loose Xt Yf Ya N g0 := fun w => by
  obtain ⟨⟨h, gs, d, k, os⟩, e, e'⟩ := Option.map_eq_some_iff.mp (open_ w)
  obtain ⟨rfl, rfl, rfl, rfl⟩ : h = H₀ w.params ∧ gs = gs₀ ∧ d = d₀ ∧ k = k₀ := by simpa using e'
  obtain ⟨z1, z2, z3⟩ : _ ∧ _ ∧ _ := by simpa only [Prod.mk.injEq] using size w
  obtain ⟨s₁, r, l⟩ := Option.map_eq_some_iff.mp (run w os)
  obtain ⟨l1, l2, l3⟩ : _ ∧ _ ∧ _ := by simpa only [Prod.mk.injEq] using l
  have r := topRun_mono (N - M) _ _ _ _ r
  rw [show M + (N - M) = N by have := Nat.le_of_ble_eq_true le; lia] at r
  have t : topFrom treeTable p w N ⟨H₀ w.params, gs, d, k, os⟩ = some s₁ := by
    unfold topFrom
    dsimp only
    rw [z1, z2, z3, r]
    show (match staticsOk (importedModules p.main.body) (H₀ w.params) s₁.heap && namesBound p s₁.heap && gensDone s₁ && laidKept (H₀ w.params) s₁.heap with | true => _ | false => _) = _
    rw [l1]
  unfold openEnds
  rw [e]
  show (topFrom treeTable p w N _).map _ = _
  rw [t]
  exact congrArg some (Prod.ext l2 l3)
/-- the objects behind the top that the walk looks at -/
noncomputable def topAt (i : Nat) : Option Stmt := PySem.Challenge.pw_no0006_01.main.body[i]?
noncomputable def methAt (i j : Nat) : Option Stmt := match topAt i with
  | some (.ClassDef _ _ _ b _ _ _ _ _ _ _) => b[j]?
  | _ => none
noncomputable def funO (s : Option Stmt) (qual : Str) (m : Value) (code : Addr) (cl : List (Str × Addr) := []) (ct : Value := .none) : Obj := match s with
  | some (.FunctionDef name args body _ _ _ scope _ _ _) => { cls := .type "function", data := .func { name, qualname := qual, params := args, body := .stmts body, scope, globals := 3, closure := cl, defaults := .none, kwdefaults := .none, pyModule := m, code := .ref code, closureTuple := ct } }
  | _ => { cls := .none, data := .plain }
noncomputable def tupO (vs : List Value) : Obj := { cls := .type "tuple", data := .seq vs.toArray }
noncomputable def codO (vs : List Value) : Obj := { cls := .type "code", data := .fields vs.toArray }
noncomputable def kE (P : Params) (k : Str) (t : Tok) (v : Value) : DictEntry := { hash := PyData.keyHash P k, key := .str k t, val := v }
noncomputable def dicO (c : Value) (es : List DictEntry) (n : Nat) : Obj := { cls := c, data := .dict es.toArray n }
noncomputable def hd.heap_39 (P : Params) : Frag := [
(2, dicO .none [kE P "type.__subclasses__.Exception.0" 223 (.int 40 0), kE P "type.__subclasses__.Exception.n" 224 (.int 1 0)] 2),
  (3, dicO (.type "dict") [kE P "__name__" 165 (.str "law_no0006_01" 464), kE P "__doc__" 166 .none, kE P "__package__" 167 .none, kE P "__loader__" 168 (.builtin "__main__.__loader__#opaque"), kE P "__spec__" 169 .none, kE P "__annotations__" 170 (.ref 6), kE P "__builtins__" 171 (.ref 4), kE P "__file__" 173 (.str "/claim/cut.py" 172), kE P "__cached__" 174 .none, kE P "SmtError" 226 (.ref 40), kE P "ProofFault" 261 (.ref 69), kE P "RULES" 275 (.ref 72), kE P "order_of" 282 (.ref 79), kE P "tidy" 291 (.ref 86), kE P "is_tidy" 299 (.ref 93), kE P "resolve_on" 305 (.ref 98), kE P "Steps" 401 (.ref 169), kE P "Proof" 463 (.ref 219), kE P "_law_dip" 474 (.ref 228), kE P "_law_ordered" 480 (.ref 233), kE P "_law_clashing" 486 (.ref 238), kE P "_law_is_refused" 497 (.ref 245), kE P "_law_pairs" 503 (.ref 250), kE P "_law_chained" 509 (.ref 255), kE P "_law_under" 515 (.ref 260), kE P "_law_holds" 521 (.ref 265), kE P "_law_follows" 527 (.ref 270), kE P "_law_is_trimmed" 533 (.ref 275), kE P "law" 539 (.ref 280)] 29),
  (15, tupO [.type "Exception"]),
  (18, { cls := .type "cell", data := .cell (some (.ref 40)) }),
  (23, tupO [.ref 18]),
  (24, tupO [.str "__class__" 204]),
  (26, tupO [.str "self" 205, .str "what" 206]),
  (27, tupO []),
  (29, codO [.str "__init__" 201, .str "SmtError.__init__" 202, .str "/claim/cut.py" 203, .int 4 0, .int 2 0, .int 0 0, .int 0 0, .int 3 0, .ref 24, .bool true, .int 181 0, .ref 25, .none, .ref 26, .ref 27, .ref 28, .int 207 0, .int 4 0, .str "/claim/cut.py" 208]),
  (30, funO (methAt 1 0) "SmtError.__init__" (.str "minismt.errors" 187) 29 [("__class__", 18)] (.ref 23)),
  (31, tupO []),
  (33, tupO [.str "self" 213]),
  (34, tupO []),
  (36, codO [.str "told" 210, .str "SmtError.told" 211, .str "/claim/cut.py" 212, .int 8 0, .int 1 0, .int 0 0, .int 0 0, .int 3 0, .ref 31, .bool true, .int 181 0, .ref 32, .none, .ref 33, .ref 34, .ref 35, .int 214 0, .int 8 0, .str "/claim/cut.py" 215]),
  (37, funO (methAt 1 1) "SmtError.told" (.str "minismt.errors" 187) 36),
  (38, tupO [.str "what" 217]),
  (39, dicO (.type "dict") [kE P "__module__" 196 (.str "minismt.errors" 187), kE P "__firstlineno__" 200 (.int 2 199), kE P "__init__" 209 (.ref 30), kE P "told" 216 (.ref 37), kE P "__static_attributes__" 218 (.ref 38), kE P "__weakref__" 221 (.ref 41), kE P "__doc__" 222 .none] 4),
  (40, { cls := .type "type", data := .cls { name := "SmtError", bases := [.type "Exception"], mro := [.ref 40, .type "Exception", .type "BaseException", .type "object"], ns := 39, qualname := "SmtError", subclasses := [.ref 69] }, slots := #[some (.ref 15), none, some (.str "SmtError" 189), some (.str "SmtError" 197), some (.builtin "Exception.__new__"), some (.bool true)] }),
  (41, { cls := .type "getset_descriptor", data := .fields #[.str "__weakref__" 220, .ref 40, .builtin "ExceptionGroup.__weakref__", .none] }),
  (44, tupO [.ref 40]),
  (47, { cls := .type "cell", data := .cell (some (.ref 69)) }),
  (52, tupO [.ref 47]),
  (53, tupO [.str "__class__" 242]),
  (55, tupO [.str "self" 243, .str "what" 244, .str "step" 245]),
  (56, tupO []),
  (58, codO [.str "__init__" 239, .str "ProofFault.__init__" 240, .str "/claim/cut.py" 241, .int 12 0, .int 3 0, .int 0 0, .int 0 0, .int 3 0, .ref 53, .bool true, .int 181 0, .ref 54, .none, .ref 55, .ref 56, .ref 57, .int 246 0, .int 12 0, .str "/claim/cut.py" 247]),
  (59, funO (methAt 2 0) "ProofFault.__init__" (.str "minismt.errors" 187) 58 [("__class__", 47)] (.ref 52)),
  (60, tupO []),
  (62, tupO [.str "self" 252]),
  (63, tupO []),
  (65, codO [.str "told" 249, .str "ProofFault.told" 250, .str "/claim/cut.py" 251, .int 16 0, .int 1 0, .int 0 0, .int 0 0, .int 3 0, .ref 60, .bool true, .int 181 0, .ref 61, .none, .ref 62, .ref 63, .ref 64, .int 253 0, .int 16 0, .str "/claim/cut.py" 254]),
  (66, funO (methAt 2 1) "ProofFault.told" (.str "minismt.errors" 187) 65),
  (67, tupO [.str "step" 256]),
  (68, dicO (.type "dict") [kE P "__module__" 234 (.str "minismt.errors" 187), kE P "__firstlineno__" 238 (.int 10 237), kE P "__init__" 248 (.ref 59), kE P "told" 255 (.ref 66), kE P "__static_attributes__" 257 (.ref 67), kE P "__doc__" 259 .none] 3),
  (69, { cls := .type "type", data := .cls { name := "ProofFault", bases := [.ref 40], mro := [.ref 69, .ref 40, .type "Exception", .type "BaseException", .type "object"], ns := 68, qualname := "ProofFault" }, slots := #[some (.ref 44), none, some (.str "ProofFault" 227), some (.str "ProofFault" 235), some (.builtin "Exception.__new__"), some (.bool true)] }),
  (72, tupO [.str "input" 264, .str "define" 265, .str "ite_term" 266, .str "three" 267, .str "bits" 268, .str "congruence" 269, .str "farkas" 270, .str "branch" 271, .str "divide" 272, .str "cut" 273, .str "resolve" 274]),
  (73, tupO []),
  (75, tupO [.str "literal" 279]),
  (76, tupO []),
  (78, codO [.str "order_of" 276, .str "order_of" 277, .str "/claim/cut.py" 278, .int 20 0, .int 1 0, .int 0 0, .int 0 0, .int 3 0, .ref 73, .bool true, .int 181 0, .ref 74, .none, .ref 75, .ref 76, .ref 77, .int 280 0, .int 20 0, .str "/claim/cut.py" 281]),
  (79, funO (topAt 5) "order_of" (.str "minismt.proof" 262) 78),
  (80, tupO []),
  (82, tupO [.str "literals" 286, .str "kept" 287, .str "literal" 288]),
  (83, tupO []),
  (85, codO [.str "tidy" 283, .str "tidy" 284, .str "/claim/cut.py" 285, .int 22 0, .int 1 0, .int 0 0, .int 0 0, .int 3 0, .ref 80, .bool true, .int 181 0, .ref 81, .none, .ref 82, .ref 83, .ref 84, .int 289 0, .int 22 0, .str "/claim/cut.py" 290]),
  (86, funO (topAt 6) "tidy" (.str "minismt.proof" 262) 85),
  (87, tupO []),
  (89, tupO [.str "clause" 295, .str "place" 296]),
  (90, tupO []),
  (92, codO [.str "is_tidy" 292, .str "is_tidy" 293, .str "/claim/cut.py" 294, .int 29 0, .int 1 0, .int 0 0, .int 0 0, .int 3 0, .ref 87, .bool true, .int 181 0, .ref 88, .none, .ref 89, .ref 90, .ref 91, .int 297 0, .int 29 0, .str "/claim/cut.py" 298]),
  (93, funO (topAt 7) "is_tidy" (.str "minismt.proof" 262) 92),
  (94, tupO []),
  (97, codO [.str "resolve_on" 300, .str "resolve_on" 301, .str "/claim/cut.py" 302, .int 36 0, .int 3 0, .int 0 0, .int 0 0, .int 3 0, .ref 94, .bool true, .int 181 0, .ref 95, .none, .none, .none, .ref 96, .int 303 0, .int 36 0, .str "/claim/cut.py" 304]),
  (98, funO (topAt 8) "resolve_on" (.str "minismt.proof" 262) 97),
  (106, tupO []),
  (108, tupO [.str "self" 321]),
  (109, tupO []),
  (111, codO [.str "__init__" 318, .str "Steps.__init__" 319, .str "/claim/cut.py" 320, .int 48 0, .int 1 0, .int 0 0, .int 0 0, .int 3 0, .ref 106, .bool true, .int 181 0, .ref 107, .none, .ref 108, .ref 109, .ref 110, .int 322 0, .int 48 0, .str "/claim/cut.py" 323]),
  (112, funO (methAt 9 0) "Steps.__init__" (.str "minismt.proof" 262) 111),
  (113, tupO []),
  (115, tupO [.str "self" 328, .str "var" 329, .str "term" 330]),
  (116, tupO []),
  (118, codO [.str "name" 325, .str "Steps.name" 326, .str "/claim/cut.py" 327, .int 53 0, .int 3 0, .int 0 0, .int 0 0, .int 3 0, .ref 113, .bool true, .int 181 0, .ref 114, .none, .ref 115, .ref 116, .ref 117, .int 331 0, .int 53 0, .str "/claim/cut.py" 332]),
  (119, funO (methAt 9 1) "Steps.name" (.str "minismt.proof" 262) 118),
  (120, tupO []),
  (122, tupO [.str "self" 337, .str "var" 338]),
  (123, tupO []),
  (125, codO [.str "names" 334, .str "Steps.names" 335, .str "/claim/cut.py" 336, .int 58 0, .int 2 0, .int 0 0, .int 0 0, .int 3 0, .ref 120, .bool true, .int 181 0, .ref 121, .none, .ref 122, .ref 123, .ref 124, .int 339 0, .int 58 0, .str "/claim/cut.py" 340]),
  (126, funO (methAt 9 2) "Steps.names" (.str "minismt.proof" 262) 125),
  (127, tupO []),
  (129, tupO [.str "self" 345]),
  (130, tupO []),
  (132, codO [.str "var_count" 342, .str "Steps.var_count" 343, .str "/claim/cut.py" 344, .int 63 0, .int 1 0, .int 0 0, .int 0 0, .int 3 0, .ref 127, .bool true, .int 181 0, .ref 128, .none, .ref 129, .ref 130, .ref 131, .int 346 0, .int 63 0, .str "/claim/cut.py" 347]),
  (133, funO (methAt 9 3) "Steps.var_count" (.str "minismt.proof" 262) 132),
  (134, tupO []),
  (136, tupO [.str "self" 352]),
  (137, tupO []),
  (139, codO [.str "size" 349, .str "Steps.size" 350, .str "/claim/cut.py" 351, .int 66 0, .int 1 0, .int 0 0, .int 0 0, .int 3 0, .ref 134, .bool true, .int 181 0, .ref 135, .none, .ref 136, .ref 137, .ref 138, .int 353 0, .int 66 0, .str "/claim/cut.py" 354]),
  (140, funO (methAt 9 4) "Steps.size" (.str "minismt.proof" 262) 139),
  (141, tupO []),
  (143, tupO [.str "self" 359, .str "step" 360]),
  (144, tupO []),
  (146, codO [.str "clause" 356, .str "Steps.clause" 357, .str "/claim/cut.py" 358, .int 69 0, .int 2 0, .int 0 0, .int 0 0, .int 3 0, .ref 141, .bool true, .int 181 0, .ref 142, .none, .ref 143, .ref 144, .ref 145, .int 361 0, .int 69 0, .str "/claim/cut.py" 362]),
  (147, funO (methAt 9 5) "Steps.clause" (.str "minismt.proof" 262) 146),
  (148, tupO []),
  (150, tupO [.str "self" 367, .str "step" 368]),
  (151, tupO []),
  (153, codO [.str "rule" 364, .str "Steps.rule" 365, .str "/claim/cut.py" 366, .int 72 0, .int 2 0, .int 0 0, .int 0 0, .int 3 0, .ref 148, .bool true, .int 181 0, .ref 149, .none, .ref 150, .ref 151, .ref 152, .int 369 0, .int 72 0, .str "/claim/cut.py" 370]),
  (154, funO (methAt 9 6) "Steps.rule" (.str "minismt.proof" 262) 153),
  (155, tupO []),
  (157, tupO [.str "self" 375, .str "rule" 376, .str "clause" 377, .str "premises" 378, .str "note" 379, .str "number" 380, .str "one" 381]),
  (158, tupO []),
  (160, codO [.str "add" 372, .str "Steps.add" 373, .str "/claim/cut.py" 374, .int 75 0, .int 5 0, .int 0 0, .int 0 0, .int 3 0, .ref 155, .bool true, .int 181 0, .ref 156, .none, .ref 157, .ref 158, .ref 159, .int 382 0, .int 75 0, .str "/claim/cut.py" 383]),
  (161, funO (methAt 9 7) "Steps.add" (.str "minismt.proof" 262) 160),
  (162, tupO []),
  (165, codO [.str "chain" 385, .str "Steps.chain" 386, .str "/claim/cut.py" 387, .int 89 0, .int 3 0, .int 0 0, .int 0 0, .int 3 0, .ref 162, .bool true, .int 181 0, .ref 163, .none, .none, .none, .ref 164, .int 388 0, .int 89 0, .str "/claim/cut.py" 389]),
  (166, funO (methAt 9 8) "Steps.chain" (.str "minismt.proof" 262) 165),
  (167, tupO [.str "empty" 391, .str "named" 392, .str "steps" 393]),
  (168, dicO (.type "dict") [kE P "__module__" 313 (.str "minismt.proof" 262), kE P "__firstlineno__" 317 (.int 46 316), kE P "__init__" 324 (.ref 112), kE P "name" 333 (.ref 119), kE P "names" 341 (.ref 126), kE P "var_count" 348 (.ref 133), kE P "size" 355 (.ref 140), kE P "clause" 363 (.ref 147), kE P "rule" 371 (.ref 154), kE P "add" 384 (.ref 161), kE P "chain" 390 (.ref 166), kE P "__static_attributes__" 394 (.ref 167), kE P "__dict__" 396 (.ref 170), kE P "__weakref__" 398 (.ref 171), kE P "__doc__" 399 .none] 4),
  (169, { cls := .type "type", data := .cls { name := "Steps", bases := [.type "object"], mro := [.ref 169, .type "object"], ns := 168, qualname := "Steps", subclasses := [.ref 219] }, slots := #[none, none, some (.str "Steps" 306), some (.str "Steps" 314), some (.builtin "object.__new__"), some (.bool true)] }),
  (170, { cls := .type "getset_descriptor", data := .fields #[.str "__dict__" 395, .ref 169, .builtin "function.__dict__", .builtin "function.__dict__#set"] }),
  (171, { cls := .type "getset_descriptor", data := .fields #[.str "__weakref__" 397, .ref 169, .builtin "ExceptionGroup.__weakref__", .none] }),
  (174, tupO [.ref 169]),
  (181, tupO []),
  (183, tupO [.str "self" 417, .str "last" 418, .str "wanted" 419, .str "number" 420, .str "one" 421]),
  (184, tupO []),
  (186, codO [.str "needed" 414, .str "Proof.needed" 415, .str "/claim/cut.py" 416, .int 101 0, .int 2 0, .int 0 0, .int 0 0, .int 3 0, .ref 181, .bool true, .int 181 0, .ref 182, .none, .ref 183, .ref 184, .ref 185, .int 422 0, .int 101 0, .str "/claim/cut.py" 423]),
  (187, funO (methAt 10 0) "Proof.needed" (.str "minismt.proof" 262) 186),
  (188, tupO []),
  (191, codO [.str "trimmed" 425, .str "Proof.trimmed" 426, .str "/claim/cut.py" 427, .int 109 0, .int 2 0, .int 0 0, .int 0 0, .int 3 0, .ref 188, .bool true, .int 181 0, .ref 189, .none, .none, .none, .ref 190, .int 428 0, .int 109 0, .str "/claim/cut.py" 429]),
  (192, funO (methAt 10 1) "Proof.trimmed" (.str "minismt.proof" 262) 191),
  (193, tupO []),
  (195, tupO [.str "self" 434]),
  (196, tupO []),
  (198, codO [.str "trim" 431, .str "Proof.trim" 432, .str "/claim/cut.py" 433, .int 118 0, .int 1 0, .int 0 0, .int 0 0, .int 3 0, .ref 193, .bool true, .int 181 0, .ref 194, .none, .ref 195, .ref 196, .ref 197, .int 435 0, .int 118 0, .str "/claim/cut.py" 436]),
  (199, funO (methAt 10 2) "Proof.trim" (.str "minismt.proof" 262) 198),
  (200, tupO []),
  (202, tupO [.str "self" 441, .str "last" 442, .str "found" 443, .str "number" 444]),
  (203, tupO []),
  (205, codO [.str "used_inputs" 438, .str "Proof.used_inputs" 439, .str "/claim/cut.py" 440, .int 123 0, .int 2 0, .int 0 0, .int 0 0, .int 3 0, .ref 200, .bool true, .int 181 0, .ref 201, .none, .ref 202, .ref 203, .ref 204, .int 445 0, .int 123 0, .str "/claim/cut.py" 446]),
  (206, funO (methAt 10 3) "Proof.used_inputs" (.str "minismt.proof" 262) 205),
  (207, tupO []),
  (210, codO [.str "counts" 448, .str "Proof.counts" 449, .str "/claim/cut.py" 450, .int 130 0, .int 1 0, .int 0 0, .int 0 0, .int 3 0, .ref 207, .bool true, .int 181 0, .ref 208, .none, .none, .none, .ref 209, .int 451 0, .int 130 0, .str "/claim/cut.py" 452]),
  (211, funO (methAt 10 4) "Proof.counts" (.str "minismt.proof" 262) 210),
  (212, tupO []),
  (215, codO [.str "depth" 454, .str "Proof.depth" 455, .str "/claim/cut.py" 456, .int 136 0, .int 2 0, .int 0 0, .int 0 0, .int 3 0, .ref 212, .bool true, .int 181 0, .ref 213, .none, .none, .none, .ref 214, .int 457 0, .int 136 0, .str "/claim/cut.py" 458]),
  (216, funO (methAt 10 5) "Proof.depth" (.str "minismt.proof" 262) 215),
  (217, tupO []),
  (218, dicO (.type "dict") [kE P "__module__" 409 (.str "minismt.proof" 262), kE P "__firstlineno__" 413 (.int 99 412), kE P "needed" 424 (.ref 187), kE P "trimmed" 430 (.ref 192), kE P "trim" 437 (.ref 199), kE P "used_inputs" 447 (.ref 206), kE P "counts" 453 (.ref 211), kE P "depth" 459 (.ref 216), kE P "__static_attributes__" 460 (.ref 217), kE P "__doc__" 461 .none] 2),
  (219, { cls := .type "type", data := .cls { name := "Proof", bases := [.ref 169], mro := [.ref 219, .ref 169, .type "object"], ns := 218, qualname := "Proof" }, slots := #[some (.ref 174), none, some (.str "Proof" 402), some (.str "Proof" 410), some (.builtin "object.__new__"), some (.bool true)] }),
  (222, tupO []),
  (224, tupO [.str "feed" 469, .str "many" 470, .str "spot" 471]),
  (225, tupO []),
  (227, codO [.str "_law_dip" 466, .str "_law_dip" 467, .str "/claim/cut.py" 468, .int 144 0, .int 2 0, .int 0 0, .int 0 0, .int 3 0, .ref 222, .bool true, .int 181 0, .ref 223, .none, .ref 224, .ref 225, .ref 226, .int 472 0, .int 144 0, .str "/claim/cut.py" 473]),
  (228, funO (topAt 12) "_law_dip" (.str "law_no0006_01" 464) 227),
  (229, tupO []),
  (232, codO [.str "_law_ordered" 475, .str "_law_ordered" 476, .str "/claim/cut.py" 477, .int 150 0, .int 1 0, .int 0 0, .int 0 0, .int 3 0, .ref 229, .bool true, .int 181 0, .ref 230, .none, .none, .none, .ref 231, .int 478 0, .int 150 0, .str "/claim/cut.py" 479]),
  (233, funO (topAt 13) "_law_ordered" (.str "law_no0006_01" 464) 232),
  (234, tupO []),
  (237, codO [.str "_law_clashing" 481, .str "_law_clashing" 482, .str "/claim/cut.py" 483, .int 157 0, .int 3 0, .int 0 0, .int 0 0, .int 3 0, .ref 234, .bool true, .int 181 0, .ref 235, .none, .none, .none, .ref 236, .int 484 0, .int 157 0, .str "/claim/cut.py" 485]),
  (238, funO (topAt 14) "_law_clashing" (.str "law_no0006_01" 464) 237),
  (239, tupO []),
  (241, tupO [.str "proof" 490, .str "rule" 491, .str "clause" 492, .str "premises" 493, .str "before" 494]),
  (242, tupO []),
  (244, codO [.str "_law_is_refused" 487, .str "_law_is_refused" 488, .str "/claim/cut.py" 489, .int 161 0, .int 4 0, .int 0 0, .int 0 0, .int 3 0, .ref 239, .bool true, .int 181 0, .ref 240, .none, .ref 241, .ref 242, .ref 243, .int 495 0, .int 161 0, .str "/claim/cut.py" 496]),
  (245, funO (topAt 15) "_law_is_refused" (.str "law_no0006_01" 464) 244),
  (246, tupO []),
  (249, codO [.str "_law_pairs" 498, .str "_law_pairs" 499, .str "/claim/cut.py" 500, .int 168 0, .int 4 0, .int 0 0, .int 0 0, .int 3 0, .ref 246, .bool true, .int 181 0, .ref 247, .none, .none, .none, .ref 248, .int 501 0, .int 168 0, .str "/claim/cut.py" 502]),
  (250, funO (topAt 16) "_law_pairs" (.str "law_no0006_01" 464) 249),
  (251, tupO []),
  (254, codO [.str "_law_chained" 504, .str "_law_chained" 505, .str "/claim/cut.py" 506, .int 183 0, .int 4 0, .int 0 0, .int 0 0, .int 3 0, .ref 251, .bool true, .int 181 0, .ref 252, .none, .none, .none, .ref 253, .int 507 0, .int 183 0, .str "/claim/cut.py" 508]),
  (255, funO (topAt 17) "_law_chained" (.str "law_no0006_01" 464) 254),
  (256, tupO []),
  (259, codO [.str "_law_under" 510, .str "_law_under" 511, .str "/claim/cut.py" 512, .int 199 0, .int 2 0, .int 0 0, .int 0 0, .int 3 0, .ref 256, .bool true, .int 181 0, .ref 257, .none, .none, .none, .ref 258, .int 513 0, .int 199 0, .str "/claim/cut.py" 514]),
  (260, funO (topAt 18) "_law_under" (.str "law_no0006_01" 464) 259),
  (261, tupO []),
  (264, codO [.str "_law_holds" 516, .str "_law_holds" 517, .str "/claim/cut.py" 518, .int 208 0, .int 2 0, .int 0 0, .int 0 0, .int 3 0, .ref 261, .bool true, .int 181 0, .ref 262, .none, .none, .none, .ref 263, .int 519 0, .int 208 0, .str "/claim/cut.py" 520]),
  (265, funO (topAt 19) "_law_holds" (.str "law_no0006_01" 464) 264),
  (266, tupO []),
  (269, codO [.str "_law_follows" 522, .str "_law_follows" 523, .str "/claim/cut.py" 524, .int 210 0, .int 3 0, .int 0 0, .int 0 0, .int 3 0, .ref 266, .bool true, .int 181 0, .ref 267, .none, .none, .none, .ref 268, .int 525 0, .int 210 0, .str "/claim/cut.py" 526]),
  (270, funO (topAt 20) "_law_follows" (.str "law_no0006_01" 464) 269),
  (271, tupO []),
  (274, codO [.str "_law_is_trimmed" 528, .str "_law_is_trimmed" 529, .str "/claim/cut.py" 530, .int 216 0, .int 3 0, .int 0 0, .int 0 0, .int 3 0, .ref 271, .bool true, .int 181 0, .ref 272, .none, .none, .none, .ref 273, .int 531 0, .int 216 0, .str "/claim/cut.py" 532]),
  (275, funO (topAt 21) "_law_is_trimmed" (.str "law_no0006_01" 464) 274),
  (276, tupO []),
  (279, codO [.str "law" 534, .str "law" 535, .str "/claim/cut.py" 536, .int 232 0, .int 1 0, .int 0 0, .int 0 0, .int 3 0, .ref 276, .bool true, .int 181 0, .ref 277, .none, .none, .none, .ref 278, .int 537 0, .int 232 0, .str "/claim/cut.py" 538]),
  (280, funO (topAt 22) "law" (.str "law_no0006_01" 464) 279)]
noncomputable abbrev hdAt : List Addr := [2, 3, 15, 18, 23, 24, 26, 27, 29, 30, 31, 33, 34, 36, 37, 38, 39, 40, 41, 44, 47, 52, 53, 55, 56, 58, 59, 60, 62, 63, 65, 66, 67, 68, 69, 72, 73, 75, 76, 78, 79, 80, 82, 83, 85, 86, 87, 89, 90, 92, 93, 94, 97, 98, 106, 108, 109, 111, 112, 113, 115, 116, 118, 119, 120, 122, 123, 125, 126, 127, 129, 130, 132, 133, 134, 136, 137, 139, 140, 141, 143, 144, 146, 147, 148, 150, 151, 153, 154, 155, 157, 158, 160, 161, 162, 165, 166, 167, 168, 169, 170, 171, 174, 181, 183, 184, 186, 187, 188, 191, 192, 193, 195, 196, 198, 199, 200, 202, 203, 205, 206, 207, 210, 211, 212, 215, 216, 217, 218, 219, 222, 224, 225, 227, 228, 229, 232, 233, 234, 237, 238, 239, 241, 242, 244, 245, 246, 249, 250, 251, 254, 255, 256, 259, 260, 261, 264, 265, 266, 269, 270, 271, 274, 275, 276, 279, 280]
/-- the text without its three plain constants -/
noncomputable def hdView : Program := view PySem.Challenge.pw_no0006_01 [1, 2, 4, 5, 6, 7, 8, 9, 10, 12, 13, 14, 15, 16, 17, 18, 19, 20, 21, 22]
set_option maxHeartbeats 0 in
theorem hdRun (w : World) (os : OsState) : (topRun treeTable PySem.Challenge.pw_no0006_01 w 11 (some (.ref 6)) 1926 ⟨boot_heap w.params, #[], boot_drawn, boot_toks, os⟩ (topStub PySem.Challenge.pw_no0006_01)).map (fun s => (staticsOk (importedModules PySem.Challenge.pw_no0006_01.main.body) (boot_heap w.params) s.heap && namesBound PySem.Challenge.pw_no0006_01 s.heap && gensDone s && laidKept (boot_heap w.params) s.heap,
    openSeen hdView [] (importedModules PySem.Challenge.pw_no0006_01.main.body) (fun s => xlAt hdView [] s && recOk PySem.Challenge.rw_no0006_01.row.records s) true s, hdAt.map s.heap.get?)) = some (true, openGood hdView [], (hd.heap_39 w.params).map fun p => some p.2) := by
  rw [PySem.W.Fast.te14082659384304107361, PySem.W.Fast.te14364793385576792824, PySem.W.Fast.te4187177175401517315]
  kernel_rfl
theorem hdLeft : LeftO PySem.Challenge.pw_no0006_01 hdView [] (fun s => xlAt hdView [] s && recOk PySem.Challenge.rw_no0006_01.row.records s) (fun s => hdAt.map s.heap.get?) (fun w => (hd.heap_39 w.params).map fun p => some p.2) 3936 :=
  left_of (boot_open (by kernel_rfl) (by decide) (fun s => by kernel_rfl)) (fun w => by kernel_rfl) (by decide) hdRun
theorem hdSaid : PySem.Challenge.rw_no0006_01.wellSaid = true := by
  rw [PySem.W.Fast.te9446332074065402090]
  kernel_rfl
noncomputable abbrev hdHook : Hook := kHook hd.heap_39 hdAt (fun z9a => by kernel_rfl)
end Mine
set_option tactic.hygienic false
namespace Mine
open PySem PySem.W PyProof.Rows PySem.Calls
structure Tops (C : Cx) : Prop where
  K : C.K = hd.heap_39 C.w.params
  kin : C.K.In C.h₁
  top : ∃ p loose mg mb, TopRead p loose mg mb C.h₁
  sys : (C.h₁.get? sysModules).isSome = true
  quiet : C.quiet = true
  prog : C.prog = PySem.Challenge.rw_no0006_01.row.prog
theorem Tops.glo {C : Cx} (T : Tops C) {x : Str} {v : Value} (e : nsIn (hd.heap_39 C.w.params) mainGlobals x = some (some v)) : Glo C.h₁ x v := by
  obtain ⟨p, loose, mg, mb, R⟩ := T.top
  exact .inl ⟨mg, R.g, mg_of T.kin R.g (by rw [T.K]; exact e)⟩
theorem Tops.blt {C : Cx} (T : Tops C) {x : Str} {v : Value} (e : nsIn (hd.heap_39 C.w.params) mainGlobals x = some none) (hv : bootBuiltins x = some v) (hn : x ≠ "__name__") : Glo C.h₁ x v := by
  obtain ⟨p, loose, mg, mb, R⟩ := T.top
  exact .inr ⟨mg, mb, R.g, mg_none_of T.kin R.g (by rw [T.K]; exact e), R.b, (R.builtins x hn).trans hv⟩
theorem Tops.callee {C C' : Cx} {fd f} (T : Tops C) (h : Callee C C' fd f) : Tops C' := ⟨by rw [h.K, h.w]; exact T.K, by rw [h.K, h.h₁]; exact T.kin, by rw [h.h₁]; exact T.top, by rw [h.h₁]; exact T.sys, by rw [h.quiet]; exact T.quiet, by rw [h.prog]; exact T.prog⟩
theorem Tops.comp {C C' : Cx} {sc} (T : Tops C) (h : Comp C C' sc) : Tops C' := ⟨by rw [h.K, h.w]; exact T.K, by rw [h.K, h.h₁]; exact T.kin, by rw [h.h₁]; exact T.top, by rw [h.h₁]; exact T.sys, by rw [h.quiet]; exact T.quiet, by rw [h.prog]; exact T.prog⟩
theorem Tops.in2 {C : Cx} (T : Tops C) : Tops C.in2 := ⟨T.K, T.kin, T.top, T.sys, T.quiet, T.prog⟩
/-- the kinds of a frame's names -/
structure Kn (C : Cx) (names : List (Str × NameKind)) : Prop where
  at_ : ∀ x k, names.lookup x = some k → C.env.kindOf x = some k
theorem Kn.callee {C C' fd f} (h : Callee C C' fd f) : Kn C' fd.scope.names := ⟨fun x k e => h.kind e⟩
noncomputable def freed (names : List (Str × NameKind)) : List (Str × NameKind) := names.map fun x => (x.1, if x.2 = .free then .cell else x.2)
theorem freed_lookup {x : Str} : ∀ {names : List (Str × NameKind)} {k}, (freed names).lookup x = some k → ∃ k', names.lookup x = some k' ∧ k = (if k' = .free then .cell else k')
  | [], k, e => by simp [freed] at e
  | (y, j) :: r, k, e => by
    simp only [freed, List.map_cons, List.lookup_cons] at e ⊢
    cases q : x == y with
    | true => rw [q] at e; simp at e; exact ⟨j, rfl, e.symm⟩
    | false => rw [q] at e; exact freed_lookup e
theorem Kn.comp {C C' sc} (h : Comp C C' sc) : Kn C' (freed sc.names) := ⟨fun x k e => by obtain ⟨k', h1, rfl⟩ := freed_lookup e; exact h.kind x k' h1⟩
section
variable {C : Cx} {ρ : Vars} {σ : Store} {Q : Val → Store → Prop} {X : XPost} {ns : List (Str × NameKind)}
theorem nmL {x : Str} {pos : Pos} {v : Val} (KN : Kn C ns) (hk : ns.lookup x = some .local) (hv : ρ x = some v) (h : Q v σ) (hd : (x == ("__debug__" : Str)) = false := by decide) : Ev C ρ σ (.Name x pos) Q X := Ev.local hv (KN.at_ _ _ hk) h hd
theorem nmC {x : Str} {pos : Pos} {v : Val} (KN : Kn C ns) (hk : ns.lookup x = some .cell) (hv : ρ x = some v) (h : Q v σ) (hd : (x == ("__debug__" : Str)) = false := by decide) : Ev C ρ σ (.Name x pos) Q X := Ev.cell hv (KN.at_ _ _ hk) h hd
theorem nmG {x : Str} {pos : Pos} {a : Addr} (T : Tops C) (KN : Kn C ns) (hk : ns.lookup x = some .globalImplicit) (e : nsIn (hd.heap_39 C.w.params) mainGlobals x = some (some (.ref a))) (h : Q (.ref a) σ) (hd : (x == ("__debug__" : Str)) = false := by decide) : Ev C ρ σ (.Name x pos) Q X :=
  Ev.global (T.glo e) (by simp [RepV]) (KN.at_ _ _ hk) h hd
theorem nmB {x : Str} {pos : Pos} {i : String} (T : Tops C) (KN : Kn C ns) (hk : ns.lookup x = some .globalImplicit) (e : nsIn (hd.heap_39 C.w.params) mainGlobals x = some none) (hv : bootBuiltins x = some (.builtin i)) (h : Q (.blt i) σ) (hn : x ≠ "__name__" := by decide) (hd : (x == ("__debug__" : Str)) = false := by decide) : Ev C ρ σ (.Name x pos) Q X :=
  Ev.global (T.blt e hv hn) (by simp [RepV]) (KN.at_ _ _ hk) h hd
theorem nmT {x : Str} {pos : Pos} {i : String} (T : Tops C) (KN : Kn C ns) (hk : ns.lookup x = some .globalImplicit) (e : nsIn (hd.heap_39 C.w.params) mainGlobals x = some none) (hv : bootBuiltins x = some (.type i)) (h : Q (.typ i) σ) (hn : x ≠ "__name__" := by decide) (hd : (x == ("__debug__" : Str)) = false := by decide) : Ev C ρ σ (.Name x pos) Q X :=
  Ev.global (T.blt e hv hn) (by simp [RepV]) (KN.at_ _ _ hk) h hd
theorem star0 {env : Env} : ∀ e ∈ ([] : List Expr), ∀ r, starEach (e :: r) env = (false, eval e env) :: starEach r env := fun z9a h => nomatch h
theorem star1 {env : Env} {a : Expr} (h1 : ∀ r, starEach (a :: r) env = (false, eval a env) :: starEach r env) : ∀ e ∈ [a], ∀ r, starEach (e :: r) env = (false, eval e env) :: starEach r env := fun e h => by rw [List.mem_singleton] at h; subst h; exact h1
theorem starS {env : Env} {a : Expr} {l : List Expr} (h1 : ∀ r, starEach (a :: r) env = (false, eval a env) :: starEach r env) (h2 : ∀ e ∈ l, ∀ r, starEach (e :: r) env = (false, eval e env) :: starEach r env) : ∀ e ∈ a :: l, ∀ r, starEach (e :: r) env = (false, eval e env) :: starEach r env := fun e h => by
  rcases List.mem_cons.mp h with rfl | h
  · exact h1
  · exact h2 e h
/-- calls of built-ins, of types, of defs -/
theorem evB {x : Str} {p pos : Pos} {args : List Expr} {i : String} (T : Tops C) (KN : Kn C ns) (hk : ns.lookup x = some .globalImplicit) (e : nsIn (hd.heap_39 C.w.params) mainGlobals x = some none) (hv : bootBuiltins x = some (.builtin i))
    (h : Evs C ρ σ args (CalL C ρ (.builtin i) Q X) X) (he : ∀ e ∈ args, ∀ r, starEach (e :: r) C.env = (false, eval e C.env) :: starEach r C.env) (hn : x ≠ "__name__" := by decide) (hd : (x == ("__debug__" : Str)) = false := by decide) : Ev C ρ σ (.Call (.Name x p) args [] pos) Q X :=
  Ev.call (nmB T KN hk e hv (callI (.blt _) Keeps.builtin h) hn hd) he
theorem evT {x : Str} {p pos : Pos} {args : List Expr} {i : String} (T : Tops C) (KN : Kn C ns) (hk : ns.lookup x = some .globalImplicit) (e : nsIn (hd.heap_39 C.w.params) mainGlobals x = some none) (hv : bootBuiltins x = some (.type i))
    (h : Evs C ρ σ args (CalL C ρ (.type i) Q X) X) (he : ∀ e ∈ args, ∀ r, starEach (e :: r) C.env = (false, eval e C.env) :: starEach r C.env) (hn : x ≠ "__name__" := by decide) (hd : (x == ("__debug__" : Str)) = false := by decide) : Ev C ρ σ (.Call (.Name x p) args [] pos) Q X :=
  Ev.call (nmT T KN hk e hv (callI (.typ _) Keeps.type h) hn hd) he
theorem evF {x : Str} {p pos : Pos} {args : List Expr} {a : Addr} (T : Tops C) (KN : Kn C ns) (hk : ns.lookup x = some .globalImplicit) (e : nsIn (hd.heap_39 C.w.params) mainGlobals x = some (some (.ref a))) (hkp : keepIn (hd.heap_39 C.w.params) (.ref a) = true)
    (h : Evs C ρ σ args (CalL C ρ (.ref a) Q X) X) (he : ∀ e ∈ args, ∀ r, starEach (e :: r) C.env = (false, eval e C.env) :: starEach r C.env) (hd : (x == ("__debug__" : Str)) = false := by decide) : Ev C ρ σ (.Call (.Name x p) args [] pos) Q X :=
  Ev.call (nmG T KN hk e (callI (.ref _) (Keeps.of_K T.kin (by rw [T.K]; exact hkp)) h) hd) he
/-- a store that tells of no more -/
noncomputable def Sub (σ σ' : Store) : Prop := ∀ a o, σ a = some o → σ' a = some o
theorem Sub.refl (σ : Store) : Sub σ σ := fun z9a z9b e => e
theorem Sub.trans {a b c : Store} (x : Sub a b) (y : Sub b c) : Sub a c := fun z9a z9b e => y _ _ (x _ _ e)
theorem Sub.none {σ σ' : Store} (h : Sub σ σ') {a : Addr} (e : σ' a = .none) : σ a = .none := by
  cases q : σ a with
  | none => rfl
  | some o => rw [h _ _ q] at e; cases e
theorem Sub.put {σ σ' : Store} (h : Sub σ σ') {a : Addr} {o : MObj} (e : σ a = .none) : Sub σ (σ'.set a o) := fun b ob eb => by
  have : b ≠ a := fun q => by subst q; rw [e] at eb; cases eb
  rw [Store.set_other _ _ this]; exact h _ _ eb
theorem Sub.new {σ σ' : Store} (h : Sub σ σ') {a : Addr} {o : MObj} (e : σ' a = .none) : Sub σ (σ'.set a o) := h.put (h.none e)
theorem Sub.both {σ σ' : Store} (h : Sub σ σ') {a : Addr} {o : MObj} : Sub (σ.set a o) (σ'.set a o) := fun b ob eb => by
  by_cases q : b = a
  · subst q; simpa using eb
  · rw [Store.set_other _ _ q] at eb ⊢; exact h _ _ eb
theorem Cal.drop {u : Value} {ds : List Val} {X' : XPost} (h : Cal C ρ σ u ds (fun d σ' => ∃ σ'', Sub σ'' σ' ∧ Q d σ'') X') (hx : ∀ c ρ' σ', X' c ρ' σ' → ∃ σ'', Sub σ'' σ' ∧ X c ρ' σ'') : Cal C ρ σ u ds Q X := fun base s vs H r =>
  wpAny_mono (h base s vs H r) (fun _ _ ⟨d, σ', a, b, σ'', hs, q⟩ => ⟨d, σ'', a.forget hs, b, q⟩) fun _ _ ⟨c, ρ', σ', x, a, q⟩ => let ⟨σ'', hs, q'⟩ := hx _ _ _ q; ⟨c, ρ', σ'', x, a.forget hs, q'⟩
end
/-- a term is forgotten for good: what follows knows a name alone -/
@[elab_as_elim] theorem gen {α : Type} {motive : α → Prop} (a : α) (h : ∀ x, motive x) : motive a := h a
@[elab_as_elim] theorem genE {α : Type} {motive : α → Prop} (a : α) (h : ∀ x, a = x → motive x) : motive a := h a rfl
/-- a def of the top, as it lies -/
structure FnAt (p : Params) (f : Addr) where
  fd : FuncData
  body : List Stmt
  at_ : ∃ o, (hd.heap_39 p).lookup f = some o ∧ o.data = .func fd
  body_ : fd.body = .stmts body
noncomputable def fnOk (K : Frag) (fd : FuncData) : Bool :=
  fd.closure.isEmpty && fd.scope.kind == .function && !fd.scope.isCoroutine && !fd.scope.isGenerator && fd.globals == mainGlobals && fd.builtins == builtinsNs && codeIn K fd.code fd.qualname && fd.scope.names.all (·.2 != .free) && decide (fd.scope.names.map (·.1)).Nodup
theorem FnAt.def_ {p : Params} {f : Addr} (F : FnAt p f) (h : fnOk (hd.heap_39 p) F.fd = true) : Def (hd.heap_39 p) f F.fd F.body := by
  unfold fnOk at h
  simp only [Bool.and_eq_true, Bool.not_eq_true', beq_iff_eq, decide_eq_true_eq, List.isEmpty_iff, List.all_eq_true, bne_iff_ne] at h
  obtain ⟨⟨⟨⟨⟨⟨⟨⟨h1, h2⟩, h3⟩, h4⟩, h5⟩, h6⟩, h7⟩, h8⟩, h9⟩ := h
  exact ⟨F.at_, F.body_, h1, h2, h3, h4, h5, h6, h7, h8, h9⟩
theorem FnAt.enter {C : Cx} {ρ σ} {Q : Val → Store → Prop} {X : XPost} (T : Tops C) {f : Addr} (F : FnAt C.w.params f) (h : fnOk (hd.heap_39 C.w.params) F.fd = true) {ds : List Val} (ps : List Str) (hroom : 0 < C.room)
    (hbind : ∀ vs : List Value, vs.length = ds.length → bindArgs F.fd ⟨vs, []⟩ = pure (ps.zip vs)) (hps : (decide ps.Nodup) = true) (hlen : ps.length = ds.length)
    (hkind : (ps.all fun x => F.fd.scope.names.lookup x == some .local || F.fd.scope.names.lookup x == some .cell) = true)
    (hb : ∀ C', Tops C' → Kn C' F.fd.scope.names → C'.room + 1 = C.room → C'.w = C.w → C'.Fn → Ex C' (fun x => (ps.zip ds).lookup x) σ F.body (EntP Q) (fun c z9a σ' => X c ρ σ')) : Cal C ρ σ (.ref f) ds Q X := by
  have D := F.def_ h
  rw [← T.K] at D
  refine Cal.enter D hroom hbind (of_decide_eq_true hps) hlen (fun x hx => ?_) fun C' hC => hb C' (T.callee hC) (Kn.callee hC) hC.room hC.w hC.fn
  have := List.all_eq_true.mp hkind x hx
  simpa using this
theorem FnAt.enterC {C : Cx} {ρ σ} {Q : Val → Store → Prop} {X : XPost} (T : Tops C) {f : Addr} (F : FnAt C.w.params f) (h : fnOk (hd.heap_39 C.w.params) F.fd = true) {ds : List Val} (ps : List Str) (hroom : 0 < C.room)
    (hbind : ∀ vs : List Value, vs.length = ds.length → bindArgs F.fd ⟨vs, []⟩ = pure (ps.zip vs)) (hps : (decide ps.Nodup) = true) (hlen : ps.length = ds.length)
    (hkind : (ps.all fun x => F.fd.scope.names.lookup x == some .local || F.fd.scope.names.lookup x == some .cell) = true)
    (hb : ∀ C', Tops C' → Kn C' F.fd.scope.names → C'.room + 1 = C.room → C'.w = C.w → C'.Fn → Ex C' (fun x => (ps.zip ds).lookup x) σ F.body (EntP Q) (fun c z9a σ' => X c ρ σ')) : CalC C ρ σ (.ref f) ds Q X := by
  have D := F.def_ h
  rw [← T.K] at D
  refine CalC.enter D hroom hbind (of_decide_eq_true hps) hlen (fun x hx => ?_) fun C' hC => hb C' (T.callee hC) (Kn.callee hC) hC.room hC.w hC.fn
  have := List.all_eq_true.mp hkind x hx
  simpa using this
set_option maxRecDepth 100000
noncomputable def fn79 (p : Params) : FnAt p 79 := ⟨_, _, ⟨_, rfl, rfl⟩, rfl⟩
theorem bind1 {fd : FuncData} {p₁ : Str} (h : ∀ v, bindArgs fd ⟨[v], []⟩ = pure [(p₁, v)]) : ∀ vs : List Value, vs.length = 1 → bindArgs fd ⟨vs, []⟩ = pure ([p₁].zip vs) := by
  intro vs hv
  rcases vs with _ | ⟨v, _ | ⟨_, _⟩⟩ <;> simp at hv
  exact h v
theorem order_of_spec {C : Cx} {ρ σ} (T : Tops C) (hr : 1 ≤ C.room) {X : XPost} (l : Int) : Cal C ρ σ (.ref 79) [.int l] (fun d σ' => d = keyVal l ∧ σ' = σ) X := by
  refine FnAt.enter T (fn79 _) (by kernel_rfl) ["literal"] hr (bind1 fun z9a => by rfl) (by kernel_rfl) rfl (by kernel_rfl) fun C' T' KN hr' hw hF => ?_
  refine Ex.cons (Ex1.ret (Ev.tuple (Evs.cons (evB T' KN (by rfl) (by kernel_rfl) (by rfl) (Evs.cons (nmL KN (by rfl) (by rfl) (Evs.nil (Cal.abs (Evs.cons (Ev.cmp (nmL KN (by rfl) (by rfl) (Ev.int (Bin.gt ?_)))) (by rfl)))))) (star1 fun z9a => by rfl)) (by rfl))))
  exact Evs.nil ⟨by simp, rfl, rfl⟩
end Mine
set_option tactic.hygienic false
namespace Mine
open PySem PySem.W PyProof.Rows PySem.Calls
set_option maxRecDepth 100000
noncomputable def cd69 (p : Params) : {c : ClassData // clsIn (hd.heap_39 p) 69 = some c} := ⟨_, rfl⟩
/-- a fault in the making: e with the record vs, its dict holding kvs (none yet where there is none); h₀ is what stood before -/
noncomputable def Fault (prog : Program) (w : World) (h₀ h : Heap) (e : Addr) (vs : Array Value) (n : Nat) : Prop :=
  ∃ dd sl, h.get? e = some ⟨.ref 69, dd, .fields vs, sl⟩ ∧ h₀.get? e = none ∧ (∀ b o, h₀.get? b = some o → h.get? b = some o) ∧
    ((dd = none) ∨ ∃ D kvs, dd = some D ∧ h₀.get? D = none ∧ D ≠ e ∧ h.DictOf (PySem.strKind prog w) D kvs ∧ kvs.length ≤ n)
section
variable {prog : Program} {w : World} {A : Around} {E : Value → Shared → Prop} {s : Shared} {h₀ : Heap}
theorem exc_passes (self : Value) : refuseLoop self "__setattr__" [.ref 69, .ref 40, .type "Exception", .type "BaseException", .type "object"] = pure () := by
  rw [refuseLoop_ref, refuseLoop_ref]
  exact PySem.F.store_Exception.passes self
theorem exc_set {e : Addr} {vs : Array Value} {name : Str} {v : Value} {n : Nat} {Q : Unit → Shared → Prop} (p : Params) (X₀ : (hd.heap_39 p).In h₀) (hF : Fault prog w h₀ s.heap e vs n) (hn : findIn (hd.heap_39 p) (.ref 69) name = some none) (hz : n ≤ 10)
    (h : ∀ h' tk, Fault prog w h₀ h' e vs (n + 1) → Q () { s with heap := h', toks := tk }) : wpAny (model prog w) A (setAttr (.ref e) name v) Q E s := by
  obtain ⟨dd, sl, ho, he0, keep, hdd⟩ := hF
  have X : (hd.heap_39 p).In s.heap := fun b o e1 => keep _ _ (X₀ b o e1)
  have hsa : findIn (hd.heap_39 p) (.ref 69) "__setattr__" = some (some (.builtin "object.__setattr__")) := by kernel_rfl
  have hcls := (cd69 p).2
  have ty : Looks (model prog w) s.heap (typeOf (.ref e)) (.ref 69) := (Looks.ld ho).andThen .now
  -- as set_plain
  refine wpAny_bind (wpAny_mkText (wpAny_bind (wpAny_bind (wpAny_bind (ty _ _ _ _ (fun z9a z9b e => e) (looks_findIn X hsa _ _ _ _ (fun z9a z9b e => e) (wpAny_holding ?_)))))))
  rw [PySem.F.store_object.slot.bind]
  refine wpAny_bind (wpAny_pure (wpAny_bind (wpAny_call (codeAny_mono (R := fun r s' => match r with | .ok (.ret _) => Q () s' | .ok _ => False | .error e => E e s') ?_ fun r s' z => ?_))))
  · have SF := PySem.F.store_object
    have sub : Looks (model prog w) s.heap (isInstance (.ref e) (.type "object")) true := ty.andThen (looks_mroIn X (by kernel_rfl : mroIn (hd.heap_39 p) 69 (.type "object") = some true))
    refine codeAny_call_builtin SF.slot.plain SF.entry (@check_slot (model prog w) _ _ _ "object.__setattr__" "object" "__setattr__" (.ref e) [.str name s.toks, v] [] _ SF.kind SF.split sub (SF.args (.ref e) (.str name s.toks) v) ?_)
    have hm : Looks (model prog w) s.heap (mroOf (.ref 69)) [.ref 69, .ref 40, .type "Exception", .type "BaseException", .type "object"] := (looks_clsIn X hcls).andThen .now
    show wpAny _ _ (Builtin.«object.__setattr__» ⟨[.ref e, .str name s.toks, v], []⟩) _ _ _
    rw [osa_eq, refuse_eq]
    refine wpAny_bind (wpAny_bind (ty.here (s := { s with toks := s.toks + 1 }) (wpAny_bind (hm.here (s := { s with toks := s.toks + 1 }) ?_))))
    rw [exc_passes]
    refine wpAny_pure (wpAny_bind (ty.here (s := { s with toks := s.toks + 1 }) (wpAny_bind ((looks_findIn X hn).here (s := { s with toks := s.toks + 1 }) (wpAny_bind (wpAny_pure ?_))))))
    refine wpAny_bind (wpAny_pure (wpAny_bind (wpAny_bind (wpAny_loadPart ho (wpAny_bind (Looks.here (s := { s with toks := s.toks + 1 }) (looks_clsIn X hcls) ?_))))))
    have hhd : (cd69 p).1.hasDict = true := rfl
    rw [hhd]
    have fin : ∀ (hh : Heap) (tk : Nat) (D : Addr) (kvs : List (Str × Value)), hh.get? e = some ⟨.ref 69, some D, .fields vs, sl⟩ → h₀.get? D = none → D ≠ e → hh.DictOf (PySem.strKind prog w) D kvs → kvs.length ≤ n → (∀ b o, b ≠ e → h₀.get? b = some o → hh.get? b = some o) → wpAny (model prog w) A.in1 (Builtin.ObjectAttr.storeInDict D (.str name s.toks) name v) (fun fin s' => match fin with | .done f => (match (Except.ok f : Result) with | .ok (.ret _) => Q () s' | .ok _ => False | .error e => E e s') | .again c' => c'.quiet = true ∧ codeAny (model prog w) A c' (fun r s' => match r with | .ok (.ret _) => Q () s' | .ok _ => False | .error e => E e s') s')
          (fun e s' => E e s') { s with heap := hh, toks := tk } := fun hh tk D kvs he hD0 hDe hDo hk hkeep => by
      unfold Builtin.ObjectAttr.storeInDict
      refine wpAny_bind (wpAny_pure (wpAny_bind ?_))
      refine wpAny_nsSet_pairs (s := { s with heap := hh, toks := tk }) hDo fun h' hw' hs => ?_
      obtain ⟨o₂, es₂, ep₂, ho₂, hc₂, hd₂, _, hp₂, _⟩ := id hw'
      have hl : (stored kvs name v).length ≤ n + 1 := by
        unfold stored; split
        · rw [List.length_map]; lia
        · rw [List.length_append]; simp; lia
      refine wpAny_bind (wpAny_lookBehind ho₂ (by
        rw [hd₂]; refine pastItsLine_dict ?_
        have e1 := hp₂.length
        have e2 : es₂.toList.length = es₂.size := by simp
        rw [sizeLine_eq]; lia) ?_)
      refine wpAny_pure (h h' (tk + 1) ⟨some D, sl, (hs.2 _ hDe.symm).trans he, he0, fun b o e1 => ?_, .inr ⟨D, _, rfl, hD0, hDe, hw', hl⟩⟩)
      have hb : b ≠ e := fun q => by rw [q, he0] at e1; cases e1
      exact (hs.2 _ (fun q => by rw [q, hD0] at e1; cases e1)).trans (hkeep b o hb e1)
    rcases hdd with rfl | ⟨D, kvs, rfl, hD0, hDe, hDo, hk⟩
    · simp only [Bool.not_true, Bool.false_eq_true, if_false]
      rw [if_neg (by simp [typeHasDict])]
      have he₁ : (s.heap.push { cls := .type "dict", data := .dict #[] }).get? e = some ⟨.ref 69, none, .fields vs, sl⟩ := Heap.get?_push_of_some _ ho
      have hes : e ≠ s.heap.objs.size := Nat.ne_of_lt (Heap.lt_size ho)
      refine wpAny_bind (wpAny_alloc' ?_)
      refine wpAny_bind (wpAny_update' he₁ ?_)
      refine wpAny_pure ?_
      refine fin _ _ s.heap.objs.size [] (Heap.get?_update_self _ he₁ rfl) ?_ hes.symm ?_ (Nat.zero_le _) ?_
      · cases q : h₀.get? s.heap.objs.size with
        | none => rfl
        | some o => exact absurd (Heap.lt_size (keep _ _ q)) (Nat.lt_irrefl _)
      · obtain ⟨o, es, ep, g1, r⟩ := Heap.DictOf.new (knd := PySem.strKind prog w) s.heap
        exact ⟨o, es, ep, (Heap.get?_update_ne _ _ _ _ hes.symm).trans g1, r⟩
      · exact fun b o hb e1 => (Heap.get?_update_ne _ _ _ _ hb).trans (Heap.get?_push_of_some _ (keep b o e1))
    · simp only [Bool.not_true, Bool.false_eq_true, if_false]
      refine wpAny_pure (a := some D) ?_
      exact fin s.heap _ D kvs ho hD0 hDe hDo hk (fun b o z9a e1 => keep b o e1)
  · rcases r with e | (v | _ | _ | _) <;> first | exact z | exact wpAny_pure (wpAny_pure z)
end
end Mine
set_option tactic.hygienic false
namespace Mine
open PySem PySem.W PyProof.Rows PySem.Calls
set_option maxRecDepth 100000
theorem slot_wd_get : Slot "wrapper_descriptor" "__get__" "wrapper_descriptor.__get__" := .of (owner := "wrapper_descriptor") (n := "__get__") (by rw [typeLookup_type, builtinLookup_eq_fast]; kernel_rfl) (by decide +kernel) (by decide +kernel) (by decide +kernel)
  (by first | exact .inl (by decide +kernel) | exact .inr (by decide +kernel)) (by rw [isSubtype_type]; kernel_rfl)
theorem entry_wd_get : entryFor table "wrapper_descriptor.__get__" = some Builtin.«wrapper_descriptor.__get__» := entryFor_of_tree (by kernel_rfl)
theorem args_wd_get (a b c : Value) : argsOk "wrapper_descriptor.__get__" ⟨[a, b, c], []⟩ := by unfold argsOk; kernel_rfl
theorem type_exc_init : typeOf (.builtin "Exception.__init__") = pure (.type "wrapper_descriptor") := by show builtinType _ = _; rw [builtinType_eq_fast]; kernel_rfl
theorem entry_exc_init : entryFor table "Exception.__init__" = some Builtin.«BaseException.__init__» := PySem.F.excCall_Exception.initEntry
theorem weight_exc_init : plainId "Exception.__init__" = true := by decide +kernel
noncomputable def mwObj (x : Addr) : Obj := { cls := .type "method-wrapper", dict := none, data := .fields #[.builtin "Exception.__init__", .ref x], slots := #[] }
section
variable {prog : Program} {w : World} {M : Model} {A : Around} {E : Value → Shared → Prop} {h : Heap} {g : Array GenState} {d : Drawn} {t : Nat} {os : OsState}
theorem wd_get {x C : Addr} {ox : Obj} {v : Value} {Q : Fin → Shared → Prop} (hx : h.get? x = some ox) (hxc : ox.cls = .ref C) (hi : Looks (model prog w) h (isSubtype (.ref C) (.type "Exception")) true) (hv : (v == Value.none) = false)
    (hq : Q (.done (.ret (.ref h.objs.size))) ⟨h.push (mwObj x), g, d, t, os⟩) : wpAny (model prog w) A (Builtin.«wrapper_descriptor.__get__» ⟨[.builtin "Exception.__init__", .ref x, v], []⟩) Q E ⟨h, g, d, t, os⟩ := by
  unfold Builtin.«wrapper_descriptor.__get__»
  have e1 : (".".intercalate ("Exception.__init__".cutAt '.').dropLast) = "Exception" := by first | rfl | decide +kernel
  repeat (first
    | (with_reducible refine wpAny_loadPart_at hx ?_; rw [hxc])
    | (rw [e1]; with_reducible refine Looks.at hi ?_)
    | (simp only [hv, Bool.false_eq_true, if_false])
    | wp_step
    | dsimp only)
  all_goals exact hq
theorem super_ga_blt {so D x C : Addr} {ox : Obj} {l₀ l : List Value} {K : Frag} {tk : Tok} {Q : Fin → Shared → Prop}
    (hso : h.get? so = some { cls := .type "super", dict := none, data := .fields #[.ref D, .ref x, .ref C], slots := #[] }) (hno : Looks (model prog w) h (opaqueClassAbove (.ref C)) none)
    (hC : Looks (model prog w) h (mroOf (.ref C)) l₀) (hl : (l₀.dropWhile (· != .ref D)).drop 1 = l) (X : K.In h)
    (hf : alongIn K "__init__" l = some (some (.builtin "Exception.__init__"))) (hx : h.get? x = some ox) (hxc : ox.cls = .ref C) (hi : Looks (model prog w) h (isSubtype (.ref C) (.type "Exception")) true) (hxC : x ≠ C)
    (hq : Q (.done (.ret (.ref h.objs.size))) ⟨h.push (mwObj x), g, d, t, os⟩) :
    wpAny (model prog w) A (Builtin.«super.__getattribute__» ⟨[.ref so, .str "__init__" tk], []⟩) Q E ⟨h, g, d, t, os⟩ := by
  have hlk := slot_wd_get.lookup
  have hne : (Value.ref x == Value.ref C) = false := by simp [hxC]
  have hTf : (⟨h, g, d, t, os⟩ : Shared).TypeIs (.builtin "Exception.__init__") "wrapper_descriptor" := type_exc_init
  have hdt : ({ cls := .type "super", dict := none, data := .fields #[.ref D, .ref x, .ref C], slots := #[] } : Obj).data = .fields #[.ref D, .ref x, .ref C] := rfl
  have f0 : (#[.ref D, .ref x, .ref C] : Array Value)[0]? = some (.ref D) := rfl
  have f1 : (#[.ref D, .ref x, .ref C] : Array Value)[1]? = some (.ref x) := rfl
  have f2 : (#[.ref D, .ref x, .ref C] : Array Value)[2]? = some (.ref C) := rfl
  have hn : (("__init__" : Str) == ("__class__" : Str)) = false := by decide
  unfold Builtin.«super.__getattribute__»
  repeat (first
    | (with_reducible refine wpAny_field hso hdt f0 ?_) | (with_reducible refine wpAny_field hso hdt f1 ?_) | (with_reducible refine wpAny_field hso hdt f2 ?_)
    | (with_reducible refine ks_wpAny_notOpaque hno ?_)
    | (with_reducible refine Looks.at hC ?_; rw [hl])
    | (refine ks_forIn_along X (fun z9a z9b => rfl) rfl ?_ hf)
    | (with_reducible refine wpAny_typeOf hTf ?_)
    | (with_reducible refine wpAny_call_entry slot_wd_get hTf entry_wd_get ?_ (args_wd_get _ _ _))
    | (with_reducible refine wd_get hx hxc hi rfl ?_)
    | (with_reducible refine ⟨_, rfl, ?_⟩)
    | (simp only [hn, hne, Bool.or_false, Bool.false_eq_true, if_false])
    | wp_step
    | dsimp only)
  all_goals exact hq
theorem getMethod_super_blt {so D x C : Addr} {ox : Obj} {l₀ l : List Value} {K : Frag} {pl : Sem Bool} {Q : Value × List Value → Shared → Prop}
    (hso : h.get? so = some { cls := .type "super", dict := none, data := .fields #[.ref D, .ref x, .ref C], slots := #[] }) (hno : Looks (model prog w) h (opaqueClassAbove (.ref C)) none)
    (hC : Looks (model prog w) h (mroOf (.ref C)) l₀) (hl : (l₀.dropWhile (· != .ref D)).drop 1 = l) (X : K.In h)
    (hf : alongIn K "__init__" l = some (some (.builtin "Exception.__init__"))) (hx : h.get? x = some ox) (hxc : ox.cls = .ref C) (hi : Looks (model prog w) h (isSubtype (.ref C) (.type "Exception")) true) (hxC : x ≠ C)
    (hq : Q (.ref h.objs.size, []) ⟨h.push (mwObj x), g, d, t + 1, os⟩) :
    wpAny (model prog w) A (getMethod (.ref so) "__init__" pl) Q E ⟨h, g, d, t, os⟩ := by
  have hlk := F.ks_slot_super_ga.lookup
  have hcan := F.ks_canon_super_ga
  have hT : ∀ t', (⟨h, g, d, t', os⟩ : Shared).TypeIs (.ref so) "super" := fun z9a => ⟨_, hso, rfl⟩
  unfold getMethod
  refine wpAny_bind (wpAny_specialOf (hT _) hlk ?_)
  show wpAny _ _ (if (Manifest.canonical "super.__getattribute__" != "object.__getattribute__") = true then _ else _) _ _ _
  rw [if_pos hcan]
  unfold getAttr getAttrBy
  refine wpAny_bind (wpAny_bind (wpAny_mkText (wpAny_holding (wpAny_bind (wpAny_typeOf (hT _) (wpAny_bind (wpAny_of_eq hlk ?_)))))))
  show wpAny _ _ (getAttrByItsOwn (.ref so) (.str "__init__" t) (.type "super") (.builtin "super.__getattribute__") true false) _ _ _
  unfold getAttrByItsOwn hookBefore callGetattribute boundAndCalled
  refine wpAny_bind (wpAny_of_eq (show (if onTheHeap (.type "super") then typeLookup (.type "super") "__getattr__" else pure none) = pure none from rfl) ?_)
  refine wpAny_bind (wpAny_attempt (wpAny_holding ?_))
  show wpAny _ _ (bindSpecial (.builtin "super.__getattribute__") (.ref so) >>= _) _ _ _
  refine wpAny_bind (wpAny_of_eq (F.ks_slot_super_ga.bind _) ?_)
  refine wpAny_mono (Q := fun v s' => v = .ref h.objs.size ∧ s' = ⟨h.push (mwObj x), g, d, t + 1, os⟩) (E := fun z9a z9b => False)
    (wpAny_call_entry F.ks_slot_super_ga (hT _) F.ks_entry_super_ga (super_ga_blt hso hno hC hl X hf hx hxc hi hxC ⟨_, rfl, rfl, rfl⟩) (F.ks_gaArgs_super _ _)) (fun v s' hv => ?_) fun z9a z9b z => z.elim
  obtain ⟨rfl, rfl⟩ := hv
  exact wpAny_pure (wpAny_pure hq)
/-- the record's args are put anew -/
theorem exc_init_entry {x : Addr} {ox : Obj} {vs : Array Value} {v : Value} {Q : Fin → Shared → Prop} (hx : h.get? x = some ox) (hd : ox.data = .fields vs) {t0 : Addr} (hz : vs[0]? = some (.ref t0))
    (hq : Q (.done (.ret .none)) ⟨(h.push { cls := .type "tuple", data := .seq #[v] }).update x (Obj.mapFields (·.setIfInBounds 0 (.ref h.objs.size))), g, d, t, os⟩) :
    wpAny (model prog w) A (Builtin.«BaseException.__init__» ⟨[.ref x, v], []⟩) Q E ⟨h, g, d, t, os⟩ := by
  unfold Builtin.«BaseException.__init__»
  dsimp only
  rw [if_neg (by simp)]
  unfold newTuple Builtin.BaseException.bexcPut
  have hsz : 0 < vs.size := (Array.getElem?_eq_some_iff.mp hz).1
  have he₁ := Heap.get?_push_of_some (h := h) { cls := .type "tuple", data := .seq #[v] } hx
  refine wpAny_bind (wpAny_newObj_type (wpAny_bind (wpAny_bind (wpAny_field he₁ hd hz (wpAny_bind (wpAny_setField he₁ hd hsz ?_))))) (by show (#[v]).size ≤ sizeLine; size_fits))
  exact wpAny_letGo (wpAny_pure hq)
theorem mw_call {x m C : Addr} {ox : Obj} {vs : Array Value} {v : Value} {Q : Value → Shared → Prop} (hm : h.get? m = some (mwObj x)) (hx : h.get? x = some ox) (hxc : ox.cls = .ref C) (hd : ox.data = .fields vs) {t0 : Addr} (hz : vs[0]? = some (.ref t0)) {oC : Obj} {cd : ClassData} (hC : h.get? C = some oC) (hCd : oC.data = .cls cd)
    (hi : Looks (model prog w) h (isSubtype (.ref C) (.type "Exception")) true)
    (hq : Q .none ⟨(h.push { cls := .type "tuple", data := .seq #[v] }).update x (Obj.mapFields (·.setIfInBounds 0 (.ref h.objs.size))), g, d, t, os⟩) : wpAny (model prog w) A (call (.ref m) [v]) Q E ⟨h, g, d, t, os⟩ := by
  refine wpAny_call (codeAny_of_tree ?_)
  show wpAny _ A.in1 (callAny (.ref m) ⟨[v], []⟩) _ _ _
  simp only [callAny]
  refine wpAny_bind (wpAny_load hm ?_)
  simp only [mwObj, show (Value.type "method-wrapper" == Value.type "method" || Value.type "method-wrapper" == Value.type "builtin_function_or_method" || Value.type "method-wrapper" == Value.type "method-wrapper") = true by decide, if_true]
  refine KFB.if_so (by decide) ?_
  have hk : wpAny (model prog w) A.in1 (checkBoundCall "Exception.__init__" ⟨[.ref x, v], []⟩) (fun z9a s' => s' = ⟨h, g, d, t, os⟩) (fun z9a z9b => False) ⟨h, g, d, t, os⟩ := by
    have FF := PySem.F.excCall_Exception
    have hshort := FF.noStar
    unfold checkBoundCall
    rw [FF.initRow, FF.initKind]
    obtain ⟨C1, C2, C3, C4⟩ := oC
    obtain rfl : C3 = .cls cd := hCd
    repeat (first | (with_reducible refine wpAny_loadPart_at hx ?_; rw [hxc]) | with_reducible refine wpAny_loadPart_at hC ?_ | (with_reducible refine Looks.at hi ?_) | wp_step)
    all_goals rfl
  refine wpAny_bind (wpAny_mono hk (fun z9a s' e => ?_) fun z9a z9b z => z.elim)
  subst e
  refine wpAny_bind (wpAny_pure (wpAny_pure ?_))
  refine ⟨plainId_quiet weight_exc_init _, codeAny_builtin entry_exc_init ?_⟩
  exact exc_init_entry hx hd hz hq
end
end Mine
set_option tactic.hygienic false
namespace Mine
open PySem PySem.W PyProof.Rows PySem.Calls
set_option maxRecDepth 100000
noncomputable abbrev PR : Program := PySem.Challenge.rw_no0006_01.row.prog
section
variable {prog : Program} {w : World} {h₀ h : Heap} {e : Addr} {vs : Array Value} {n : Nat}
theorem Fault.keeps (F : Fault prog w h₀ h e vs n) : ∀ b o, h₀.get? b = some o → h.get? b = some o := let ⟨_, _, _, _, k, _⟩ := F; k
theorem Fault.grow {h' : Heap} (F : Fault prog w h₀ h e vs n) (k : ∀ b o, h.get? b = some o → h'.get? b = some o) : Fault prog w h₀ h' e vs n := by
  obtain ⟨dd, sl, a, b, c, d⟩ := F
  refine ⟨dd, sl, k _ _ a, b, fun x o y => k _ _ (c x o y), ?_⟩
  rcases d with d | ⟨D, kvs, d1, d2, d3, ⟨o, es, ep, ho, r⟩, d5⟩
  · exact .inl d
  · exact .inr ⟨D, kvs, d1, d2, d3, ⟨o, es, ep, k _ _ ho, r⟩, d5⟩
theorem Fault.part (F : Fault prog w h₀ h e vs n) : ∃ P : Addr → Prop, (∀ b, P b → ∃ o, h.get? b = some o) ∧ (∀ b, P b → h₀.get? b = none) ∧ ∀ h', (∀ b o, h.get? b = some o → h'.get? b = some o) → Fault prog w (wipe h' P) h' e vs n := by
  obtain ⟨dd, sl, a, b, c, d⟩ := id F
  rcases d with d | ⟨D, kvs, d1, d2, d3, ⟨o, es, ep, ho, r⟩, d5⟩
  · refine ⟨fun b => b = e, fun b q => by subst q; exact ⟨_, a⟩, fun x q => by subst q; exact b, fun h' k => ⟨dd, sl, k _ _ a, wipe_none rfl, fun x o y => (wipe_get.mp y).2, .inl d⟩⟩
  · refine ⟨fun b => b = e ∨ b = D, fun b q => by rcases q with rfl | rfl; exact ⟨_, a⟩; exact ⟨_, ho⟩, fun x q => by rcases q with rfl | rfl; exact b; exact d2,
      fun h' k => ⟨dd, sl, k _ _ a, wipe_none (.inl rfl), fun x o y => (wipe_get.mp y).2, .inr ⟨D, kvs, d1, wipe_none (.inr rfl), d3, ⟨o, es, ep, k _ _ ho, r⟩, d5⟩⟩⟩
theorem Fault.narrow {B : Heap} (F : Fault prog w B h e vs n) (k : ∀ b o, h₀.get? b = some o → B.get? b = some o) : Fault prog w h₀ h e vs n := by
  have no : ∀ b, B.get? b = none → h₀.get? b = none := fun b hb => by
    cases q : h₀.get? b with
    | none => rfl
    | some o => rw [k _ _ q] at hb; cases hb
  obtain ⟨dd, sl, a, b, c, d⟩ := F
  refine ⟨dd, sl, a, no _ b, fun x o y => c _ _ (k _ _ y), ?_⟩
  rcases d with d | ⟨D, kvs, d1, d2, d3, r, d5⟩
  · exact .inl d
  · exact .inr ⟨D, kvs, d1, no _ d2, d3, r, d5⟩
end
theorem Fault.put {prog : Program} {w : World} {h₀ h : Heap} {e : Addr} {vs vs' : Array Value} {n : Nat} {u : Value} (F : Fault prog w h₀ h e vs n) (hv : vs' = vs.setIfInBounds 0 u) : Fault prog w h₀ (h.update e (Obj.mapFields (·.setIfInBounds 0 u))) e vs' n := by
  subst hv
  obtain ⟨dd, sl, a, b, c, d⟩ := F
  refine ⟨dd, sl, ?_, b, fun x o y => (Heap.get?_update_other _ _ (fun q => by subst q; rw [b] at y; cases y)).trans (c x o y), ?_⟩
  · rw [Heap.get?_update_self _ a rfl]; rfl
  · rcases d with d | ⟨D, kvs, d1, d2, d3, ⟨o, es, ep, ho, r⟩, d5⟩
    · exact .inl d
    · exact .inr ⟨D, kvs, d1, d2, d3, ⟨o, es, ep, (Heap.get?_update_other _ _ (Ne.symm d3)).trans ho, r⟩, d5⟩
theorem keeper_mw {M : Model} {h : Heap} {m e : Addr} (hm : h.get? m = some (mwObj e)) : Looks M h (keeperOf (.ref m)) .machine := by
  unfold keeperOf
  refine (Looks.ld hm).andThen ?_
  exact Looks.of_pure (by rfl)
noncomputable def fn59 (p : Params) : FnAt p 59 := ⟨_, _, ⟨_, rfl, rfl⟩, rfl⟩
noncomputable def fn30 (p : Params) : FnAt p 30 := ⟨_, _, ⟨_, rfl, rfl⟩, rfl⟩
noncomputable def at_ (p : Params) (a : Addr) (h : ((hd.heap_39 p).lookup a).isSome = true) : {o // (hd.heap_39 p).lookup a = some o} := ⟨((hd.heap_39 p).lookup a).get h, by simp⟩
section
variable {w : World} {A : Around} {E : Value → Shared → Prop} {R : Result → Shared → Prop} {s : Shared} {h₀ : Heap} {e : Addr} {vs : Array Value} {n : Nat} {t0 : Addr}
/-- the line super().__init__(what) that comes to the built-in one -/
theorem super_blt {env : Env} {p0 p1 pos np : Pos} {pl : Sem Bool} {whole : Sem Value} {m : Str → Option Value} {v : Value} {body : List Stmt} {Q : Value → Shared → Prop} (henv : ∃ L, env = callEnv (fn30 w.params).fd L 30) (X₀ : (hd.heap_39 w.params).In h₀) (T : ∃ p loose mg mb, TopRead p loose mg mb h₀) (F : Fault PR w h₀ s.heap e vs n) (h0 : vs[0]? = some (.ref t0))
    (hns : h₀.Ns env.locals m) (hs : m "self" = some (.ref e)) (hw : m "what" = some v)
    (h : ∀ h' tk vs' t1, Fault PR w h₀ h' e vs' n → vs'[0]? = some (.ref t1) → vs'[1]? = vs[1]? → vs'.size = vs.size → Q .none { s with heap := h', toks := tk }) :
    PySem.wpAt (model PR w) A (.func body env) (attributeBase (.Call (.Name "super" p0) [] [] p1) "__init__" env whole) (fun ov s₁ => wpAny (model PR w) A (getMethod ov "__init__" pl) (fun fx s₂ => wpAny (model PR w) A (callWith pos fx.1 fx.2 (backTo pos (starEach [.Name "what" np] env)) []) Q E s₂) E s₁) E s := by
  obtain ⟨L, rfl⟩ := henv
  obtain ⟨pp, loose, mg, mb, T⟩ := T
  obtain ⟨dd, sl, ho, he0, keep, hdd⟩ := id F
  have X : (hd.heap_39 w.params).In s.heap := fun b o q => keep _ _ (X₀ b o q)
  obtain ⟨o30, ho30, hd30⟩ := (fn30 w.params).at_
  have c29 : ∃ o vs file tf, (hd.heap_39 w.params).lookup 29 = some o ∧ o.data = .fields vs ∧ vs[2]? = some (.str file tf) ∧ ((PR.main.file : Str) == file) = true := ⟨_, _, _, _, rfl, rfl, rfl, by first | rfl | decide +kernel⟩
  obtain ⟨oc, cvs, file, tf, hc1, hc2, hc3, hc4⟩ := c29
  have c18 : ∃ o, (hd.heap_39 w.params).lookup 18 = some o ∧ o.data = .cell (some (.ref 40)) := ⟨_, rfl, rfl⟩
  obtain ⟨o18, h18, hd18⟩ := c18
  have c40 : ∃ o cd, (hd.heap_39 w.params).lookup 40 = some o ∧ o.data = .cls cd := ⟨_, _, rfl, rfl⟩
  obtain ⟨o40, cd40, h40, hd40⟩ := c40
  have c69 : ∃ o, (hd.heap_39 w.params).lookup 69 = some o ∧ o.data = .cls (cd69 w.params).1 := ⟨_, rfl, rfl⟩
  obtain ⟨o69, h69, hd69⟩ := c69
  have hsub : mroIn (hd.heap_39 w.params) 69 (.ref 40) = some true := by kernel_rfl
  have hsubE : mroIn (hd.heap_39 w.params) 69 (.type "Exception") = some true := by kernel_rfl
  have hsup : nsIn (hd.heap_39 w.params) mainGlobals "super" = some none := by kernel_rfl
  have hopq : nsIn (hd.heap_39 w.params) cStatics "thirdparty.any" = some none := by kernel_rfl
  have hboot : bootBuiltins "super" = some (.type "super") := by kernel_rfl
  have hin : ks_superIn (hd.heap_39 w.params) 69 40 "__init__" = some (some (.builtin "Exception.__init__")) := by kernel_rfl
  have hcls := (cd69 w.params).2
  obtain ⟨hh, g, dr, t, os⟩ := s
  refine ks_wpAt_super_base (env := callEnv (fn30 w.params).fd L 30) (ar := ((fn30 w.params).fd.params.posonlyargs ++ (fn30 w.params).fd.params.args).head!) (by rfl) (by rfl) (by decide) rfl (X _ _ ho30) hd30 (by rfl) (by rfl : _ = Value.ref 29) (X _ _ hc1) hc2 hc3 hc4 (by decide +kernel) ?_
  refine ks_loadName_global (by rfl) (by rfl) (loadGlobal_builtin (T.g.keeps keep) (mg_none_of X₀ T.g hsup) (T.b.keeps keep) ((T.builtins _ (by decide +kernel)).trans hboot) ⟨rfl, ?_⟩)
  refine wpAny_loadName_free (by rfl) (by rfl) (by rfl : _ = some 18) ⟨_, X _ _ h18, hd18⟩ ?_
  refine wpAny_loadName_local (by rfl) (by rfl) (hns.keeps keep) hs ?_
  refine ks_wpAny_isType_cls (X _ _ h40) hd40 ⟨rfl, ?_⟩
  refine ks_wpAny_call_super (X _ _ h40) hd40 ho rfl (fun c q => by cases q) (looks_mroIn X hsub) fun h1 e1 k1 => ?_
  have X1 : (hd.heap_39 w.params).In h1 := fun b o q => k1 _ _ (X b o q)
  refine getMethod_super_blt e1 (looks_opaque X1 hopq) (l₀ := (cd69 w.params).1.mro) ((looks_clsIn X1 hcls).andThen .now) rfl X1 (by unfold ks_superIn at hin; rw [hcls] at hin; exact hin) (k1 _ _ ho) rfl (looks_mroIn X1 hsubE) (fun q => ?_) ?_
  · subst q; rw [X₀ _ _ h69] at he0; cases he0
  · have F1 : Fault PR w h₀ (h1.push (mwObj e)) e vs n := (F.grow k1).grow fun b o q => Heap.get?_push_of_some _ q
    have km : ∀ b o, h1.get? b = some o → (h1.push (mwObj e)).get? b = some o := fun b o q => Heap.get?_push_of_some _ q
    refine callWith_of (P := fun hx => hx.get? h1.objs.size = some (mwObj e)) (by rfl) (fun hx hm => ⟨.machine, .inr (.inl rfl), keeper_mw hm⟩) ?_
    show wpAny _ _ (evalArgs _ true ((false, eval (.Name "what" np) (callEnv (fn30 w.params).fd L 30)) :: []) []) _ _ _
    refine evalArgs_plain (spliced_cons (wpAny_Name (wpAny_loadName_local (by rfl) (by rfl) (hns.keeps fun b o q => km _ _ (k1 _ _ (keep b o q))) hw (spliced_nil ?_)) (by decide)))
    have hm : (h1.push (mwObj e)).get? h1.objs.size = some (mwObj e) := Heap.get?_push_at rfl rfl
    refine ⟨hm, ?_⟩
    have hs0 : 0 < vs.size := (Array.getElem?_eq_some_iff.mp h0).1
    refine mw_call hm (km _ _ (k1 _ _ ho)) rfl rfl h0 (km _ _ (k1 _ _ (X _ _ h69))) hd69 (looks_mroIn (fun b o q => km _ _ (X1 b o q)) hsubE) ?_
    refine h _ _ (vs.setIfInBounds 0 (.ref (h1.push (mwObj e)).objs.size)) (h1.push (mwObj e)).objs.size ?_ (by simp [hs0]) (by simp [Array.getElem?_setIfInBounds]) (by simp)
    exact Fault.put (F1.grow fun b o q => Heap.get?_push_of_some _ q) rfl
end
end Mine
set_option tactic.hygienic false
namespace Mine
open PySem PySem.W PyProof.Rows PySem.Calls
set_option maxRecDepth 100000
section
variable {w : World} {A : Around} {E : Value → Shared → Prop} {R : Result → Shared → Prop} {s : Shared} {h₀ : Heap} {e : Addr} {vs : Array Value} {n : Nat} {t0 : Addr}
theorem init30 {v : Value} (hroom : A.depth < recursionLimit) (X₀ : (hd.heap_39 w.params).In h₀) (T : ∃ p loose mg mb, TopRead p loose mg mb h₀) (hl : h₀.NoLimit) (F : Fault PR w h₀ s.heap e vs n) (h0 : vs[0]? = some (.ref t0)) (hn : n ≤ 10)
    (h : ∀ h' tk vs' t1, Fault PR w h₀ h' e vs' (n + 1) → vs'[0]? = some (.ref t1) → vs'[1]? = vs[1]? → vs'.size = vs.size → R (.ok (.ret .none)) { s with heap := h', toks := tk }) :
    codeAny (model PR w) A (.call (.ref 30) ⟨[.ref e, v], []⟩) R s := by
  obtain ⟨P, hP1, hP2, hP3⟩ := F.part
  obtain ⟨dd, sl, ho, he0, keep, hdd⟩ := id F
  obtain ⟨o30, ho30, hd30⟩ := (fn30 w.params).at_
  have hcode : codeIn (hd.heap_39 w.params) (fn30 w.params).fd.code (fn30 w.params).fd.qualname = true := by kernel_rfl
  have hw : findIn (hd.heap_39 w.params) (.ref 69) "what" = some none := by kernel_rfl
  refine ks_codeAny_call_defAt (binds := [("self", .ref e), ("what", v)]) hroom (keep _ _ (X₀ _ _ ho30)) hd30 (hl.keeps keep) (codeRec_of (fun b o q => keep _ _ (X₀ b o q)) hcode) (fn30 w.params).body_ (BindsTo.of_eq (by rfl)) (fun x hx => ?_) (locs (by rfl)) (fun h₁ hns hk₁ => ?_)
  · have hc : ((fn30 w.params).fd.scope.names.all fun x => decide (x.2 ≠ .cell)) = true := by kernel_rfl
    exact of_decide_eq_true (List.all_eq_true.mp hc x hx)
  have FB := hP3 h₁ hk₁
  have st : ∀ b o, h₀.get? b = some o → (wipe h₁ P).get? b = some o := fun b o q => wipe_get.mpr ⟨(fun z => by rw [hP2 b z] at q; cases q), hk₁ _ _ (keep _ _ q)⟩
  have hnsB : (wipe h₁ P).Ns s.heap.objs.size (fun x => ([("self", Value.ref e), ("what", v)] : List (Str × Value)).reverse.lookup x) := by
    obtain ⟨oL, es, ep, hoL, r⟩ := hns
    refine ⟨oL, es, ep, wipe_get.mpr ⟨fun z => ?_, hoL⟩, r⟩
    obtain ⟨o, q⟩ := hP1 _ z
    exact absurd (Heap.lt_size q) (Nat.lt_irrefl _)
  refine ks_wpAt_execs_cons (ks_wpAt_Expr_any (ks_wpAt_MethodCall (super_blt ⟨_, rfl⟩ (fun b o q => st _ _ (X₀ b o q)) (let ⟨p, l, mg, mb, T⟩ := T; ⟨p, l, mg, mb, T.keeps st⟩) FB h0 hnsB (by rfl) (by rfl) fun h' tk vs' t1 F1 g0 g1 gs => ?_)))
  refine ks_wpAt_execs_cons (ks_wpAt_Assign_Attr (wpAt_of_wpAny (wpAny_Name (wpAny_loadName_local (by rfl) (by rfl) (hnsB.keeps F1.keeps) (by rfl) (wpAny_Name (wpAny_loadName_local (by rfl) (by rfl) (hnsB.keeps F1.keeps) (by rfl) ?_) (by decide))) (by decide))))
  refine exc_set w.params (fun b o q => st _ _ (X₀ b o q)) F1 hw (by lia) fun h'' tk'' F2 => ?_
  exact wpAt_of_wpAny (wpAny_execs_nil (h h'' tk'' vs' t1 (F2.narrow st) g0 g1 gs))
theorem keeper_mo {M : Model} {h : Heap} {m e f : Addr} {of : Obj} {fd : FuncData} (hm : h.get? m = some { cls := .type "method", data := .fields #[.ref f, .ref e] }) (hf : h.get? f = some of) (hd : of.data = .func fd) : Looks M h (keeperOf (.ref m)) .boundFrame := by
  unfold keeperOf
  refine (Looks.ld hm).andThen ?_
  refine (show Looks M h (load f >>= _) _ from (Looks.ld hf).andThen ?_)
  rw [hd]
  exact .now
/-- the line super().__init__(what) that comes to an own one -/
theorem super_own {env : Env} {p0 p1 pos np : Pos} {pl : Sem Bool} {whole : Sem Value} {m : Str → Option Value} {v : Value} {body : List Stmt} {Q : Value → Shared → Prop} (henv : ∃ L, env = callEnv (fn59 w.params).fd L 59) (X₀ : (hd.heap_39 w.params).In h₀) (T : ∃ p loose mg mb, TopRead p loose mg mb h₀) (F : Fault PR w h₀ s.heap e vs n) (h0 : vs[0]? = some (.ref t0))
    (hns : h₀.Ns env.locals m) (hs : m "self" = some (.ref e)) (hw : m "what" = some v)
    (hroom : A.in1.depth < recursionLimit) (hn : n ≤ 10) (h : ∀ h' tk vs' t1, Fault PR w h₀ h' e vs' (n + 1) → vs'[0]? = some (.ref t1) → vs'[1]? = vs[1]? → vs'.size = vs.size → Q .none { s with heap := h', toks := tk }) :
    PySem.wpAt (model PR w) A (.func body env) (attributeBase (.Call (.Name "super" p0) [] [] p1) "__init__" env whole) (fun ov s₁ => wpAny (model PR w) A (getMethod ov "__init__" pl) (fun fx s₂ => wpAny (model PR w) A (callWith pos fx.1 fx.2 (backTo pos (starEach [.Name "what" np] env)) []) Q E s₂) E s₁) E s := by
  obtain ⟨L, rfl⟩ := henv
  obtain ⟨pp, loose, mg, mb, T⟩ := T
  obtain ⟨dd, sl, ho, he0, keep, hdd⟩ := id F
  have X : (hd.heap_39 w.params).In s.heap := fun b o q => keep _ _ (X₀ b o q)
  obtain ⟨o59, ho59, hd59⟩ := (fn59 w.params).at_
  have c58 : ∃ o vs file tf, (hd.heap_39 w.params).lookup 58 = some o ∧ o.data = .fields vs ∧ vs[2]? = some (.str file tf) ∧ ((PR.main.file : Str) == file) = true := ⟨_, _, _, _, rfl, rfl, rfl, by first | rfl | decide +kernel⟩
  obtain ⟨oc, cvs, file, tf, hc1, hc2, hc3, hc4⟩ := c58
  have c18 : ∃ o, (hd.heap_39 w.params).lookup 47 = some o ∧ o.data = .cell (some (.ref 69)) := ⟨_, rfl, rfl⟩
  obtain ⟨o18, h18, hd18⟩ := c18
  have c69 : ∃ o, (hd.heap_39 w.params).lookup 69 = some o ∧ o.data = .cls (cd69 w.params).1 := ⟨_, rfl, rfl⟩
  obtain ⟨o69, h69, hd69⟩ := c69
  have hsub : mroIn (hd.heap_39 w.params) 69 (.ref 69) = some true := by kernel_rfl
  have hsup : nsIn (hd.heap_39 w.params) mainGlobals "super" = some none := by kernel_rfl
  have hopq : nsIn (hd.heap_39 w.params) cStatics "thirdparty.any" = some none := by kernel_rfl
  have hboot : bootBuiltins "super" = some (.type "super") := by kernel_rfl
  have hin : ks_superIn (hd.heap_39 w.params) 69 69 "__init__" = some (some (.ref 30)) := by kernel_rfl
  have hcls := (cd69 w.params).2
  obtain ⟨hh, g, dr, t, os⟩ := s
  refine ks_wpAt_super_base (env := callEnv (fn59 w.params).fd L 59) (ar := ((fn59 w.params).fd.params.posonlyargs ++ (fn59 w.params).fd.params.args).head!) (by rfl) (by rfl) (by decide) rfl (X _ _ ho59) hd59 (by rfl) (by rfl : _ = Value.ref 58) (X _ _ hc1) hc2 hc3 hc4 (by decide +kernel) ?_
  refine ks_loadName_global (by rfl) (by rfl) (loadGlobal_builtin (T.g.keeps keep) (mg_none_of X₀ T.g hsup) (T.b.keeps keep) ((T.builtins _ (by decide +kernel)).trans hboot) ⟨rfl, ?_⟩)
  refine wpAny_loadName_free (by rfl) (by rfl) (by rfl : _ = some 47) ⟨_, X _ _ h18, hd18⟩ ?_
  refine wpAny_loadName_local (by rfl) (by rfl) (hns.keeps keep) hs ?_
  refine ks_wpAny_isType_cls (X _ _ h69) hd69 ⟨rfl, ?_⟩
  refine ks_wpAny_call_super (X _ _ h69) hd69 ho rfl (fun c q => by cases q) (looks_mroIn X hsub) fun h1 e1 k1 => ?_
  have X1 : (hd.heap_39 w.params).In h1 := fun b o q => k1 _ _ (X b o q)
  obtain ⟨o30, ho30, hd30⟩ := (fn30 w.params).at_
  have hty : typeIn (hd.heap_39 w.params) (.ref 30) = some (.type "function") := by kernel_rfl
  have hc30 : o30.cls = .type "function" := by
    have z : ((hd.heap_39 w.params).lookup 30).map (·.cls) = some (.type "function") := hty
    rw [ho30] at z; exact Option.some.inj z
  refine ks_wpAny_getMethod_super e1 (looks_opaque X1 hopq) (l₀ := (cd69 w.params).1.mro) ((looks_clsIn X1 hcls).andThen .now) rfl X1 (by unfold ks_superIn at hin; rw [hcls] at hin; exact hin) (X1 _ _ ho30) hc30 (fun q => ?_) (by decide) ?_
  · subst q; rw [X₀ _ _ h69] at he0; cases he0
  · let mo : Obj := { cls := .type "method", data := .fields #[.ref 30, .ref e] }
    have km : ∀ b o, h1.get? b = some o → (h1.push mo).get? b = some o := fun b o q => Heap.get?_push_of_some _ q
    have F1 : Fault PR w h₀ (h1.push mo) e vs n := (F.grow k1).grow km
    refine callWith_of (P := fun hx => hx.get? h1.objs.size = some mo ∧ hx.get? 30 = some o30) (by rfl) (fun hx hm => ⟨.boundFrame, .inr (.inr rfl), keeper_mo hm.1 hm.2 hd30⟩) ?_
    show wpAny _ _ (evalArgs _ true ((false, eval (.Name "what" np) (callEnv (fn59 w.params).fd L 59)) :: []) []) _ _ _
    refine evalArgs_plain (spliced_cons (wpAny_Name (wpAny_loadName_local (by rfl) (by rfl) (hns.keeps fun b o q => km _ _ (k1 _ _ (keep b o q))) hw (spliced_nil ?_)) (by decide)))
    have hm : (h1.push mo).get? h1.objs.size = some mo := Heap.get?_push_at rfl rfl
    refine ⟨⟨hm, km _ _ (X1 _ _ ho30)⟩, ?_⟩
    refine wpAny_call (ks_codeAny_call_bound hm (init30 hroom X₀ ⟨pp, loose, mg, mb, T⟩ T.nolimit F1 h0 hn fun h' tk vs' t1 F2 g0 g1 gs => ?_))
    exact h h' tk vs' t1 F2 g0 g1 gs
theorem init59 {v v2 : Value} (hroom2 : A.depth + 1 < recursionLimit) (X₀ : (hd.heap_39 w.params).In h₀) (T : ∃ p loose mg mb, TopRead p loose mg mb h₀) (hl : h₀.NoLimit) (F : Fault PR w h₀ s.heap e vs n) (h0 : vs[0]? = some (.ref t0)) (hn : n ≤ 8)
    (h : ∀ h' tk vs' t1, Fault PR w h₀ h' e vs' (n + 2) → vs'[0]? = some (.ref t1) → vs'[1]? = vs[1]? → vs'.size = vs.size → R (.ok (.ret .none)) { s with heap := h', toks := tk }) :
    codeAny (model PR w) A (.call (.ref 59) ⟨[.ref e, v, v2], []⟩) R s := by
  obtain ⟨P, hP1, hP2, hP3⟩ := F.part
  obtain ⟨dd, sl, ho, he0, keep, hdd⟩ := id F
  obtain ⟨o59, ho59, hd59⟩ := (fn59 w.params).at_
  have hcode : codeIn (hd.heap_39 w.params) (fn59 w.params).fd.code (fn59 w.params).fd.qualname = true := by kernel_rfl
  have hw : findIn (hd.heap_39 w.params) (.ref 69) "step" = some none := by kernel_rfl
  refine ks_codeAny_call_defAt (binds := [("self", .ref e), ("what", v), ("step", v2)]) (by lia) (keep _ _ (X₀ _ _ ho59)) hd59 (hl.keeps keep) (codeRec_of (fun b o q => keep _ _ (X₀ b o q)) hcode) (fn59 w.params).body_ (BindsTo.of_eq (by rfl)) (fun x hx => ?_) (locs (by rfl)) (fun h₁ hns hk₁ => ?_)
  · have hc : ((fn59 w.params).fd.scope.names.all fun x => decide (x.2 ≠ .cell)) = true := by kernel_rfl
    exact of_decide_eq_true (List.all_eq_true.mp hc x hx)
  have FB := hP3 h₁ hk₁
  have st : ∀ b o, h₀.get? b = some o → (wipe h₁ P).get? b = some o := fun b o q => wipe_get.mpr ⟨(fun z => by rw [hP2 b z] at q; cases q), hk₁ _ _ (keep _ _ q)⟩
  have hnsB : (wipe h₁ P).Ns s.heap.objs.size (fun x => ([("self", Value.ref e), ("what", v), ("step", v2)] : List (Str × Value)).reverse.lookup x) := by
    obtain ⟨oL, es, ep, hoL, r⟩ := hns
    refine ⟨oL, es, ep, wipe_get.mpr ⟨fun z => ?_, hoL⟩, r⟩
    obtain ⟨o, q⟩ := hP1 _ z
    exact absurd (Heap.lt_size q) (Nat.lt_irrefl _)
  refine ks_wpAt_execs_cons (ks_wpAt_Expr_any (ks_wpAt_MethodCall (super_own ⟨_, rfl⟩ (fun b o q => st _ _ (X₀ b o q)) (let ⟨p, l, mg, mb, T⟩ := T; ⟨p, l, mg, mb, T.keeps st⟩) FB h0 hnsB (by rfl) (by rfl) (by show A.depth + 1 < recursionLimit; exact hroom2) (by lia) fun h' tk vs' t1 F1 g0 g1 gs => ?_)))
  refine ks_wpAt_execs_cons (ks_wpAt_Assign_Attr (wpAt_of_wpAny (wpAny_Name (wpAny_loadName_local (by rfl) (by rfl) (hnsB.keeps F1.keeps) (by rfl) (wpAny_Name (wpAny_loadName_local (by rfl) (by rfl) (hnsB.keeps F1.keeps) (by rfl) ?_) (by decide))) (by decide))))
  refine exc_set w.params (fun b o q => st _ _ (X₀ b o q)) F1 hw (by lia) fun h'' tk'' F2 => ?_
  exact wpAt_of_wpAny (wpAny_execs_nil (h h'' tk'' vs' t1 (F2.narrow st) g0 g1 gs))
end
end Mine
set_option tactic.hygienic false
namespace Mine
open PySem PySem.W PyProof.Rows PySem.Calls
set_option maxRecDepth 100000
section
variable {h : Heap} {g : Array GenState} {d : Drawn} {t : Nat} {os : OsState} {E : Value → Shared → Prop}
variable {nm q : Str} {C N : Addr} {bs bm bmB : List Value} {hdct : Bool} {sn : List Str} {sub : List Value} {ab : Bool} {col : Option Bool} {dd : Option Addr} {k0 k1 k2 k3 k5 : Option Value} {B newId initId : String}
theorem check_new {M : Model} {A : Around} (F : ExcBaseFacts B newId initId bmB) (hcB : (Value.ref C :: bm).contains (.type B) = true) {rest : List Value} {Q : Unit → Shared → Prop} (hC : h.get? C = some (excClassObj nm q C N bs bm hdct sn sub ab col dd k0 k1 k2 k3 k5 newId))
    (hq : Q () ⟨h, g, d, t, os⟩) : wpAny M A (checkBuiltinCall newId ⟨.ref C :: rest, []⟩) Q E ⟨h, g, d, t, os⟩ := by
  have hstar := F.noStar
  unfold checkBuiltinCall
  rw [F.newKind, F.newSplit, F.newRow]
  dsimp only
  repeat (first | refine wpAny_loadPart_at hC ?_ | (refine wpAny_isSubtype_exc hC ?_; rw [hcB]) | refine wpAny_staticBase_exc hC ?_ | refine wpAny_madeBy_exc hC ?_ | simp only [bne_self_eq_false, Bool.false_eq_true, if_false] | wp_step)
  exact hq
variable {prog : Program} {w : World} {A : Around} {R : Result → Shared → Prop}
theorem exc_new (F : ExcBaseFacts B newId initId bmB) (hcB : (Value.ref C :: bm).contains (.type B) = true) (hcA : (Value.ref C :: bm).contains (.type "AttributeError") = false) (hcN : (Value.ref C :: bm).contains (.type "NameError") = false) {rest : List Value} (hC : h.get? C = some (excClassObj nm q C N bs bm hdct sn sub ab col dd k0 k1 k2 k3 k5 newId))
    (hq : R (.ok (.ret (.ref (h.objs.size + 1)))) ⟨(h.push { cls := .type "tuple", data := .seq rest.toArray }).push
      { cls := .ref C, data := .fields #[.ref h.objs.size, .none, .none, .none, .bool false, .none] }, g, d, t, os⟩) (hrest : rest.length ≤ sizeLine := by size_fits) :
    codeAny (model prog w) A (.builtin newId ⟨.ref C :: rest, []⟩) R ⟨h, g, d, t, os⟩ := by
  have hends := F.ends
  refine codeAny_builtinAt F.entry ?_
  unfold Builtin.«BaseException.__new__»
  refine PySem.wpAt_bind ?_
  show PySem.wpAt _ _ _ (stack >>= _) _ _ _
  refine PySem.wpAt_bind (PySem.wpAt_stack fun p below => PySem.wpAt_of_wpAny ?_)
  wp_walk
  refine PySem.wpAt_of_wpAny ?_
  rw [F.owner]
  repeat (first | with_reducible refine wpAny_madeHere_exc F.canon hC ?_ | with_reducible refine wpAny_loadPart_at hC ?_ | (with_reducible refine wpAny_isSubtype_exc hC ?_; first | rw [hcB] | rw [hcA] | rw [hcN]) | wp_step)
  show R _ _
  rw [Heap.size_push]
  exact hq
theorem type_call_init (F : ExcBaseFacts B newId initId bmB) {bb : Bool} (hcB : (Value.ref C :: bm).contains (.type B) = true) (hcA : (Value.ref C :: bm).contains (.type "AttributeError") = false) (hcN : (Value.ref C :: bm).contains (.type "NameError") = false) {K : Frag} (X : K.In h) {rest : List Value} {fI : Addr} {oI : Obj} {Q : Fin → Shared → Prop}
    (hC : h.get? C = some (excClassObj nm q C N bs bm hdct sn sub ab col dd k0 k1 k2 k3 k5 newId)) (hi : findIn K (.ref C) "__init__" = some (some (.ref fI)))
    (hfI : h.get? fI = some oI) (hfc : oI.cls = .type "function")
    (hq : wpAny (model prog w) A (call (.ref fI) (.ref (h.objs.size + 1) :: rest)) (fun r s' => r = .none ∧ Q (.done (.ret (.ref (h.objs.size + 1)))) s') E
      ⟨(h.push { cls := .type "tuple", data := .seq rest.toArray }).push { cls := .ref C, data := .fields #[.ref h.objs.size, .none, .none, .none, .bool false, .none] }, g, d, t, os⟩) (hrest : rest.length ≤ sizeLine := by size_fits) :
    wpAny (model prog w) A (Builtin.«type.__call__» ⟨.ref C :: rest, []⟩) Q E ⟨h, g, d, t, os⟩ := by
  repeat (first | with_reducible refine wpAny_loadPart_at hC ?_ | with_reducible refine wpAny_madeBy_exc hC ?_ | wp_step)
  refine codeAny_call_builtin_code (Code.quiet_builtin _ F.quiet) (check_new F hcB hC ?_)
  refine exc_new F hcB hcA hcN hC ?_ hrest
  show wpAny _ _ _ _ _ _
  have up : ∀ b o, h.get? b = some o → ((h.push { cls := .type "tuple", data := .seq rest.toArray }).push { cls := .ref C, data := .fields #[.ref h.objs.size, .none, .none, .none, .bool false, .none] }).get? b = some o := fun b o e => Heap.get?_push_of_some _ (Heap.get?_push_of_some _ e)
  have hC₁ := up _ _ hC
  have hfI₁ := up _ _ hfI
  have X₁ : K.In ((h.push { cls := .type "tuple", data := .seq rest.toArray }).push { cls := .ref C, data := .fields #[.ref h.objs.size, .none, .none, .none, .bool false, .none] }) := fun b o e => up _ _ (X b o e)
  have hget : ((h.push { cls := .type "tuple", data := .seq rest.toArray }).push
      { cls := .ref C, data := .fields #[.ref h.objs.size, .none, .none, .none, .bool false, .none] }).get? (h.objs.size + 1) = some
      { cls := .ref C, data := .fields #[.ref h.objs.size, .none, .none, .none, .bool false, .none] } := by heap_get
  have hcC : (Value.ref C :: bm).contains (.ref C) = true := by simp
  unfold isInstance
  repeat (first | with_reducible refine wpAny_loadPart_at hget ?_ | (with_reducible refine wpAny_isSubtype_exc hC₁ ?_; rw [hcC]) | wp_step)
  show wpAny _ _ (typeLookup (.ref C) _) _ _ _
  refine Looks.here (s := ⟨_, g, d, t, os⟩) (looks_findIn X₁ hi) ?_
  refine wpAny_holding (wpAny_bind ?_)
  unfold bindSpecial
  refine wpAny_bind (wpAny_typeOf (T := "function") ⟨_, hfI₁, hfc⟩ ?_)
  rw [if_pos (by decide)]
  refine wpAny_pure (wpAny_bind (wpAny_mono hq (fun r s' hr => ?_) fun z9a z9b x => x))
  obtain ⟨rfl, hQ⟩ := hr
  wp_walk
  exact hQ
theorem call_init (F : ExcBaseFacts B newId initId bmB) (hcB : (Value.ref C :: bm).contains (.type B) = true) (hcA : (Value.ref C :: bm).contains (.type "AttributeError") = false) (hcN : (Value.ref C :: bm).contains (.type "NameError") = false) {K : Frag} (X : K.In h) {rest : List Value} {fI : Addr} {oI : Obj} {Q : Value → Shared → Prop}
    (hC : h.get? C = some (excClassObj nm q C N bs bm hdct sn sub ab col dd k0 k1 k2 k3 k5 newId)) (hi : findIn K (.ref C) "__init__" = some (some (.ref fI)))
    (hfI : h.get? fI = some oI) (hfc : oI.cls = .type "function")
    (hq : wpAny (model prog w) (A.under (.builtin "type.__call__" ⟨.ref C :: rest, []⟩)) (call (.ref fI) (.ref (h.objs.size + 1) :: rest)) (fun r s' => r = .none ∧ Q (.ref (h.objs.size + 1)) s') E
      ⟨(h.push { cls := .type "tuple", data := .seq rest.toArray }).push { cls := .ref C, data := .fields #[.ref h.objs.size, .none, .none, .none, .bool false, .none] }, g, d, t, os⟩) (hrest : rest.length ≤ sizeLine := by size_fits) :
    wpAny (model prog w) A (call (.ref C) rest) Q E ⟨h, g, d, t, os⟩ := by
  have f1 := tc_lookup
  have f2 := tc_bind (.ref C)
  have hT : (⟨h, g, d, t, os⟩ : Shared).TypeIs (.ref C) "type" := ⟨_, hC, rfl⟩
  refine wpAny_call (codeAny_of_tree ?_)
  show wpAny _ _ (callAny (.ref C) _) _ _ _
  repeat (any_goals (first | assumption | with_reducible refine wpAny_loadPart_at hC ?_ | wp_step))
  refine ⟨rfl, ?_⟩
  refine codeAny_call_builtin_at (Code.quiet_builtin _ (by decide +kernel)) entry_typeCall (wpAny_check_type_call_sub hC (type_call_init (bb := true) (hrest := hrest) F hcB hcA hcN X hC hi hfI hfc ?_))
  exact hq
end
section
variable {w : World} {A : Around} {E : Value → Shared → Prop} {s : Shared}
theorem c69E {p : Params} {G : Prop} (k : ∀ nm q bs hdct sn sub ab col dd k0 k1 k2 k3 k5, (hd.heap_39 p).lookup 69 = some (excClassObj nm q 69 68 bs [.ref 40, .type "Exception", .type "BaseException", .type "object"] hdct sn sub ab col dd k0 k1 k2 k3 k5 "Exception.__new__") → G) : G := k _ _ _ _ _ _ _ _ _ _ _ _ _ _ rfl
theorem make_fault {v v2 : Value} {Q : Value → Shared → Prop} (hroom : (A.under (.builtin "type.__call__" ⟨[.ref 69, v, v2], []⟩)).depth + 1 < recursionLimit) (X : (hd.heap_39 w.params).In s.heap) (T : ∃ p loose mg mb, TopRead p loose mg mb s.heap)
    (h : ∀ h' tk e vs t1, Fault PR w s.heap h' e vs 2 → vs[0]? = some (.ref t1) → vs[1]? = some .none → Q (.ref e) { s with heap := h', toks := tk }) : wpAny (model PR w) A (call (.ref 69) [v, v2]) Q E s := by
  obtain ⟨hh, g, d, t, os⟩ := s
  refine c69E (p := w.params) fun nm q bs hdct sn sub ab col dd k0 k1 k2 k3 k5 h69 => ?_
  have hi : findIn (hd.heap_39 w.params) (.ref 69) "__init__" = some (some (.ref 59)) := by kernel_rfl
  obtain ⟨o59, ho59, hd59⟩ := (fn59 w.params).at_
  have hty : typeIn (hd.heap_39 w.params) (.ref 59) = some (.type "function") := by kernel_rfl
  have hc59 : o59.cls = .type "function" := by
    have z : ((hd.heap_39 w.params).lookup 59).map (·.cls) = some (.type "function") := hty
    rw [ho59] at z; exact Option.some.inj z
  obtain ⟨pp, loose, mg, mb, T⟩ := T
  refine call_init PySem.F.excBase_Exception (by decide +kernel) (by decide +kernel) (by decide +kernel) X (X _ _ h69) hi (X _ _ ho59) hc59 ?_
  have up : ∀ b o, hh.get? b = some o → ((hh.push { cls := .type "tuple", data := .seq #[v, v2] }).push { cls := .ref 69, data := .fields #[.ref hh.objs.size, .none, .none, .none, .bool false, .none] }).get? b = some o := fun b o e => Heap.get?_push_of_some _ (Heap.get?_push_of_some _ e)
  have hget : ((hh.push { cls := .type "tuple", data := .seq #[v, v2] }).push
      { cls := .ref 69, data := .fields #[.ref hh.objs.size, .none, .none, .none, .bool false, .none] }).get? (hh.objs.size + 1) = some
      { cls := .ref 69, data := .fields #[.ref hh.objs.size, .none, .none, .none, .bool false, .none] } := by heap_get
  refine wpAny_call (init59 (n := 0) (vs := #[.ref hh.objs.size, .none, .none, .none, .bool false, .none]) (t0 := hh.objs.size) hroom X ⟨pp, loose, mg, mb, T⟩ T.nolimit ⟨none, #[], hget, Heap.get?_none_of_le (Nat.le_succ _), up, .inl rfl⟩ rfl (by lia) fun h' tk vs' t1 F g0 g1 gs => ?_)
  exact ⟨rfl, h h' tk _ vs' t1 F g0 g1⟩
end
end Mine
set_option tactic.hygienic false
namespace Mine
open PySem PySem.W PyProof.Rows PySem.Calls
set_option maxRecDepth 100000
section
variable {M : Model} {A : Around} {E : Value → Shared → Prop} {env : Env}
variable {nm q : Str} {C N : Addr} {bs bm : List Value} {hdct : Bool} {sn : List Str} {sub : List Value} {ab : Bool} {col : Option Bool} {dd : Option Addr} {k0 k1 k2 k3 k5 : Option Value} {newId : String}
theorem raise_made {s : Shared} {x : Sem Value} {Q : Flow → Shared → Prop} (hbase : bm.contains (.type "BaseException") = true) (hh : A.handled = none)
    (h : wpAny M A x (fun v s₁ => ∃ e dx vs sl, v = .ref e ∧ s₁.heap.get? C = some (excClassObj nm q C N bs bm hdct sn sub ab col dd k0 k1 k2 k3 k5 newId) ∧
      s₁.heap.get? e = some ⟨.ref C, dx, .fields vs, sl⟩ ∧ vs[1]? = some .none ∧ E (.ref e) s₁) E s) :
    wpAny M A (raiseStmt env (some x) none) Q E s := by
  have hcB : (Value.ref C :: bm).contains (.type "BaseException") = true := by rw [List.contains_cons, hbase, Bool.or_true]
  unfold raiseStmt
  refine wpAny_bind (wpAny_mono h (fun v s₁ h₁ => ?_) fun z9a z9b x => x)
  obtain ⟨e, dx, vs, sl, rfl, hC, he, h1, hE⟩ := h₁
  obtain ⟨hp, g, d, tk, os⟩ := s₁
  repeat (first | with_reducible refine wpAny_loadPart_at he ?_ | with_reducible refine wpAny_loadPart_at hC ?_ | (with_reducible refine wpAny_isSubtype_exc hC ?_; rw [hcB]) | with_reducible refine wpAny_field he rfl h1 ?_ | wp_step)
  exact wpAny_raiseNew_none hh hE
end
section
variable {C : Cx} {ρ : Vars} {σ : Store} {Q : Out → Vars → Store → Prop} {X : XPost} {ns : List (Str × NameKind)}
theorem exRaise {np cpos pos : Pos} {a b : Expr} (T : Tops C) (KN : Kn C ns) (hk : ns.lookup ("ProofFault" : Str) = some .globalImplicit) (hr : 3 ≤ C.room)
    (h : Evs C ρ σ [a, b] (fun ds σ' => ds.length = 2 ∧ X 69 ρ σ') X) (he : ∀ e ∈ [a, b], ∀ r, starEach (e :: r) C.env = (false, eval e C.env) :: starEach r C.env) :
    Ex1 C ρ σ (.Raise (some (.Call (.Name "ProofFault" np) [a, b] [] cpos)) none pos) Q X := Ex1.intro fun base s H => by
  rw [arm_exec_Raise]
  refine c69E (p := C.w.params) fun nm q bs hdct sn sub ab col dd k0 k1 k2 k3 k5 h69 => ?_
  rw [← T.K] at h69
  refine wpAny_bind (wpAny_standAt (raise_made (nm := nm) (q := q) (C := 69) (N := 68) (bs := bs) (hdct := hdct) (sn := sn) (sub := sub) (ab := ab) (col := col) (dd := dd) (k0 := k0) (k1 := k1) (k2 := k2) (k3 := k3) (k5 := k5) (newId := "Exception.__new__") (bm := [.ref 40, .type "Exception", .type "BaseException", .type "object"]) (by decide +kernel) (H.ok.calm T.quiet) (wpAny_bind ?_)))
  rw [arm_eval_Call_Name']
  have hn : Ev C ρ σ (.Name "ProofFault" np) (fun d σ₁ => d = .ref 69 ∧ σ₁ = σ) X := nmG T KN hk (by kernel_rfl) ⟨rfl, rfl⟩
  have hkp : Keeps C (.ref 69) := Keeps.of_K T.kin (by rw [T.K]; kernel_rfl)
  refine wpAny_bind (hn.run H (fun v d σ₁ s₁ H₁ P₁ r₁ ⟨hd1, hs1⟩ => ?_) fun z9a z9b x => x)
  subst hd1 hs1
  have hv : v = .ref 69 := by simpa [RepV] using r₁
  subst hv
  refine callWith_evs H₁ hkp h (fun vs ds σ₂ s₂ H₂ P₂ r₂ ⟨hl, hx⟩ => ?_) (fun z9a z9b x => x) he
  have hlen := r₂.length
  rw [hl] at hlen
  rcases vs with _ | ⟨v1, _ | ⟨v2, _ | ⟨_, _⟩⟩⟩ <;> simp at hlen
  have hkin : (hd.heap_39 C.w.params).In s₂.heap := by rw [← T.K]; exact H₂.kin
  obtain ⟨pp, loose, mg, mb, TT⟩ := T.top
  have hM : C.M = model PR C.w := by show model C.prog C.w = _; rw [T.prog]
  rw [hM]
  refine make_fault (by have := H.ok.depth; have hw : (Code.builtin "type.__call__" ⟨[.ref 69, v1, v2], []⟩).weight = 1 := (by rfl); show C.A.depth + (Code.builtin "type.__call__" ⟨[.ref 69, v1, v2], []⟩).weight + 1 < _; rw [hw]; lia) hkin ⟨pp, loose, mg, mb, TT.keeps H₂.top⟩ fun h' tk e vs' t1 F g0 g1 => ?_
  obtain ⟨dx, sl, ho, he0, keep, _⟩ := id F
  refine wpAny_bind (wpAny_standAt (wpAny_pure ⟨e, dx, vs', sl, rfl, keep _ _ (H₂.kin _ _ h69), ho, g1, 69, ρ, σ₂, ⟨e, .ref t1, rfl, ?_, .inl ⟨_, vs', ho, rfl, rfl, g0, g1⟩⟩, H₂.grow keep, hx⟩))
  cases q : base.get? e with
  | none => rfl
  | some o => rw [H₂.b2 _ _ q] at he0; cases he0
end
end Mine
set_option tactic.hygienic false
namespace Mine
open PySem PySem.W PyProof.Rows PySem.Calls
set_option maxRecDepth 100000
section
variable {C : Cx} {base : Heap} {ρ : Vars} {σ : Store} {s : Shared} {X : XPost}
/-- a part of an f-string -/
noncomputable def Part (C : Cx) (ρ : Vars) (σ : Store) (X : XPost) (e : Expr) : Prop := Ev C ρ σ e (fun d σ' => σ' = σ ∧ ∃ x : Str, d = .str x ∧ x.length ≤ 1000) X
theorem joinParts_run {C : Cx} {base : Heap} {ρ : Vars} {σ : Store} {X : XPost} : ∀ (es : List Expr) (out : Str) (s : Shared), out.length + 1000 * es.length ≤ 2 ^ 20 → (∀ e ∈ es, Part C ρ σ X e) → St C base ρ σ s →
    wpAny C.M C.A (joinParts out (evalEach es C.env)) (fun v s' => St C base ρ σ s' ∧ ∃ x t, v = .str x t) (Xp C base X) s
  | [], out, s, hz, _, H => joinParts_nil (M := C.M) ⟨H.toks _, _, _, rfl⟩ (by rw [sizeLine_eq]; simp at hz; lia)
  | e :: es, out, s, hz, hp, H => by
    show wpAny _ _ (joinParts out (eval e C.env :: evalEach es C.env)) _ _ _
    refine joinParts_cons ((hp e List.mem_cons_self).run H (fun v d σ₁ s₁ H₁ P₁ r₁ h₁ => ?_) fun z9a z9b x => x)
    obtain ⟨rfl, x, rfl, hx⟩ := h₁
    simp only [RepV] at r₁
    obtain ⟨t, rfl⟩ := r₁
    have hl : (out ++ x).length = out.length + x.length := strLen_append _ _
    simp only [List.length_cons] at hz
    refine ⟨by rw [sizeLine_eq, hl]; lia, joinParts_run es (out ++ x) s₁ (by rw [hl]; lia) (fun e he => hp e (List.mem_cons_of_mem _ he)) H₁⟩
theorem evFstr {v₁ v₂ : Expr} {rest : List Expr} {pos : Pos} {Q : Val → Store → Prop} (hz : rest.length ≤ 10) (hp : ∀ e ∈ v₁ :: v₂ :: rest, Part C ρ σ X e) (h : ∀ x, Q (.str x) σ) : Ev C ρ σ (.JoinedStr (v₁ :: v₂ :: rest) pos) Q X :=
  Ev.intro fun base s H => JoinedStr_many (wpAny_mono (joinParts_run (base := base) (v₁ :: v₂ :: rest) Str.empty s (by simp only [List.length_cons]; show 0 + _ ≤ _; lia) hp H) (fun v s' ⟨H', x, t, e⟩ => ⟨.str x, σ, H', ⟨t, e⟩, h x⟩) fun z9a z9b x => x)
theorem partStr {x : Str} {k pos} (hx : x.length ≤ 1000) : Part C ρ σ X (.Constant (.str x) k pos) := Ev.str ⟨rfl, x, rfl, hx⟩
theorem partInt {e : Expr} {pos : Pos} (h : Ev C ρ σ e (fun d σ' => σ' = σ ∧ ∃ i : Int, d = .int i ∧ i.natAbs < 10 ^ 6) X) : Part C ρ σ X (.FormattedValue e (-1) none pos) :=
  Ev.intro fun base s H => FormattedValue_plain (h.run H (fun v d σ₁ s₁ H₁ P₁ r₁ h₁ => by
    obtain ⟨rfl, i, rfl, hi⟩ := h₁
    simp only [RepV] at r₁
    obtain ⟨t, rfl⟩ := r₁
    have hlog : i.natAbs.log2 < 1920 := by
      by_cases hz : i.natAbs = 0
      · rw [hz]; decide
      · exact (Nat.log2_lt hz).mpr (Nat.lt_of_lt_of_le hi (by decide +kernel))
    refine formatField_int_small hlog ⟨.str (toString i), σ₁, H₁.toks _, ⟨_, rfl⟩, rfl, _, rfl, ?_⟩
    have := int_text_length_le10 (k := 6) (by decide) hi
    rw [PySem.ofString_length]; lia) fun z9a z9b x => x)
theorem partText {e : Expr} {pos : Pos} (h : Ev C ρ σ e (fun d σ' => σ' = σ ∧ ∃ x : Str, d = .str x ∧ x.length ≤ 1000) X) : Part C ρ σ X (.FormattedValue e (-1) none pos) :=
  Ev.intro fun base s H => FormattedValue_plain (h.run H (fun v d σ₁ s₁ H₁ P₁ r₁ h₁ => by
    obtain ⟨rfl, x, rfl, hx⟩ := h₁
    simp only [RepV] at r₁
    obtain ⟨t, rfl⟩ := r₁
    exact formatField_str (fun t' tk => ⟨.str x, σ₁, H₁.toks _, ⟨_, rfl⟩, rfl, _, rfl, hx⟩) (by rw [sizeLine_eq]; lia)) fun z9a z9b x => x)
end
/-- within a handler of e -/
noncomputable def Cx.hand (C : Cx) (e : Value) : Cx := { C with A := C.A.mark (some e), quiet := false }
theorem Cx.hand_ok {C : Cx} {e : Value} (H : C.Ok) : (C.hand e).Ok where
  depth := H.depth
  units := H.units
  calm := fun h => by cases h
  kind := H.kind
  globals := H.globals
  builtins := H.builtins
  kin := H.kin
  hasf := H.hasf
  nolimit := H.nolimit
  apart := H.apart
  stack := H.stack
theorem St.toHand {C : Cx} {e : Value} {base ρ σ s} (H : St C base ρ σ s) : St (C.hand e) base ρ σ s :=
  ⟨Cx.hand_ok H.ok, H.gens, H.os, H.b1, H.b2, H.ns, H.cells, H.allcells, H.bad, H.own, H.ownc, H.frs, H.store⟩
theorem St.offHand {C : Cx} {e : Value} {base ρ σ s} (H : St (C.hand e) base ρ σ s) (ok : C.Ok) : St C base ρ σ s :=
  ⟨ok, H.gens, H.os, H.b1, H.b2, H.ns, H.cells, H.allcells, H.bad, H.own, H.ownc, H.frs, H.store⟩
theorem Kn.hand {C : Cx} {ns e} (KN : Kn C ns) : Kn (C.hand e) ns := ⟨KN.at_⟩
section
variable {C : Cx} {ρ : Vars} {σ : Store} {Q : Out → Vars → Store → Prop} {X : XPost} {ns : List (Str × NameKind)}
/-- try: body, except ProofFault: suite -/
theorem exTry {body : List Stmt} {np hpos pos : Pos} {b₀ : Stmt} {suite : List Stmt} (T : Tops C) (KN : Kn C ns) (hF : C.Fn) (hk : ns.lookup ("ProofFault" : Str) = some .globalImplicit)
    (hb : Ex C ρ σ body Q (fun c ρ' σ' => c = 69 ∧ ∀ e, Ex (C.hand e) ρ' σ' (b₀ :: suite) Q noX)) :
    Ex1 C ρ σ (.Try body [.ExceptHandler (some (.Name "ProofFault" np)) none (b₀ :: suite) hpos] [] [] pos) Q X := Ex1.intro fun base s H => by
  refine wpAny_Try_except (hb.run H (fun f o ρ' σ' s' H' P r q => ?_) fun e s' x => ?_)
  · have fin : Fp C base Q f s' := ⟨o, ρ', σ', H', r, q⟩
    cases f with
    | next => exact wpAny_execs_nil fin
    | _ => exact fin
  · obtain ⟨c, ρ', σ', x, H', rfl, hh⟩ := x
    refine note_exn H' hF x fun s₁ H₁ x₁ => ?_
    refine flight_exn (f := none) H₁ x₁ fun s₂ H₂ x₂ => ?_
    refine c69E (p := C.w.params) fun nm q bs hdct sn sub ab col dd k0 k1 k2 k3 k5 h69 => ?_
    rw [← T.K] at h69
    obtain ⟨a, a0, rfl, hb0, tr⟩ := id x₂
    refine wpAny_handleBy_cons ?_ (by intro z; cases z)
    refine codeAny_handlers_test ?_
    show wpAny (C.hand (.ref a)).M (C.hand (.ref a)).A (eval (.Name "ProofFault" np) (C.hand (.ref a)).env) _ _ _
    refine wpAny_Name (load_global (u := .ref 69) (H₂.toHand (e := .ref a)) (T.glo (C := C) (by kernel_rfl)) (KN.hand.at_ _ _ hk) ?_) (by decide)
    obtain ⟨oe, vs, T1, oT, ts, g1, g2, g3, g4, g5, g6⟩ := tr
    have h69' := H₂.kin _ _ h69
    obtain ⟨hh2, gg, dr, tk, os⟩ := s₂
    refine wpAny_excMatches_sub_self h69' g1 g2.1 (by decide +kernel) ?_
    simp only [if_true]
    refine codeAny_handlers_suite ?_
    show wpAny (C.hand (.ref a)).M (C.hand (.ref a)).A (setFlight (.ref a) none) _ _ _
    refine flight_exn (C := C.hand (.ref a)) (f := none) (H₂.toHand (e := .ref a)) x₂ fun s₃ H₃ x₃ => ?_
    refine (hh (.ref a)).run H₃ (fun f o ρ₄ σ₄ s₄ H₄ P₄ r₄ q₄ => ?_) fun _ _ ⟨_, _, _, _, _, z⟩ => z.elim
    exact ⟨o, ρ₄, σ₄, H₄.offHand H.ok, r₄, q₄⟩
end
end Mine
set_option tactic.hygienic false
namespace Mine
open PySem PySem.W PyProof.Rows PySem.Calls
set_option maxRecDepth 100000
/-- within a type's call -/
noncomputable def Cx.mk' (C : Cx) (c : Code) : Cx := { C with A := C.A.under c, room := C.room - 1 }
theorem Cx.mk_ok {C : Cx} {c : Code} (H : C.Ok) (hr : 0 < C.room) (hw : c.weight ≤ 1) (hu : c.cUnits ≤ 20) (he : c.envs = []) : (C.mk' c).Ok where
  depth := by show C.A.depth + c.weight + (C.room - 1) < _; have := H.depth; lia
  units := by show C.A.units + c.cUnits + 20 * (C.room - 1) + 20 < _; have := H.units; lia
  calm := H.calm
  kind := H.kind
  globals := H.globals
  builtins := H.builtins
  kin := H.kin
  hasf := by show ∃ l, pushEnvs c.envs C.A.frames = some l; rw [he]; exact H.hasf
  nolimit := H.nolimit
  apart := H.apart
  stack := by
    intro l hl
    have : pushEnvs c.envs C.A.frames = some l := hl
    rw [he] at this
    exact H.stack l this
theorem St.toMk {C : Cx} {c : Code} {base ρ σ s} (H : St C base ρ σ s) (ok : (C.mk' c).Ok) : St (C.mk' c) base ρ σ s :=
  ⟨ok, H.gens, H.os, H.b1, H.b2, H.ns, H.cells, H.allcells, H.bad, H.own, H.ownc, H.frs, H.store⟩
theorem St.offMk {C : Cx} {c : Code} {base ρ σ s} (H : St (C.mk' c) base ρ σ s) (ok : C.Ok) : St C base ρ σ s :=
  ⟨ok, H.gens, H.os, H.b1, H.b2, H.ns, H.cells, H.allcells, H.bad, H.own, H.ownc, H.frs, H.store⟩
theorem Tops.mk' {C : Cx} {c : Code} (T : Tops C) : Tops (C.mk' c) := ⟨T.K, T.kin, T.top, T.sys, T.quiet, T.prog⟩
section
variable {C : Cx} {ρ : Vars} {σ : Store} {Q : Val → Store → Prop} {X : XPost}
/-- an object of an own class, by its own __init__ -/
theorem Cal.make {cls fI : Addr} (T : Tops C) (hr : 0 < C.room) (hm : makesIn (hd.heap_39 C.w.params) cls = true) (hi : findIn (hd.heap_39 C.w.params) (.ref cls) "__init__" = some (some (.ref fI))) (hf : typeIn (hd.heap_39 C.w.params) (.ref fI) = some (.type "function"))
    (hw : (Code.builtin "type.__call__" ⟨[.ref cls], []⟩).weight ≤ 1) (hu : (Code.builtin "type.__call__" ⟨[.ref cls], []⟩).cUnits ≤ 20) (he : (Code.builtin "type.__call__" ⟨[.ref cls], []⟩).envs = [])
    (h : ∀ x dd, σ x = none → σ dd = none → x ≠ dd → ∀ C', Tops C' → C'.room + 1 = C.room → C'.w = C.w → CalC C' ρ ((σ.set dd (.sdict [])).set x (.inst cls dd)) (.ref fI) [.ref x] (fun d σ' => d = .none ∧ Q (.ref x) σ') X) : Cal C ρ σ (.ref cls) [] Q X := fun base s vs H r => by
  obtain rfl : vs = [] := by simpa [RepVs] using r
  obtain ⟨hh, g, d, t, os⟩ := s
  have hkin := H.kin
  rw [T.K] at hkin
  refine wpAny_call (make_core (makes_of hkin hm) (looks_findIn hkin hi) (fun self => bind_fn hkin self hf) (.inl rfl) ?_)
  have ok := Cx.mk_ok H.ok hr hw hu he
  have H1 : St C base ρ σ ⟨hh.push emptyDict, g, d, t, os⟩ := H.push emptyDict
  have f1 : σ hh.objs.size = none := H.fresh
  have H2 := H1.track (a := hh.objs.size) (o := .sdict []) f1 ⟨[], Heap.DictOf.new (knd := PySem.strKind C.prog C.w) hh, .nil⟩ (H.newAddr (Heap.get?_none_of_le (Nat.le_refl _)))
  have H3 : St C base ρ (σ.set hh.objs.size (.sdict [])) ⟨(hh.push emptyDict).push (instObj cls hh.objs.size), g, d, t, os⟩ := H2.push _
  have f2 : (σ.set hh.objs.size (.sdict [])) (hh.objs.size + 1) = none := by
    have := H2.fresh
    simpa [Heap.size_push] using this
  have na : (hh.push emptyDict).get? (hh.objs.size + 1) = none := Heap.get?_none_of_le (by rw [Heap.size_push]; exact Nat.le_refl _)
  have hx : ((hh.push emptyDict).push (instObj cls hh.objs.size)).get? (hh.objs.size + 1) = some (instObj cls hh.objs.size) := by heap_get
  have H4 := H3.track (a := hh.objs.size + 1) (o := .inst cls hh.objs.size) f2 ⟨#[], hx⟩ (H2.newAddr na)
  have f3 : σ (hh.objs.size + 1) = none := by
    rw [Store.set_other _ _ (Nat.succ_ne_self _)] at f2; exact f2
  have key := h (hh.objs.size + 1) hh.objs.size f3 f1 (Nat.succ_ne_self _) (C.mk' (.builtin "type.__call__" ⟨[.ref cls], []⟩)) T.mk' (by show C.room - 1 + 1 = C.room; exact Nat.sub_add_cancel hr) rfl base _ [.ref (hh.objs.size + 1)] (H4.toMk ok) (RepVs.cons (by simp [RepV]) RepVs.nil)
  refine codeAny_mono key fun r s' z => ?_
  rcases r with e | (v | _ | _ | _) <;> first | exact z.elim | skip
  · obtain ⟨c, ρ', σ', x, H', q⟩ := z
    exact ⟨c, ρ', σ', x, H'.offMk H.ok, q⟩
  · obtain ⟨d, σ', H', rd, rfl, q⟩ := z
    simp only [RepV] at rd
    exact ⟨rd, .ref (hh.objs.size + 1), σ', H'.offMk H.ok, by simp [RepV], q⟩
end
end Mine
set_option tactic.hygienic false
namespace Mine
open PySem PySem.W PyProof.Rows PySem.Calls
set_option maxRecDepth 100000
section
variable {C : Cx} {ρ : Vars} {σ : Store} {Q : Val → Store → Prop} {X : XPost} {ns : List (Str × NameKind)} {x : Str} {p pos apos : Pos} {a b c d : Expr} {i : String} {f : Addr}
/-- one argument's evaluation -/
noncomputable def Pl (C : Cx) (a : Expr) : Prop := ∀ r, starEach (a :: r) C.env = (false, eval a C.env) :: starEach r C.env
noncomputable abbrev L1 (L : List Val → Store → Prop) : Val → Store → Prop := fun u σ' => L [u] σ'
noncomputable abbrev L2 (C : Cx) (ρ : Vars) (b : Expr) (L : List Val → Store → Prop) (X : XPost) : Val → Store → Prop := fun u σ' => Ev C ρ σ' b (L1 (ConsL L u)) X
noncomputable abbrev L3 (C : Cx) (ρ : Vars) (b c : Expr) (L : List Val → Store → Prop) (X : XPost) : Val → Store → Prop := fun u σ' => Ev C ρ σ' b (L2 C ρ c (ConsL L u) X) X
noncomputable abbrev L4 (C : Cx) (ρ : Vars) (b c d : Expr) (L : List Val → Store → Prop) (X : XPost) : Val → Store → Prop := fun u σ' => Ev C ρ σ' b (L3 C ρ c d (ConsL L u) X) X
theorem Evs.one {L : List Val → Store → Prop} (h : Ev C ρ σ a (L1 L) X) (ha : Pl C a) : Evs C ρ σ [a] L X := Evs.cons (h.mono fun z9a z9b q => Evs.nil q) (ha _)
theorem Evs.two {L : List Val → Store → Prop} (h : Ev C ρ σ a (L2 C ρ b L X) X) (ha : Pl C a) (hb : Pl C b) : Evs C ρ σ [a, b] L X := Evs.cons (h.mono fun z9a z9b q => Evs.one q hb) (ha _)
theorem Evs.three {L : List Val → Store → Prop} (h : Ev C ρ σ a (L3 C ρ b c L X) X) (ha : Pl C a) (hb : Pl C b) (hc : Pl C c) : Evs C ρ σ [a, b, c] L X := Evs.cons (h.mono fun z9a z9b q => Evs.two q hb hc) (ha _)
theorem Evs.four {L : List Val → Store → Prop} (h : Ev C ρ σ a (L4 C ρ b c d L X) X) (ha : Pl C a) (hb : Pl C b) (hc : Pl C c) (hd : Pl C d) : Evs C ρ σ [a, b, c, d] L X := Evs.cons (h.mono fun z9a z9b q => Evs.three q hb hc hd) (ha _)
theorem evB1 (T : Tops C) (KN : Kn C ns) (h : Ev C ρ σ a (L1 (CalL C ρ (.builtin i) Q X)) X) (hk : ns.lookup x = some .globalImplicit := by rfl) (e : nsIn (hd.heap_39 C.w.params) mainGlobals x = some none := by kernel_rfl) (hv : bootBuiltins x = some (.builtin i) := by rfl)
    (ha : Pl C a := by intro _; rfl) (hn : x ≠ "__name__" := by decide) (hd : (x == ("__debug__" : Str)) = false := by decide) : Ev C ρ σ (.Call (.Name x p) [a] [] pos) Q X :=
  evB T KN hk e hv (Evs.one h ha) (star1 ha) hn hd
theorem evT1 (T : Tops C) (KN : Kn C ns) (h : Ev C ρ σ a (L1 (CalL C ρ (.type i) Q X)) X) (hk : ns.lookup x = some .globalImplicit := by rfl) (e : nsIn (hd.heap_39 C.w.params) mainGlobals x = some none := by kernel_rfl) (hv : bootBuiltins x = some (.type i) := by rfl)
    (ha : Pl C a := by intro _; rfl) (hn : x ≠ "__name__" := by decide) (hd : (x == ("__debug__" : Str)) = false := by decide) : Ev C ρ σ (.Call (.Name x p) [a] [] pos) Q X :=
  evT T KN hk e hv (Evs.one h ha) (star1 ha) hn hd
theorem evF1 (f : Addr) (T : Tops C) (KN : Kn C ns) (h : Ev C ρ σ a (L1 (CalL C ρ (.ref f) Q X)) X) (hk : ns.lookup x = some .globalImplicit := by rfl) (e : nsIn (hd.heap_39 C.w.params) mainGlobals x = some (some (.ref f)) := by kernel_rfl) (hkp : keepIn (hd.heap_39 C.w.params) (.ref f) = true := by kernel_rfl)
    (ha : Pl C a := by intro _; rfl) (hd : (x == ("__debug__" : Str)) = false := by decide) : Ev C ρ σ (.Call (.Name x p) [a] [] pos) Q X :=
  evF (a := f) T KN hk e hkp (Evs.one h ha) (star1 ha) hd
theorem evF2 (f : Addr) (T : Tops C) (KN : Kn C ns) (h : Ev C ρ σ a (L2 C ρ b (CalL C ρ (.ref f) Q X) X) X) (hk : ns.lookup x = some .globalImplicit := by rfl) (e : nsIn (hd.heap_39 C.w.params) mainGlobals x = some (some (.ref f)) := by kernel_rfl) (hkp : keepIn (hd.heap_39 C.w.params) (.ref f) = true := by kernel_rfl)
    (ha : Pl C a := by intro _; rfl) (hb : Pl C b := by intro _; rfl) (hd : (x == ("__debug__" : Str)) = false := by decide) : Ev C ρ σ (.Call (.Name x p) [a, b] [] pos) Q X :=
  evF (a := f) T KN hk e hkp (Evs.two h ha hb) (starS ha (star1 hb)) hd
theorem evF3 (f : Addr) (T : Tops C) (KN : Kn C ns) (h : Ev C ρ σ a (L3 C ρ b c (CalL C ρ (.ref f) Q X) X) X) (hk : ns.lookup x = some .globalImplicit := by rfl) (e : nsIn (hd.heap_39 C.w.params) mainGlobals x = some (some (.ref f)) := by kernel_rfl) (hkp : keepIn (hd.heap_39 C.w.params) (.ref f) = true := by kernel_rfl)
    (ha : Pl C a := by intro _; rfl) (hb : Pl C b := by intro _; rfl) (hc : Pl C c := by intro _; rfl) (hd : (x == ("__debug__" : Str)) = false := by decide) : Ev C ρ σ (.Call (.Name x p) [a, b, c] [] pos) Q X :=
  evF (a := f) T KN hk e hkp (Evs.three h ha hb hc) (starS ha (starS hb (star1 hc))) hd
theorem evF4 (f : Addr) (T : Tops C) (KN : Kn C ns) (h : Ev C ρ σ a (L4 C ρ b c d (CalL C ρ (.ref f) Q X) X) X) (hk : ns.lookup x = some .globalImplicit := by rfl) (e : nsIn (hd.heap_39 C.w.params) mainGlobals x = some (some (.ref f)) := by kernel_rfl) (hkp : keepIn (hd.heap_39 C.w.params) (.ref f) = true := by kernel_rfl)
    (ha : Pl C a := by intro _; rfl) (hb : Pl C b := by intro _; rfl) (hc : Pl C c := by intro _; rfl) (hd : Pl C d := by intro _; rfl) (hdb : (x == ("__debug__" : Str)) = false := by decide) : Ev C ρ σ (.Call (.Name x p) [a, b, c, d] [] pos) Q X :=
  evF (a := f) T KN hk e hkp (Evs.four h ha hb hc hd) (starS ha (starS hb (starS hc (star1 hd)))) hdb
/-- the pieces of a Proof -/
structure PAt (σ : Store) (x dd as am : Addr) (steps names : List Val) (e : Int) : Prop where
  obj : σ x = some (.inst 219 dd)
  dict : σ dd = some (.sdict [("steps", .ref as), ("named", .ref am), ("empty", .int e)])
  steps : σ as = some (.list steps)
  names : σ am = some (.list names)
  ne : as ≠ am
/-- what is asked of a Proof, its pieces at hand -/
noncomputable abbrev PS (y : Addr) (F : Addr → Addr → Int → Store → Prop) : Val → Store → Prop := fun u σ' => u = .ref y ∧ ∃ dd as am steps names e, PAt σ' y dd as am steps names e ∧ F as am e σ'
noncomputable abbrev StF (Q : Val → Store → Prop) : Addr → Addr → Int → Store → Prop := fun as z9a z9b σ' => Q (.ref as) σ'
noncomputable abbrev NaF (Q : Val → Store → Prop) : Addr → Addr → Int → Store → Prop := fun z9a am z9b σ' => Q (.ref am) σ'
noncomputable abbrev EmF (Q : Val → Store → Prop) : Addr → Addr → Int → Store → Prop := fun z9a z9b e σ' => Q (.int e) σ'
noncomputable abbrev MeF (C : Cx) (ρ : Vars) (args : List Expr) (L : List Val → Store → Prop) (X : XPost) : Addr → Addr → Int → Store → Prop := fun z9a z9b z9c σ' => Evs C ρ σ' args L X
theorem PS.el {y : Addr} {F : Addr → Addr → Int → Store → Prop} {u : Val} {G : Prop} (z : PS y F u σ) (k : ∀ dd as am steps names e, u = .ref y → PAt σ y dd as am steps names e → F as am e σ → G) : G := by
  obtain ⟨hu, dd, as, am, steps, names, e, P, q⟩ := z; exact k dd as am steps names e hu P q
theorem psI {y dd as am : Addr} {steps names : List Val} {e : Int} {F : Addr → Addr → Int → Store → Prop} (P : PAt σ y dd as am steps names e) (h : F as am e σ) : PS y F (.ref y) σ := ⟨rfl, dd, as, am, steps, names, e, P, h⟩
theorem PAt.attrS (K : Params) : AttrOk (hd.heap_39 K) 219 "steps" := ⟨by kernel_rfl, by kernel_rfl, by kernel_rfl, by kernel_rfl, by kernel_rfl⟩
theorem PAt.attrN (K : Params) : AttrOk (hd.heap_39 K) 219 "named" := ⟨by kernel_rfl, by kernel_rfl, by kernel_rfl, by kernel_rfl, by kernel_rfl⟩
theorem PAt.attrE (K : Params) : AttrOk (hd.heap_39 K) 219 "empty" := ⟨by kernel_rfl, by kernel_rfl, by kernel_rfl, by kernel_rfl, by kernel_rfl⟩
variable {o : Expr} {y dd as am : Addr} {steps names : List Val} {e : Int}
theorem evSteps (hK : C.K = hd.heap_39 C.w.params) (h : Ev C ρ σ o (PS y (StF Q)) X) (hb : attributeBase o "steps" C.env (eval o C.env) = eval o C.env := by rfl) : Ev C ρ σ (.Attribute o "steps" pos) Q X :=
  Ev.attr (h.mono fun u σ' z => z.el fun dd as am steps names e hu P q => ⟨y, 219, dd, _, _, hu, P.obj, P.dict, by rw [hK]; exact PAt.attrS _, rfl, fun i h => (nomatch h), q⟩) hb
theorem evNamed (hK : C.K = hd.heap_39 C.w.params) (h : Ev C ρ σ o (PS y (NaF Q)) X) (hb : attributeBase o "named" C.env (eval o C.env) = eval o C.env := by rfl) : Ev C ρ σ (.Attribute o "named" pos) Q X :=
  Ev.attr (h.mono fun u σ' z => z.el fun dd as am steps names e hu P q => ⟨y, 219, dd, _, _, hu, P.obj, P.dict, by rw [hK]; exact PAt.attrN _, rfl, fun i h => (nomatch h), q⟩) hb
theorem evEmpty (hK : C.K = hd.heap_39 C.w.params) (h : Ev C ρ σ o (PS y (EmF Q)) X) (hb : attributeBase o "empty" C.env (eval o C.env) = eval o C.env := by rfl) : Ev C ρ σ (.Attribute o "empty" pos) Q X :=
  Ev.attr (h.mono fun u σ' z => z.el fun dd as am steps names e hu P q => ⟨y, 219, dd, _, _, hu, P.obj, P.dict, by rw [hK]; exact PAt.attrE _, rfl, fun i h => (nomatch h), q⟩) hb
/-- a method of a Proof -/
theorem evM {name : Str} {args : List Expr} (f : Addr) (T : Tops C) (h : Ev C ρ σ o (PS y (MeF C ρ args (ConsL (CalL C ρ (.ref f) Q X) (.ref y)) X)) X)
    (he : ∀ e ∈ args, ∀ r, starEach (e :: r) C.env = (false, eval e C.env) :: starEach r C.env) (hm : Meth (hd.heap_39 C.w.params) 219 name f := by exact ⟨by kernel_rfl, by kernel_rfl, by kernel_rfl, by kernel_rfl, by kernel_rfl⟩) (hn : kvAt [((Str.ofString "steps"), Val.ref 0), ("named", .ref 0), ("empty", .int 0)] name = .none := by rfl)
    (hl : args.length < 20 := by decide) (hline : (apos.endLine == pos.line) = true := by rfl) (hb : attributeBase o name C.env (eval o C.env) = eval o C.env := by rfl) : Ev C ρ σ (.Call (.Attribute o name apos) args [] pos) Q X := by
  refine Ev.callM (h.mono fun u σ' z => z.el fun dd as am steps names e hu P q => ⟨y, 219, dd, _, f, hu, P.obj, P.dict, by rw [T.K]; exact hm, ?_, q⟩) he hl hb hline
  unfold kvAt at hn ⊢
  simp only [List.find?_cons, List.find?_nil] at hn ⊢
  split at hn
  · cases hn
  · split at hn
    · cases hn
    · split at hn
      · cases hn
      · simp_all
end
end Mine
set_option tactic.hygienic false
namespace Mine
open PySem PySem.W PyProof.Rows PySem.Calls
/-- what stands together, taken apart at one stroke -/
inductive A3 (a b c : Prop) : Prop | mk (_ : a) (_ : b) (_ : c)
inductive A4 (a b c d : Prop) : Prop | mk (_ : a) (_ : b) (_ : c) (_ : d)
inductive A5 (a b c d e : Prop) : Prop | mk (_ : a) (_ : b) (_ : c) (_ : d) (_ : e)
inductive A7 (a b c d e f g : Prop) : Prop | mk (_ : a) (_ : b) (_ : c) (_ : d) (_ : e) (_ : f) (_ : g)
inductive A9 (a b c d e f g h i : Prop) : Prop | mk (_ : a) (_ : b) (_ : c) (_ : d) (_ : e) (_ : f) (_ : g) (_ : h) (_ : i)
inductive X2 {α β : Type} (p : α → β → Prop) : Prop | mk (a : α) (b : β) (h : p a b)
inductive X4 {α β γ δ : Type} (p : α → β → γ → δ → Prop) : Prop | mk (a : α) (b : β) (c : γ) (d : δ) (h : p a b c d)
inductive X5 {α β γ δ ε : Type} (p : α → β → γ → δ → ε → Prop) : Prop | mk (a : α) (b : β) (c : γ) (d : δ) (e : ε) (h : p a b c d e)
/-- clauses: tuples of signed numbers -/
noncomputable def clV (c : List Int) : Val := .tup (c.map .int)
noncomputable def optV : Option (List Int) → Val
  | .none => .none
  | some c => clV c
noncomputable def Small (ls : List Int) : Prop := ∀ l ∈ ls, 1 ≤ l.natAbs ∧ l.natAbs ≤ 4
noncomputable def clash (ls : List Int) : Bool := [1, 2, 3, 4].any fun (v : Nat) => ls.contains (v : Int) && ls.contains (-(v : Int))
noncomputable def pick (ls : List Int) (v : Nat) : Int := if ls.contains (v : Int) then (v : Int) else -(v : Int)
noncomputable def has (ls : List Int) (v : Nat) : Bool := (ls.map Int.natAbs).contains v
noncomputable def ordL (ls : List Int) : List Int := ([1, 2, 3, 4].filter (has ls)).map (pick ls)
noncomputable def ordF (ls : List Int) : Option (List Int) := if clash ls then none else some (ordL ls)
theorem clash_not {ls : List Int} (h : clash ls = false) (hs : Small ls) {l : Int} (hl : l ∈ ls) : -l ∉ ls := fun hn => by
  have hb := hs l hl
  have hv : l.natAbs ∈ [1, 2, 3, 4] := by simp; lia
  have := List.any_eq_false.mp h _ hv
  apply this
  rcases Int.natAbs_eq l with e | e
  · have h1 : ((l.natAbs : Nat) : Int) ∈ ls := by rw [← e]; exact hl
    have h2 : -((l.natAbs : Nat) : Int) ∈ ls := by rw [← e]; exact hn
    simp [h1, h2]
  · have h1 : ((l.natAbs : Nat) : Int) ∈ ls := by have q : ((l.natAbs : Nat) : Int) = -l := by lia
                                                  rw [q]; exact hn
    have h2 : -((l.natAbs : Nat) : Int) ∈ ls := by rw [← e]; exact hl
    simp [h1, h2]
theorem clash_of {ls : List Int} (h : ∀ l ∈ ls, -l ∉ ls) : clash ls = false := by
  unfold clash
  refine List.any_eq_false.mpr fun v z9a => ?_
  simp only [Bool.and_eq_true, List.contains_iff_mem, not_and]
  exact fun a b => h _ a b
theorem pick_of {ls : List Int} (h : clash ls = false) (hs : Small ls) {l : Int} (hl : l ∈ ls) : pick ls l.natAbs = l := by
  unfold pick
  have hn := clash_not h hs hl
  rcases Int.natAbs_eq l with e | e
  · have : ((l.natAbs : Nat) : Int) ∈ ls := by rw [← e]; exact hl
    rw [if_pos (by simpa using this)]; exact e.symm
  · have : ¬ ((l.natAbs : Nat) : Int) ∈ ls := fun q => hn (by rw [show -l = ((l.natAbs : Nat) : Int) by lia]; exact q)
    rw [if_neg (by simpa using this)]; exact e.symm
theorem ord_unique {ls ns : List Int} (h : clash ls = false) (hs : Small ls) (hm : ∀ x ∈ ns, x ∈ ls) {q : List Nat} (hq : ns.map Int.natAbs = q) : ns = q.map (pick ls) := by
  subst hq
  rw [List.map_map]
  conv => lhs; rw [← List.map_id ns]
  exact List.map_congr_left fun x hx => (pick_of h hs (hm x hx)).symm
theorem kvAt_some {K : Type} [DecidableEq K] {kvs : List (K × Val)} {k : K} : (kvAt kvs k).isSome = true ↔ k ∈ kvs.map (·.1) := by
  unfold kvAt
  rw [Option.isSome_map, List.find?_isSome]
  simp only [decide_eq_true_eq, List.mem_map]
theorem kvSet_keys {K : Type} [DecidableEq K] {kvs : List (K × Val)} {k : K} {v : Val} : (kvSet kvs k v).map (·.1) = if k ∈ kvs.map (·.1) then kvs.map (·.1) else kvs.map (·.1) ++ [k] := by
  unfold kvSet
  by_cases h : k ∈ kvs.map (·.1)
  · have : (kvs.any fun kv => kv.1 = k) = true := by
      obtain ⟨kv, h1, h2⟩ := List.mem_map.mp h
      exact List.any_eq_true.mpr ⟨kv, h1, by simpa using h2⟩
    rw [if_pos this, if_pos h, List.map_map]
    refine List.map_congr_left fun kv z9a => ?_
    simp only [Function.comp]
    split <;> rename_i q <;> simp_all
  · have : ¬ (kvs.any fun kv => kv.1 = k) = true := fun q => h (by
      obtain ⟨kv, h1, h2⟩ := List.any_eq_true.mp q
      exact List.mem_map.mpr ⟨kv, h1, by simpa using h2⟩)
    rw [if_neg this, if_neg h, List.map_append]; rfl
theorem kvAt_set {K : Type} [DecidableEq K] {kvs : List (K × Val)} {k k' : K} {v : Val} : kvAt (kvSet kvs k v) k' = if k' = k then some v else kvAt kvs k' := by
  unfold kvSet
  split
  · rename_i h
    unfold kvAt
    induction kvs with
    | nil => simp at h
    | cons kv r ih =>
      rw [List.map_cons, List.find?_cons, List.find?_cons]
      by_cases e : kv.1 = k
      · simp only [e, if_true]
        by_cases e2 : k' = k
        · subst e2; simp
        · have : ¬ k = k' := fun q => e2 q.symm
          simp only [e2, if_false, this, decide_false]
          by_cases h2 : (r.any fun kv => decide (kv.1 = k)) = true
          · have := ih h2; rw [if_neg e2] at this; exact this
          · have hr : (r.map fun kv => if kv.1 = k then (kv.1, v) else kv) = r := by
              rw [show r = r.map id from (List.map_id r).symm, List.map_map]
              refine List.map_congr_left fun x hx => ?_
              have : ¬ x.1 = k := fun q => h2 (List.any_eq_true.mpr ⟨x, hx, by simpa using q⟩)
              simp [this]
            first
              | rw [hr]
              | (congr 1; exact congrArg _ hr)
              | simp_all
      · have h2 : (r.any fun kv => decide (kv.1 = k)) = true := by simpa [e] using h
        simp only [e, if_false]
        have := ih h2
        by_cases e3 : kv.1 = k'
        · have : ¬ k' = k := fun q => e (e3.trans q)
          simp [e3, this]
        · simp only [e3, decide_false]; exact this
  · rename_i h
    unfold kvAt
    rw [List.find?_append]
    by_cases e : k' = k
    · subst e
      have : kvs.find? (fun kv => kv.1 = k') = none := List.find?_eq_none.mpr fun x hx q => h (List.any_eq_true.mpr ⟨x, hx, q⟩)
      rw [this]; simp
    · have : ¬ k = k' := fun q => e q.symm
      simp [e, this]
theorem ints_at {ls : List Int} {i : Nat} {x : Val} (hx : (ls.map Val.int)[i]? = some x) : ∃ l, ls[i]? = some l ∧ x = .int l := by
  rw [List.getElem?_map] at hx
  cases q : ls[i]? with
  | none => rw [q] at hx; cases hx
  | some l => rw [q] at hx; exact ⟨l, rfl, by simpa using hx.symm⟩
end Mine
set_option tactic.hygienic false
namespace Mine
open PySem PySem.W PyProof.Rows PySem.Calls
set_option maxRecDepth 100000
section
variable {C : Cx} {ρ : Vars} {σ : Store} {Q : Val → Store → Prop} {X : XPost} {ns : List (Str × NameKind)}
theorem sys_of (T : Tops C) : (C.h₁.get? sysModules).isSome = true := T.sys
theorem evSortedKey {p₁ p₂ kp pos : Pos} {e : Expr} (T : Tops C) (KN : Kn C ns) (hk : ns.lookup ("sorted" : Str) = some .globalImplicit) (hk2 : ns.lookup ("order_of" : Str) = some .globalImplicit) (hr : 2 ≤ C.room)
    (h : Ev C ρ σ e (fun d σ₁ => ∃ a kvs, d = .ref a ∧ σ₁ a = some (.idict kvs) ∧ ((kvs.map (·.1)).map Int.natAbs).Nodup ∧ Small (kvs.map (·.1)) ∧
      ∀ (ns' : List Int) (b : Addr), ns'.Perm (kvs.map (·.1)) → ns'.map Int.natAbs = [1, 2, 3, 4].filter (fun k => ((kvs.map (·.1)).map Int.natAbs).contains k) → σ₁ b = none → Q (.ref b) (σ₁.set b (.list (ns'.map .int)))) X)
    (he : ∀ r, starEach (e :: r) C.env = (false, eval e C.env) :: starEach r C.env) : Ev C ρ σ (.Call (.Name "sorted" p₁) [e] [⟨some "key", .Name "order_of" p₂, kp⟩] pos) Q X :=
  Ev.intro fun base s H => by
    rw [arm_eval_Call_Name']
    have hn : Ev C ρ σ (.Name "sorted" p₁) (fun d σ₁ => d = .blt "sorted" ∧ σ₁ = σ) X := nmB T KN hk (by kernel_rfl) (by rfl) ⟨rfl, rfl⟩
    refine wpAny_bind (hn.run H (fun v d σ₁ s₁ H₁ P₁ r₁ ⟨hd1, hs1⟩ => ?_) fun z9a z9b x => x)
    subst hd1 hs1
    have hv : v = .builtin "sorted" := by simpa [RepV] using r₁
    subst hv
    have he' : backTo pos (starEach [e] C.env) = (false, eval e C.env) :: backTo pos (starEach [] C.env) := by rw [he]; rfl
    refine callWith_kw ?_ he' (by rw [he']; rfl) (by rfl) (by rfl)
    rw [he']
    refine spliced_cons (h.run H₁ (fun v d σ₂ s₂ H₂ P₂ r₂ ⟨a, kvs, hd2, ha, hn2, hsm, hq⟩ => ?_) fun z9a z9b x => x)
    subst hd2
    simp only [RepV] at r₂
    subst r₂
    refine spliced_nil (kws_cons ?_)
    have ho : Ev C ρ σ₂ (.Name "order_of" p₂) (fun d σ₃ => d = .ref 79 ∧ σ₃ = σ₂) X := nmG T KN hk2 (by kernel_rfl) ⟨rfl, rfl⟩
    refine ho.run H₂ (fun v d σ₃ s₃ H₃ P₃ r₃ ⟨hd3, hs3⟩ => ?_) fun z9a z9b x => x
    subst hd3 hs3
    simp only [RepV] at r₃
    subst r₃
    refine kws_nil ?_
    refine call_sorted_keyed (ls := kvs.map (·.1)) H₃ ha rfl hn2 (fun r hr' => ?_) (by lia) T.quiet T.sys (fun l hl => order_of_spec T.in2 (by show 1 ≤ C.room - 1; exact Nat.le_sub_one_of_lt hr) l) hq
    obtain ⟨l, hl, rfl⟩ := List.mem_map.mp hr'
    exact hsm l hl
end
noncomputable def fn86 (p : Params) : FnAt p 86 := ⟨_, _, ⟨_, rfl, rfl⟩, rfl⟩
/-- tidy -/
theorem tidy_spec {C : Cx} {ρ σ} (T : Tops C) (hr : 3 ≤ C.room) {X : XPost} {a : Addr} {ls : List Int} (ha : σ a = some (.list (ls.map .int))) (hs : Small ls) (hz : ls.length ≤ 900) : Cal C ρ σ (.ref 86) [.ref a] (fun d σ' => d = optV (ordF ls) ∧ σ' = σ) X := by
  refine Cal.drop (X := X) (X' := noX) (Q := fun d σ' => d = optV (ordF ls) ∧ σ' = σ) ?_ (fun z9a z9b z9c h => h.elim)
  refine FnAt.enter T (fn86 _) (by kernel_rfl) ["literals"] (by lia) (bind1 fun z9a => by rfl) (by kernel_rfl) rfl (by kernel_rfl) fun C' T' KN hr' hw hF => ?_
  refine Ex.lq ?_; intro Q₀
  refine Ex.cons (Ex1.assign (evDictI fun kd hkd => As.local (KN.at_ _ _ (by rfl)) ?_))
  have hka : a ≠ kd := fun e => by subst e; rw [ha] at hkd; cases hkd
  have hσa : (σ.set kd (.idict [])) a = some (.list (ls.map .int)) := by rw [Store.set_other _ _ hka]; exact ha
  refine Ex.cons (Ex1.for T'.quiet (.inl hF) (ItE.of_ev (nmL KN (by rfl) (by rfl) (ofL (hσa) (forI (fun i ρ₂ σ₂ => ρ₂ "kept" = some (.ref kd) ∧ ∃ kvs, σ₂ = σ.set kd (.idict kvs) ∧ (∀ k, k ∈ kvs.map (·.1) ↔ k ∈ ls.take i) ∧ (kvs.map (·.1)).Nodup ∧ kvs.length ≤ i ∧ ∀ l ∈ ls.take i, -l ∉ ls.take i) ⟨rfl, [], rfl, by simp, by simp, by simp, by simp⟩ ?_ ?_)))))
  · intro J₀ Q₁; rintro i x ρ₂ σ₂ hx ⟨hk, kvs, rfl, hm, hnd, hlen, hcl⟩ hkeep
    obtain ⟨l, hl, rfl⟩ := ints_at hx
    have hi : i < ls.length := (List.getElem?_eq_some_iff.mp hl).1
    have htk : ls.take (i + 1) = ls.take i ++ [l] := by rw [List.take_add_one, hl]; rfl
    have hl0 : l ≠ 0 := fun e => by have := hs l (List.mem_of_getElem? hl); subst e; simp at this
    refine As.local (KN.at_ _ _ (by rfl)) ?_
    have hset : (σ.set kd (.idict kvs)) kd = some (.idict kvs) := by simp
    refine Ex.cons (Ex1.ite (Tst.cmp (Ev.unop (nmL KN (by rfl) (by rfl) (Una.neg (nmL KN (by rfl) (by exact hk) (Bin.inIdict hset T'.sys ⟨_, rfl, ?_, ?_⟩)))))))
    · intro hb
      refine Ex.cons (Ex1.ret (Ev.none ?_))
      refine ⟨_, Sub.new (Sub.refl _) hkd, ?_, rfl⟩
      have : -l ∈ ls.take i := (hm _).mp (kvAt_some.mp hb)
      have hc : clash ls = true := by
        by_cases q : clash ls = true
        · exact q
        · exact absurd (List.mem_of_mem_take this) (clash_not (by simpa using q) hs (List.mem_of_getElem? hl))
      simp [ordF, hc, optV]
    · intro hb
      refine Ex.nil ?_
      refine Ex.cons (Ex1.assign (Ev.bool (As.item' (nmL KN (by rfl) (by exact hk) (nmL KN (by rfl) (by rfl) (Sti.idict hset (by lia) (Ex.nil ?_)))))))
      refine ⟨fun a' e => by cases e; rw [Store.set_set, Store.set_other _ _ hka]; exact ha, hk, kvSet kvs l (.bool true), by rw [Store.set_set], ?_⟩
      have hnb : -l ∉ ls.take i := fun q => by
        have := kvAt_some.mpr ((hm _).mpr q)
        rw [this] at hb; cases hb
      have hnb2 : l ≠ -l := by lia
      rw [kvSet_keys, htk]
      refine ⟨fun k => ?_, ?_, ?_, ?_⟩
      · by_cases q : l ∈ kvs.map (·.1)
        · rw [if_pos q, hm k]
          constructor
          · exact fun z => List.mem_append_left _ z
          · intro z
            rcases List.mem_append.mp z with z | z
            · exact z
            · rw [List.mem_singleton] at z; subst z; exact (hm k).mp q
        · rw [if_neg q, List.mem_append, List.mem_append, hm k]
      · by_cases q : l ∈ kvs.map (·.1)
        · rw [if_pos q]; exact hnd
        · rw [if_neg q]; exact List.nodup_append.mpr ⟨hnd, by simp, fun x hx1 y hy e => by rw [List.mem_singleton] at hy; exact q (by rw [← hy, ← e]; exact hx1)⟩
      · have : (kvSet kvs l (.bool true)).length ≤ kvs.length + 1 := by unfold kvSet; split <;> simp
        lia
      · intro y hy hny
        rcases List.mem_append.mp hy with h1 | h1 <;> rcases List.mem_append.mp hny with h2 | h2
        · exact hcl y h1 h2
        · rw [List.mem_singleton] at h2; exact hnb (by rw [← h2]; simpa using h1)
        · rw [List.mem_singleton] at h1; subst h1; exact hnb h2
        · rw [List.mem_singleton] at h1 h2; subst h1; lia
  · rintro ρ₂ σ₂ ⟨hk, kvs, rfl, hm, hnd, hlen, hcl⟩ hkeep
    rw [List.length_map, List.take_length] at hm hcl
    have hc : clash ls = false := clash_of hcl
    have hset : (σ.set kd (.idict kvs)) kd = some (.idict kvs) := by simp
    have hsm : Small (kvs.map (·.1)) := fun l hl => hs l ((hm l).mp hl)
    refine Ex.cons (Ex1.ret (evT T' KN (by rfl) (by kernel_rfl) (by rfl) (Evs.cons (evSortedKey T' KN (by rfl) (by rfl) (by lia) (nmL KN (by rfl) (by exact hk) ⟨kd, kvs, rfl, hset, ?_, hsm, fun ns' b hp hn hb => Evs.nil (Cal.tupleOf (xs := ns'.map .int) (by simp) ?_ ?_)⟩) (fun r => by rfl)) (by rfl)) (star1 fun z9a => by rfl)))
    · refine List.pairwise_map.mpr (List.Pairwise.imp_of_mem (fun {x y} hx hy hne he => ?_) hnd)
      rcases Int.natAbs_eq_natAbs_iff.mp he with e | e
      · exact hne e
      · exact hcl y ((hm y).mp hy) (by rw [← e]; exact (hm x).mp hx)
    · have : ns'.length = kvs.length := by have := hp.length_eq; simpa using this
      have : ns'.length ≤ 4 := by have := congrArg List.length hn; simp only [List.length_map] at this; rw [this]; exact (List.length_filter_le _ _)
      simp only [List.length_map]; lia
    · refine ⟨σ, (Sub.new (Sub.refl _) hkd).new hb, ?_, rfl⟩
      have e := ord_unique hc hs (fun x hx => (hm x).mp (hp.mem_iff.mp hx)) hn
      have e2 : [1, 2, 3, 4].filter (fun k => ((kvs.map (·.1)).map Int.natAbs).contains k) = [1, 2, 3, 4].filter (has ls) := by
        refine List.filter_congr fun k z9a => ?_
        unfold has
        rw [Bool.eq_iff_iff]
        simp only [List.contains_iff_mem, List.mem_map]
        constructor
        · rintro ⟨x, ⟨⟨kv, h1, h2⟩, h3⟩⟩; exact ⟨x, (hm x).mp (List.mem_map.mpr ⟨kv, h1, h2⟩), h3⟩
        · rintro ⟨x, h1, h2⟩; exact ⟨x, List.mem_map.mp ((hm x).mpr h1), h2⟩
      rw [e2] at e
      simp only [ordF, hc, Bool.false_eq_true, if_false, optV, clV, ordL]
      rw [e]
end Mine
set_option tactic.hygienic false
namespace Mine
open PySem PySem.W PyProof.Rows PySem.Calls
set_option maxRecDepth 100000
noncomputable def tidyAt (c : List Int) (i : Nat) : Bool := (c.getD i 0 != 0) && (i == 0 || decide ((c.getD (i - 1) 0).natAbs < (c.getD i 0).natAbs))
noncomputable def tidyB (c : List Int) : Bool := (List.range c.length).all (tidyAt c)
theorem int_at {c : List Int} {i : Nat} (h : i < c.length) : (c.map Val.int)[i]? = some (.int (c.getD i 0)) := by
  rw [List.getElem?_map, List.getElem?_eq_getElem h]
  simp [List.getD, List.getElem?_eq_getElem h]
theorem rangeL_up {n : Nat} : rangeL 0 (n : Int) 1 = (List.range n).map fun (k : Nat) => Val.int (k : Int) := by
  unfold rangeL
  rw [rangeSize_up]
  have : (if (0 : Int) < (n : Int) then (n : Int) - 0 else 0).toNat = n := by split <;> lia
  rw [this]
  exact List.map_congr_left fun k z9a => by simp
theorem rangeL_at {n : Nat} {i : Nat} {x : Val} (h : (rangeL 0 (n : Int) 1)[i]? = some x) : i < n ∧ x = .int (i : Int) := by
  rw [rangeL_up] at h
  have hi : i < n := by have := (List.getElem?_eq_some_iff.mp h).1; simpa using this
  refine ⟨hi, ?_⟩
  rw [List.getElem?_map, List.getElem?_range hi] at h
  simpa using h.symm
theorem rangeL_len {n : Nat} : (rangeL 0 (n : Int) 1).length = n := by rw [rangeL_up]; simp
noncomputable def fn93 (p : Params) : FnAt p 93 := ⟨_, _, ⟨_, rfl, rfl⟩, rfl⟩
/-- is_tidy -/
theorem is_tidy_spec {C : Cx} {ρ σ} (T : Tops C) (hr : 3 ≤ C.room) {X : XPost} {c : List Int} (hz : c.length ≤ 900) : Cal C ρ σ (.ref 93) [clV c] (fun d σ' => d = .bool (tidyB c) ∧ σ' = σ) X := by
  refine Cal.mono (X := noX) (Q := fun d σ' => d = .bool (tidyB c) ∧ σ' = σ) ?_ (fun z9a z9b h => h) fun z9a z9b z9c h => h.elim
  refine FnAt.enter T (fn93 _) (by kernel_rfl) ["clause"] (by lia) (bind1 fun z9a => by rfl) (by kernel_rfl) rfl (by kernel_rfl) fun C' T' KN hr' hw hF => ?_
  refine Ex.lq ?_; intro Q₀
  have hlen : ((c.map Val.int).length) = c.length := by simp
  refine Ex.cons (Ex1.for T'.quiet (.inl hF) (ItE.range1 ?_ (star1 fun z9a => by rfl)))
  refine nmT T' KN (by rfl) (by kernel_rfl) (by rfl) (callI (.typ _) Keeps.type (Evs.one ?_ fun z9a => by rfl))
  refine evB1 T' KN (nmL KN (by rfl) (by rfl) (Cal.lenTup (by rw [hlen]; lia) (rg1I (by lia) (by rw [hlen]; lia) ?_)))
  rw [hlen]
  refine forI (fun i ρ₂ σ₂ => A3 (ρ₂ "clause" = some (clV c)) (σ₂ = σ) (∀ j < i, tidyAt c j = true)) ⟨rfl, rfl, fun j h => absurd h (Nat.not_lt_zero _)⟩ ?_ ?_
  · intro J₀ Q₁; rintro i x ρ₂ σ₂ hx ⟨hc, rfl, hall⟩ hkeep
    obtain ⟨hi, rfl⟩ := rangeL_at hx
    refine As.local (KN.at_ _ _ (by rfl)) ?_
    have hce : ∀ {Q : Val → Store → Prop} {pos : Pos}, Q (clV c) σ₂ → Ev C' (ρ₂.set "place" (.int (i : Int))) σ₂ (.Name "clause" pos) Q noX := fun q => nmL KN (by rfl) (by exact hc) q
    have hpl : ∀ {Q : Val → Store → Prop} {pos : Pos}, Q (.int (i : Int)) σ₂ → Ev C' (ρ₂.set "place" (.int (i : Int))) σ₂ (.Name "place" pos) Q noX := fun q => nmL KN (by rfl) (by rfl) q
    have hsz : (c.map Val.int).length < 2 ^ 62 := by rw [hlen]; lia
    have hat : (c.map Val.int)[(i : Int).toNat]? = some (.int (c.getD i 0)) := by rw [Int.toNat_natCast]; exact int_at hi
    have bad : tidyAt c i = false → tidyB c = false := fun h => List.all_eq_false.mpr ⟨i, by simpa using hi, by simp [h]⟩
    refine Ex.cons (Ex1.ite (Tst.cmp (Ev.sub (hce (hpl (Bin.itemTup (by lia) hat (Ev.int (Bin.eq (by rfl) (by rfl) ⟨_, rfl, ?_, ?_⟩)) hsz))))))
    · intro h0
      refine Ex.cons (Ex1.ret (Ev.bool ⟨?_, rfl⟩))
      have h1 : c.getD i 0 = 0 := by simpa [PyData.eqv, Val.py] using h0
      rw [bad (by unfold tidyAt; rw [h1]; rfl)]
    · intro h0
      have hne : c.getD i 0 ≠ 0 := by simpa [PyData.eqv, Val.py] using h0
      refine Ex.nil (Ex.cons (Ex1.ite (Tst.boolop (Tsts.and_cons (Tst.cmp (hpl (Ev.int (Bin.gt ⟨_, rfl, ?_, ?_⟩))))))))
      · intro hp
        have hp : 0 < i := by simpa using hp
        refine Tsts.and_cons (Tst.cmp ?_)
        refine evB1 T' KN (Ev.sub (hce (Ev.binop (hpl (Ev.int (Bin.sub ?_))))))
        refine Bin.itemTup (d := .int (c.getD (i - 1) 0)) (by lia) (by rw [pred_toNat]; exact int_at (by lia)) (Cal.abs ?_) hsz
        refine evB1 T' KN (Ev.sub (hce (hpl (Bin.itemTup (by lia) hat (Cal.abs (Bin.ge ⟨_, rfl, ?_, ?_⟩)) hsz))))
        · intro hb
          refine Tsts.and_nil ⟨fun z9a => Ex.cons (Ex1.ret (Ev.bool ⟨?_, rfl⟩)), fun h => by cases h⟩
          have hb' := of_decide_eq_true hb
          rw [abs_nat, abs_nat] at hb'
          have hlt : ¬ (c.getD (i - 1) 0).natAbs < (c.getD i 0).natAbs := by lia
          have hi0 : (i == 0) = false := by simp; lia
          rw [bad (by unfold tidyAt; rw [hi0, decide_eq_false hlt]; simp)]
        · intro hb
          refine ⟨(fun h => nomatch h), fun z9a => Ex.nil (Ex.nil ⟨(fun a e => (nomatch e)), hc, rfl, fun j hj => ?_⟩)⟩
          have hb' := of_decide_eq_false hb
          rw [abs_nat, abs_nat] at hb'
          rcases Nat.lt_succ_iff_lt_or_eq.mp hj with h1 | rfl
          · exact hall j h1
          · have hlt : (c.getD (j - 1) 0).natAbs < (c.getD j 0).natAbs := by lia
            unfold tidyAt; rw [decide_eq_true hlt, Bool.or_true, Bool.and_true]; simpa using hne
      · intro hp
        have hp : i = 0 := by simpa using hp
        refine ⟨(fun h => nomatch h), fun z9a => Ex.nil (Ex.nil ⟨(fun a e => (nomatch e)), hc, rfl, fun j hj => ?_⟩)⟩
        subst hp
        obtain rfl : j = 0 := by lia
        have : ((0 : Nat) == 0) = true := rfl
        unfold tidyAt; rw [this, Bool.true_or, Bool.and_true]; simpa using hne
  · rintro ρ₂ σ₂ ⟨hc, rfl, hall⟩ hkeep
    rw [rangeL_len] at hall
    refine Ex.cons (Ex1.ret (Ev.bool ⟨?_, rfl⟩))
    have : tidyB c = true := List.all_eq_true.mpr fun i hi => hall i (by simpa using hi)
    rw [this]
end Mine
set_option tactic.hygienic false
namespace Mine
open PySem PySem.W PyProof.Rows PySem.Calls
set_option maxRecDepth 100000
noncomputable def compB (ns : List (Str × NameKind)) (scope : Scope) : Bool := scope.kind == .function && scope.names.all (·.2 != .cell) && decide (scope.names.map (·.1)).Nodup && scope.names.all fun y => y.2 != .free || ns.lookup y.1 == some .cell
theorem compOk {C : Cx} {ns : List (Str × NameKind)} {scope : Scope} (KN : Kn C ns) (h : compB ns scope = true) : CompOk C scope := by
  unfold compB at h
  simp only [Bool.and_eq_true, beq_iff_eq, decide_eq_true_eq, List.all_eq_true, bne_iff_ne, Bool.or_eq_true] at h
  obtain ⟨⟨⟨h1, h2⟩, h3⟩, h4⟩ := h
  exact ⟨h1, h2, h3, fun y hy hf => KN.at_ _ _ ((h4 y hy).resolve_left fun q => q hf)⟩
section
variable {C : Cx} {ρ : Vars} {σ : Store} {X : XPost} {ns : List (Str × NameKind)} {elt iter : Expr} {ifs : List Expr} {scope : Scope} {pos px py spos : Pos} {x y : Str} {k : Nat} {pt : Pos}
/-- what a turn does: the element g tells, nothing else -/
noncomputable def Turn (C C' : Cx) (ρ₃ : Vars) (σ : Store) (ifs : List Expr) (elt : Expr) (u : Option Val) : Prop :=
  Cts C' ρ₃ σ ifs (fun b σ₄ => σ₄ = σ ∧ b = u.isSome ∧ (b = true → Ev C' ρ₃ σ elt (fun d σ₅ => σ₅ = σ ∧ u = some d) noX))
theorem turns_of {target : Expr} {σ₁ : Store} {xs : List Val} {src : Option Addr} {g : Val → Option Val} (hk : Keep1 src xs σ₁)
    (h : ∀ C', Comp C C' scope → ∀ v ∈ xs, ∀ ρ₂, Capt scope ρ ρ₂ → As C' ρ₂ σ₁ target v (fun ρ₃ σ₃ => σ₃ = σ₁ ∧ Capt scope ρ ρ₃ ∧ Turn C C' ρ₃ σ₁ ifs elt (g v)) noX) :
    Turns C ρ scope target elt ifs xs src (fun i ys σ' => σ' = σ₁ ∧ ys = (xs.take i).filterMap g) := by
  rintro C' hC i v ys ρ₂ σ₂ hv ⟨rfl, rfl⟩ hkeep hcap
  intro base s u H r
  refine wpAny_mono (h C' hC v (List.mem_of_getElem? hv) ρ₂ hcap base s u H r) ?_ fun z9a z9b x => x
  rintro a s' ⟨ρ₃, σ₃, H', rfl, hc3, hT⟩
  refine ⟨ρ₃, σ₃, H', hc3, ?_⟩
  have htk : xs.take (i + 1) = xs.take i ++ [v] := by rw [List.take_add_one, hv]; rfl
  have post : ∀ b σ₄, (σ₄ = σ₃ ∧ b = (g v).isSome ∧ (b = true → Ev C' ρ₃ σ₃ elt (fun d σ₅ => σ₅ = σ₃ ∧ g v = some d) noX)) →
      (if b = true then Ev C' ρ₃ σ₄ elt (fun d σ₅ => Keep1 src xs σ₅ ∧ σ₅ = σ₃ ∧ (xs.take i).filterMap g ++ [d] = (xs.take (i + 1)).filterMap g) noX else Keep1 src xs σ₄ ∧ σ₄ = σ₃ ∧ (xs.take i).filterMap g = (xs.take (i + 1)).filterMap g) := by
    rintro b σ₄ ⟨rfl, hb, he⟩
    cases b with
    | true =>
      rw [if_pos rfl]
      refine (he rfl).mono fun d σ₅ ⟨e1, e2⟩ => ?_
      subst e1
      refine ⟨hk, rfl, ?_⟩
      rw [htk, List.filterMap_append]; simp [e2]
    | false =>
      rw [if_neg (by simp)]
      have : g v = none := Option.isSome_eq_false_iff.mp hb.symm |> fun q => by simpa using q
      refine ⟨hk, rfl, ?_⟩
      rw [htk, List.filterMap_append]; simp [this]
  unfold Turn at hT
  match ifs, hT with
  | [], hT => exact post _ _ hT
  | [c], hT => exact fun base s H => wpAny_mono (hT base s H) (fun b s' ⟨ρ', σ', a1, a2, a3⟩ => ⟨ρ', σ', a1, a2, post _ _ a3⟩) fun z9a z9b x => x
  | _ :: _ :: _, hT => exact hT.elim
noncomputable abbrev TgP (C C' : Cx) (ρ : Vars) (scope : Scope) (σ₁ : Store) (ifs : List Expr) (elt : Expr) (u : Option Val) : Vars → Store → Prop := fun ρ₃ σ₃ => σ₃ = σ₁ ∧ Capt scope ρ ρ₃ ∧ Turn C C' ρ₃ σ₁ ifs elt u
noncomputable abbrev CoE (C : Cx) (ρ : Vars) (scope : Scope) (target : Expr) (ifs : List Expr) (elt : Expr) (Q : Val → Store → Prop) : List Val → Option Addr → Store → Prop := fun xs src σ₁ => xs.length ≤ 2 ^ 20 ∧ ∃ g : Val → Option Val, (Keep1 src xs σ₁ → ∀ C', Comp C C' scope → ∀ v ∈ xs, ∀ ρ₂, Capt scope ρ ρ₂ → As C' ρ₂ σ₁ target v (TgP C C' ρ scope σ₁ ifs elt (g v)) noX) ∧
      ∀ a, σ₁ a = none → Q (.ref a) (σ₁.set a (.list (xs.filterMap g)))
noncomputable abbrev CoA (C : Cx) (ρ : Vars) (scope : Scope) (target : Expr) (ifs : List Expr) (elt : Expr) (y : Str) (Q : Out → Vars → Store → Prop) : List Val → Option Addr → Store → Prop := fun xs src σ₁ => xs.length ≤ 2 ^ 20 ∧ ∃ g : Val → Option Val, (Keep1 src xs σ₁ → ∀ C', Comp C C' scope → ∀ v ∈ xs, ∀ ρ₂, Capt scope ρ ρ₂ → As C' ρ₂ σ₁ target v (TgP C C' ρ scope σ₁ ifs elt (g v)) noX) ∧
      ∀ a, σ₁ a = none → Q .next (ρ.set y (.ref a)) (σ₁.set a (.list (xs.filterMap g)))
theorem evCompOf {target : Expr} {Q : Val → Store → Prop} (KN : Kn C ns) (hq : C.quiet = true) (hc : compB ns scope = true)
    (h : ItE C ρ σ iter (CoE C ρ scope target ifs elt Q) X)
    (hs : ∀ x, foldedSetIterable iter C.env x = pure x := by intro _; rfl) : Ev C ρ σ (.ListComp elt [⟨target, iter, ifs, 0⟩] scope pos) Q X := by
  refine evComp (compOk KN hc) hq (fun base s H => wpAny_mono (h base s H) (fun x s₁ h₁ => wpAny_mono h₁ ?_ fun z9a z9b e => e) fun z9a z9b e => e) hs
  rintro it s₂ ⟨σ', xs, src, H', I, k, hz, g, ht, hend⟩
  refine ⟨σ', xs, src, H', I, k, hz, fun i ys σ'' => σ'' = σ' ∧ ys = (xs.take i).filterMap g, ⟨rfl, by simp⟩, turns_of k (ht k), ?_⟩
  rintro ys σ₂ a ⟨rfl, rfl⟩ _ ha
  rw [List.take_length]
  exact hend a ha
theorem exAssignCompOf {target : Expr} {Q : Out → Vars → Store → Prop} (KN : Kn C ns) (hq : C.quiet = true) (hc : compB ns scope = true) (hy : ns.lookup y = some .local)
    (h : ItE C ρ σ iter (CoA C ρ scope target ifs elt y Q) X)
    (hsw : (py.line == pos.line && !(scope.names.any fun (n, k) => n == y && (k == .local || k == .cell))) = true := by rfl)
    (hs : ∀ x, foldedSetIterable iter C.env x = pure x := by intro _; rfl) : Ex1 C ρ σ (.Assign [.Name y py] (.ListComp elt [⟨target, iter, ifs, 0⟩] scope pos) spos) Q X := by
  refine exAssignComp (compOk KN hc) hq (fun base s H => wpAny_mono (h base s H) (fun x s₁ h₁ => wpAny_mono h₁ ?_ fun z9a z9b e => e) fun z9a z9b e => e) (KN.at_ _ _ hy) hsw hs
  rintro it s₂ ⟨σ', xs, src, H', I, k, hz, g, ht, hend⟩
  refine ⟨σ', xs, src, H', I, k, hz, fun i ys σ'' => σ'' = σ' ∧ ys = (xs.take i).filterMap g, ⟨rfl, by simp⟩, turns_of k (ht k), ?_⟩
  rintro ys σ₂ a ⟨rfl, rfl⟩ _ ha
  rw [List.take_length]
  exact hend a ha
/-- the target of a turn: one name -/
theorem tgtName {C' : Cx} {ρ₂ : Vars} {σ₁ : Store} {v : Val} {u : Option Val} (hC : Comp C C' scope) (hx : scope.names.lookup x = some .local) (hcap : Capt scope ρ ρ₂)
    (h : ∀ ρ₃, ρ₃ x = some v → (∀ z, scope.names.lookup z = some .free → ρ₃ z = ρ z) → Turn C C' ρ₃ σ₁ ifs elt u) :
    As C' ρ₂ σ₁ (.Name x px) v (TgP C C' ρ scope σ₁ ifs elt u) noX := by
  have hcap' : Capt scope ρ (ρ₂.set x v) := fun z hz => by
    have : z ≠ x := fun e => by subst e; rw [hx] at hz; cases hz
    unfold Vars.set; rw [if_neg this]; exact hcap z hz
  exact As.local ((Kn.comp hC).at_ x .local (by
    have : ∀ (names : List (Str × NameKind)), names.lookup x = some .local → (freed names).lookup x = some .local := by
      intro names
      induction names with
      | nil => intro h; cases h
      | cons a r ih =>
        obtain ⟨n, k⟩ := a
        intro h
        simp only [freed, List.map_cons, List.lookup_cons] at h ⊢
        cases q : x == n with
        | true => rw [q] at h; cases h; simp
        | false => rw [q] at h; exact ih h
    exact this _ hx)) ⟨rfl, hcap', h _ (by simp [Vars.set]) hcap'⟩
end
end Mine
set_option tactic.hygienic false
namespace Mine
open PySem PySem.W PyProof.Rows PySem.Calls
set_option maxRecDepth 100000
theorem any_int {c : List Int} {v : Int} : ((c.map Val.int).any fun y => PyData.eqv y.py (Val.int v).py) = c.contains v := by
  rw [List.any_map, Bool.eq_iff_iff]
  simp only [List.any_eq_true, List.contains_iff_mem, Function.comp]
  constructor
  · rintro ⟨x, hx, h⟩
    have : x = v := by simpa [PyData.eqv, Val.py] using h
    subst this; exact hx
  · intro h; exact ⟨v, h, by simp [PyData.eqv, Val.py]⟩
theorem fits_ints {c : List Int} : Val.fits 8 (c.map Val.int) = true := by rw [Val.fits_all, List.all_map]; exact List.all_eq_true.mpr fun z9a z9b => rfl
theorem fit_clV {c : List Int} : Val.fit 8 (clV c) = true := by
  show Val.fits 7 (c.map Val.int) = true
  rw [Val.fits_all, List.all_map]; exact List.all_eq_true.mpr fun z9a z9b => rfl
theorem filterMap_ints {c : List Int} {p : Int → Bool} {g : Val → Option Val} (h : ∀ l, g (.int l) = if p l then some (.int l) else none) : (c.map Val.int).filterMap g = (c.filter p).map Val.int := by
  induction c with
  | nil => rfl
  | cons a r ih =>
    rw [List.map_cons, List.filterMap_cons, h, ih, List.filter_cons]
    cases p a <;> rfl
/-- resolving as the program does it -/
noncomputable def resR (c₁ c₂ : List Int) (v : Int) : Option (List Int) :=
  if c₁.contains v && c₂.contains (-v) then some (c₁.filter (· != v) ++ c₂.filter (· != -v))
  else if c₁.contains (-v) && c₂.contains v then some (c₁.filter (· != -v) ++ c₂.filter (· != v)) else none
section
variable {C : Cx} {ρ : Vars} {σ : Store} {X : XPost} {ns : List (Str × NameKind)}
/-- x, a tuple's numbers that pass -/
noncomputable def onlyNe (w : Int) : Val → Option Val
  | .int l => if l != w then some (.int l) else none
  | _ => none
end
noncomputable def fn98 (p : Params) : FnAt p 98 := ⟨_, _, ⟨_, rfl, rfl⟩, rfl⟩
theorem bind3 {fd : FuncData} {p₁ p₂ p₃ : Str} (h : ∀ a b c, bindArgs fd ⟨[a, b, c], []⟩ = pure [(p₁, a), (p₂, b), (p₃, c)]) : ∀ vs : List Value, vs.length = 3 → bindArgs fd ⟨vs, []⟩ = pure ([p₁, p₂, p₃].zip vs) := by
  intro vs hv
  rcases vs with _ | ⟨a, _ | ⟨b, _ | ⟨c, _ | ⟨_, _⟩⟩⟩⟩ <;> simp at hv
  exact h a b c
theorem bind2 {fd : FuncData} {p₁ p₂ : Str} (h : ∀ a b, bindArgs fd ⟨[a, b], []⟩ = pure [(p₁, a), (p₂, b)]) : ∀ vs : List Value, vs.length = 2 → bindArgs fd ⟨vs, []⟩ = pure ([p₁, p₂].zip vs) := by
  intro vs hv
  rcases vs with _ | ⟨a, _ | ⟨b, _ | ⟨_, _⟩⟩⟩ <;> simp at hv
  exact h a b
/-- literal != w, in a turn -/
theorem turn_ne {C C' : Cx} {ρ₃ : Vars} {σ : Store} {ns : List (Str × NameKind)} {e : Expr} {l w : Int} {p q pos : Pos} (KN : Kn C' ns) (hk : ns.lookup ("literal" : Str) = some .local) (hl : ρ₃ "literal" = some (.int l))
    (he : ∀ {Q : Val → Store → Prop} {X : XPost}, Q (.int w) σ → Ev C' ρ₃ σ e Q X) (hb : behindInMarks .NotEq e = false) : Turn C C' ρ₃ σ [.Compare (.Name "literal" p) [.NotEq] [e] pos] (.Name "literal" q) (onlyNe w (.int l)) := by
  refine Tst.cmp (nmL KN hk hl (he (Bin.ne (by rfl) (by rfl) ⟨_, rfl, rfl, ?_, fun hb => nmL KN hk hl ⟨rfl, ?_⟩⟩))) (hm := hb)
  · unfold onlyNe
    by_cases q : l = w
    · subst q; simp [PyData.eqv, Val.py]
    · simp [PyData.eqv, Val.py, q]
  · unfold onlyNe
    by_cases q : l = w
    · subst q; simp [PyData.eqv, Val.py] at hb
    · simp [q]
theorem only_filter {c : List Int} {w : Int} : (c.map Val.int).filterMap (onlyNe w) = (c.filter (· != w)).map Val.int := filterMap_ints fun l => rfl
theorem resolve_on_spec {C : Cx} {ρ σ} (T : Tops C) (hr : 8 ≤ C.room) {X : XPost} {c₁ c₂ : List Int} {v : Int} (h1 : Small c₁) (h2 : Small c₂) (z1 : c₁.length ≤ 400) (z2 : c₂.length ≤ 400) (hv : v.natAbs < 10 ^ 6) (hX : resR c₁ c₂ v = none → X 69 ρ σ) :
    Cal C ρ σ (.ref 98) [clV c₁, clV c₂, .int v] (fun d σ' => ∃ rest, resR c₁ c₂ v = some rest ∧ d = optV (ordF rest) ∧ σ' = σ) X := by
  refine Cal.drop (X := X) (X' := fun c ρ' σ' => c = 69 ∧ ρ' = ρ ∧ resR c₁ c₂ v = none ∧ Sub σ σ') (Q := fun d σ' => ∃ rest, resR c₁ c₂ v = some rest ∧ d = optV (ordF rest) ∧ σ' = σ) ?_ ?_
  · refine FnAt.enter T (fn98 _) (by kernel_rfl) ["one", "other", "variable"] (by lia) (bind3 fun z9a z9b z9c => by rfl) (by kernel_rfl) rfl (by kernel_rfl) fun C' T' KN hr' hw hF => ?_
    refine Ex.lq ?_; intro Q₀
    have e1 : ∀ {σ' : Store} {Q : Val → Store → Prop} {X : XPost} {pos : Pos}, Q (clV c₁) σ' → Ev C' (fun x => (([("one", clV c₁), ("other", clV c₂), ("variable", .int v)] : List (Str × Val)).lookup x)) σ' (.Name "one" pos) Q X := fun q => nmL KN (by rfl) (by rfl) q
    have e2 : ∀ {σ' : Store} {Q : Val → Store → Prop} {X : XPost} {pos : Pos}, Q (clV c₂) σ' → Ev C' (fun x => (([("one", clV c₁), ("other", clV c₂), ("variable", .int v)] : List (Str × Val)).lookup x)) σ' (.Name "other" pos) Q X := fun q => nmL KN (by rfl) (by rfl) q
    have e3 : ∀ {σ' : Store} {Q : Val → Store → Prop} {X : XPost} {pos : Pos}, Q (.int v) σ' → Ev C' (fun x => (([("one", clV c₁), ("other", clV c₂), ("variable", .int v)] : List (Str × Val)).lookup x)) σ' (.Name "variable" pos) Q X := fun q => nmC KN (by rfl) (by rfl) q
    have tail : ∀ {ρ' : Vars} {σ' : Store} {rest : List Int} {ar : Addr} {p q r r₂ : Pos}, ρ' "rest" = some (.ref ar) → σ' ar = some (.list (rest.map .int)) → Sub σ σ' → resR c₁ c₂ v = some rest → Small rest → rest.length ≤ 900 →
        Ex C' ρ' σ' [.Return (some (.Call (.Name "tidy" p) [.Name "rest" q] [] r)) r₂] (fun o z9a σ' => match o with | .next => ∃ σ'', Sub σ'' σ' ∧ ∃ rest, resR c₁ c₂ v = some rest ∧ Val.none = optV (ordF rest) ∧ σ'' = σ | .ret d => ∃ σ'', Sub σ'' σ' ∧ ∃ rest, resR c₁ c₂ v = some rest ∧ d = optV (ordF rest) ∧ σ'' = σ | _ => False) (fun c z9a σ' => c = 69 ∧ ρ = ρ ∧ resR c₁ c₂ v = none ∧ Sub σ σ') := by
      intro ρ' σ' rest ar p q r r₂ h₁ h₂ h₃ h₄ h₅ h₆
      refine Ex.cons (Ex1.ret (evF1 86 T' KN (nmL KN (by rfl) h₁ ((tidy_spec T' (by lia) h₂ h₅ h₆).mono (fun d σ'' hd => ?_) fun z9a z9b z9c x => x))))
      exact ⟨σ, by rw [hd.2]; exact h₃, rest, h₄, hd.1, rfl⟩
    refine Ex.cons (Ex1.ite (Tst.boolop (Tsts.and_cons (Tst.cmp (e3 (e1 (Bin.inTup (by rfl) fits_ints (brB (fun ha => Tsts.and_cons (Tst.cmp (Ev.unop (e3 (Una.neg (e2 (Bin.inTup (by rfl) fits_ints (brB (fun hb => Tsts.and_nil ⟨fun z9a => ?_, (fun q => nomatch q)⟩) (fun hb => ⟨(fun q => nomatch q), fun z9a => ?_⟩))))))))) (fun ha => ⟨(fun q => nomatch q), fun z9a => ?_⟩)))))))))
    · rw [any_int] at ha hb
      refine Ex.cons (exAssignCompOf KN T'.quiet (by kernel_rfl) (by rfl) (ItE.of_ev (e1 ((ofT ⟨by simp; lia, onlyNe v, fun z9a C'' hC x hx ρ₂ hcap => ?_, fun ar har => ?_⟩)))))
      · obtain ⟨l, hl, rfl⟩ := List.mem_map.mp hx
        refine tgtName hC (by rfl) hcap fun ρ₃ hlit hfree => ?_
        have KNc := Kn.comp hC
        have hcv : ρ₃ "variable" = some (.int v) := (hfree "variable" (by rfl)).trans (by rfl)
        exact turn_ne KNc (by rfl) hlit (fun q => nmC KNc (by rfl) hcv q) (by with_unfolding_all rfl)
      · rw [only_filter]
        refine Ex.cons (Ex1.expr (Ev.callL PySem.F.slot_list_extend PySem.F.type_list_extend (nmL KN (by rfl) (by rfl) ⟨ar, _, rfl, by simp; rfl, Evs.one ?_ fun z9a => by rfl⟩) (star1 fun z9a => by rfl)))
        refine evCompOf KN T'.quiet (by kernel_rfl) (ItE.of_ev (nmL KN (by rfl) (by rfl) ((ofT ⟨by simp; lia, onlyNe (-v), fun z9a C'' hC x hx ρ₂ hcap => ?_, fun br hbr => ?_⟩))))
        · obtain ⟨l, hl, rfl⟩ := List.mem_map.mp hx
          refine tgtName hC (by rfl) hcap fun ρ₃ hlit hfree => ?_
          have KNc := Kn.comp hC
          have hcv : ρ₃ "variable" = some (.int v) := (hfree "variable" (by rfl)).trans (by rfl)
          exact turn_ne KNc (by rfl) hlit (fun q => Ev.unop (nmC KNc (by rfl) hcv (Una.neg q))) (by with_unfolding_all rfl)
        · rw [only_filter]
          have hab : ar ≠ br := fun e => by subst e; simp at hbr
          refine Cal.extend (xs := (c₁.filter (· != v)).map Val.int) (ys := (c₂.filter (· != (-v))).map Val.int) (by rw [Store.set_other _ _ hab]; simp) (by simp) ?_ ?_ ?_
          · have := List.length_filter_le (· != v) c₁; simp only [List.length_map]; lia
          · have := List.length_filter_le (· != (-v)) c₂; simp only [List.length_map]; lia
          · refine Ex.nil (tail (rest := c₁.filter (· != v) ++ c₂.filter (· != (-v))) (ar := ar) (by rfl) (by simp) ?_ (by unfold resR; rw [if_pos (by rw [ha, hb]; rfl)]) ?_ ?_)
            · have h0 : σ ar = none := har
              refine Sub.put (Sub.new (Sub.new (Sub.refl _) h0) hbr) h0
            · intro l hl
              rcases List.mem_append.mp hl with hl | hl
              · exact h1 l (List.mem_filter.mp hl).1
              · exact h2 l (List.mem_filter.mp hl).1
            · have := List.length_filter_le (· != v) c₁; have := List.length_filter_le (· != (-v)) c₂; simp only [List.length_append]; lia
    all_goals
      have hno : ¬ (c₁.contains v && c₂.contains (-v)) = true := by
        first
          | (rw [any_int] at ha hb; rw [ha, hb]; simp)
          | (rw [any_int] at ha; rw [ha]; simp)
      refine Ex.cons (Ex1.ite (Tst.boolop (Tsts.and_cons (Tst.cmp (Ev.unop (e3 (Una.neg (e1 (Bin.inTup (by rfl) fits_ints (brB (fun hc => Tsts.and_cons (Tst.cmp (e3 (e2 (Bin.inTup (by rfl) fits_ints (brB (fun hd => Tsts.and_nil ⟨fun z9a => ?_, (fun q => nomatch q)⟩) (fun hd => ⟨(fun q => nomatch q), fun z9a => ?_⟩))))))) (fun hc => ⟨(fun q => nomatch q), fun z9a => ?_⟩)))))))))))
      · rw [any_int] at hc hd
        refine Ex.cons (exAssignCompOf KN T'.quiet (by kernel_rfl) (by rfl) (ItE.of_ev (e1 ((ofT ⟨by simp; lia, onlyNe (-v), fun z9a C'' hC x hx ρ₂ hcap => ?_, fun ar har => ?_⟩)))))
        · obtain ⟨l, hl, rfl⟩ := List.mem_map.mp hx
          refine tgtName hC (by rfl) hcap fun ρ₃ hlit hfree => ?_
          have KNc := Kn.comp hC
          have hcv : ρ₃ "variable" = some (.int v) := (hfree "variable" (by rfl)).trans (by rfl)
          exact turn_ne KNc (by rfl) hlit (fun q => Ev.unop (nmC KNc (by rfl) hcv (Una.neg q))) (by with_unfolding_all rfl)
        · rw [only_filter]
          refine Ex.cons (Ex1.expr (Ev.callL PySem.F.slot_list_extend PySem.F.type_list_extend (nmL KN (by rfl) (by rfl) ⟨ar, _, rfl, by simp; rfl, Evs.one ?_ fun z9a => by rfl⟩) (star1 fun z9a => by rfl)))
          refine evCompOf KN T'.quiet (by kernel_rfl) (ItE.of_ev (nmL KN (by rfl) (by rfl) ((ofT ⟨by simp; lia, onlyNe v, fun z9a C'' hC x hx ρ₂ hcap => ?_, fun br hbr => ?_⟩))))
          · obtain ⟨l, hl, rfl⟩ := List.mem_map.mp hx
            refine tgtName hC (by rfl) hcap fun ρ₃ hlit hfree => ?_
            have KNc := Kn.comp hC
            have hcv : ρ₃ "variable" = some (.int v) := (hfree "variable" (by rfl)).trans (by rfl)
            exact turn_ne KNc (by rfl) hlit (fun q => nmC KNc (by rfl) hcv q) (by with_unfolding_all rfl)
          · rw [only_filter]
            have hab : ar ≠ br := fun e => by subst e; simp at hbr
            refine Cal.extend (xs := (c₁.filter (· != (-v))).map Val.int) (ys := (c₂.filter (· != v)).map Val.int) (by rw [Store.set_other _ _ hab]; simp) (by simp) ?_ ?_ ?_
            · have := List.length_filter_le (· != (-v)) c₁; simp only [List.length_map]; lia
            · have := List.length_filter_le (· != v) c₂; simp only [List.length_map]; lia
            · refine Ex.nil (Ex.nil (tail (rest := c₁.filter (· != (-v)) ++ c₂.filter (· != v)) (ar := ar) (by rfl) (by simp) ?_ (by unfold resR; rw [if_neg hno, if_pos (by rw [hc, hd]; rfl)]) ?_ ?_))
              · have h0 : σ ar = none := har
                refine Sub.put (Sub.new (Sub.new (Sub.refl _) h0) hbr) h0
              · intro l hl
                rcases List.mem_append.mp hl with hl | hl
                · exact h1 l (List.mem_filter.mp hl).1
                · exact h2 l (List.mem_filter.mp hl).1
              · have := List.length_filter_le (· != (-v)) c₁; have := List.length_filter_le (· != v) c₂; simp only [List.length_append]; lia
      all_goals
        have hno2 : ¬ (c₁.contains (-v) && c₂.contains v) = true := by
          first
            | (rw [any_int] at hc hd; rw [hc, hd]; simp)
            | (rw [any_int] at hc; rw [hc]; simp)
        refine Ex.cons (exRaise T' KN (by rfl) (by lia) (Evs.two (evFstr (by decide) (fun e he => ?_) fun x => Ev.unop (Ev.int (Una.neg ⟨rfl, rfl, rfl, by unfold resR; rw [if_neg hno, if_neg hno2], Sub.refl _⟩))) (fun z9a => by rfl) (fun z9a => by rfl)) (starS (fun z9a => by rfl) (star1 fun z9a => by rfl)))
        rcases List.mem_cons.mp he with rfl | he
        · exact partStr (by decide)
        · rw [List.mem_singleton] at he; subst he
          exact partInt (e3 ⟨rfl, v, rfl, hv⟩)
  · rintro c ρ' σ' ⟨rfl, rfl, h, hs⟩
    exact ⟨σ, hs, hX h⟩
end Mine
set_option tactic.hygienic false
namespace Mine
open PySem PySem.W PyProof.Rows PySem.Calls
set_option maxRecDepth 100000
noncomputable def fn112 (p : Params) : FnAt p 112 := ⟨_, _, ⟨_, rfl, rfl⟩, rfl⟩
noncomputable def fn119 (p : Params) : FnAt p 119 := ⟨_, _, ⟨_, rfl, rfl⟩, rfl⟩
noncomputable def fn133 (p : Params) : FnAt p 133 := ⟨_, _, ⟨_, rfl, rfl⟩, rfl⟩
noncomputable def fn140 (p : Params) : FnAt p 140 := ⟨_, _, ⟨_, rfl, rfl⟩, rfl⟩
noncomputable def fn147 (p : Params) : FnAt p 147 := ⟨_, _, ⟨_, rfl, rfl⟩, rfl⟩
noncomputable def fn154 (p : Params) : FnAt p 154 := ⟨_, _, ⟨_, rfl, rfl⟩, rfl⟩
theorem init_spec {C : Cx} {ρ σ} (T : Tops C) (hr : 1 ≤ C.room) {X : XPost} {x dd : Addr} (hx : σ x = some (.inst 219 dd)) (hd : σ dd = some (.sdict [])) :
    CalC C ρ σ (.ref 112) [.ref x] (fun d σ' => d = .none ∧ ∃ as am, σ as = none ∧ σ am = none ∧ PAt σ' x dd as am [] [.int 0] (-1) ∧ ∀ b, b ≠ dd → b ≠ as → b ≠ am → σ' b = σ b) X := by
  refine FnAt.enterC T (fn112 _) (by kernel_rfl) ["self"] (by lia) (bind1 fun z9a => by rfl) (by kernel_rfl) rfl (by kernel_rfl) fun C' T' KN hr' hw hF => ?_
  have hxd : x ≠ dd := fun e => by subst e; rw [hx] at hd; cases hd
  refine Ex.cons (Ex1.assign (Ev.list (Evs.nil ⟨by simp, fun as has => ?_⟩)))
  have h1 : x ≠ as := fun e => by subst e; rw [hx] at has; cases has
  have h2 : dd ≠ as := fun e => by subst e; rw [hd] at has; cases has
  refine As.attr (nmL KN (by rfl) (by rfl) ⟨x, 219, dd, _, rfl, by rw [Store.set_other _ _ h1]; exact hx, by rw [Store.set_other _ _ h2]; exact hd, by rw [T'.K]; exact PAt.attrS _, by simp, ?_⟩)
  have h3 : ((σ.set as (.list [])).set dd (.sdict (kvSet [] "steps" (.ref as)))) dd = some (.sdict [("steps", .ref as)]) := by simp; rfl
  refine Ex.cons (Ex1.assign (Ev.list (Evs.one (Ev.int ⟨by simp, fun am ham => ?_⟩) fun z9a => by rfl)))
  have k1 : x ≠ am := fun e => by subst e; rw [Store.set_other _ _ hxd, Store.set_other _ _ h1, hx] at ham; cases ham
  have k2 : dd ≠ am := fun e => by subst e; rw [h3] at ham; cases ham
  have k3 : as ≠ am := fun e => by subst e; rw [Store.set_other _ _ (Ne.symm h2)] at ham; simp at ham
  have ham' : σ am = none := by rw [Store.set_other _ _ (Ne.symm k2), Store.set_other _ _ (Ne.symm k3)] at ham; exact ham
  refine As.attr (nmL KN (by rfl) (by rfl) ⟨x, 219, dd, _, rfl, by rw [Store.set_other _ _ k1, Store.set_other _ _ hxd, Store.set_other _ _ h1]; exact hx, by rw [Store.set_other _ _ k2]; exact h3, by rw [T'.K]; exact PAt.attrN _, by simp, ?_⟩)
  refine Ex.cons (Ex1.assign (Ev.unop (Ev.int (Una.neg ?_))))
  refine As.attr (nmL KN (by rfl) (by rfl) ⟨x, 219, dd, _, rfl, by rw [Store.set_other _ _ hxd, Store.set_other _ _ k1, Store.set_other _ _ hxd, Store.set_other _ _ h1]; exact hx, Store.set_same _ _ _, by rw [T'.K]; exact PAt.attrE _, (by show 2 ≤ 100; decide), ?_⟩)
  refine Ex.nil ⟨rfl, as, am, has, ham', ⟨?_, ?_, ?_, ?_, k3⟩, fun b b1 b2 b3 => ?_⟩
  · rw [Store.set_other _ _ hxd, Store.set_other _ _ hxd, Store.set_other _ _ k1, Store.set_other _ _ hxd, Store.set_other _ _ h1]; exact hx
  · rw [Store.set_same]; rfl
  · rw [Store.set_other _ _ (Ne.symm h2), Store.set_other _ _ (Ne.symm h2), Store.set_other _ _ k3, Store.set_other _ _ (Ne.symm h2), Store.set_same]
  · rw [Store.set_other _ _ (Ne.symm k2), Store.set_other _ _ (Ne.symm k2), Store.set_same]
  · rw [Store.set_other _ _ b1, Store.set_other _ _ b1, Store.set_other _ _ b3, Store.set_other _ _ b1, Store.set_other _ _ b2]
/-- Proof() -/
theorem proof_spec {C : Cx} {ρ σ} (T : Tops C) (hr : 3 ≤ C.room) {X : XPost} :
    Cal C ρ σ (.ref 219) [] (fun d σ' => X4 fun x dd as am => A7 (d = .ref x) (σ x = none) (σ dd = none) (σ as = none) (σ am = none) (PAt σ' x dd as am [] [.int 0] (-1)) (∀ b, b ≠ x → b ≠ dd → b ≠ as → b ≠ am → σ' b = σ b)) X := by
  refine Cal.make T (by lia) (by kernel_rfl) (fI := 112) (by kernel_rfl) (by kernel_rfl) (by decide +kernel) (by decide +kernel) (by rfl) fun x dd hx hdd hne C' T' hr' hw => ?_
  have e1 : ((σ.set dd (.sdict [])).set x (.inst 219 dd)) x = some (.inst 219 dd) := Store.set_same _ _ _
  have e2 : ((σ.set dd (.sdict [])).set x (.inst 219 dd)) dd = some (.sdict []) := by rw [Store.set_other _ _ (Ne.symm hne), Store.set_same]
  have key := init_spec (ρ := ρ) (X := X) T' (by lia) e1 e2
  intro base s vs H r
  refine codeAny_mono (key base s vs H r) fun r s' z => ?_
  rcases r with e | (v | _ | _ | _) <;> first | exact z.elim | exact z | skip
  obtain ⟨d, σ', H', rd, hdn, as, am, has, ham, P, hf⟩ := z
  have a1 : as ≠ x := fun e => by subst e; rw [e1] at has; cases has
  have a2 : as ≠ dd := fun e => by subst e; rw [e2] at has; cases has
  have m1 : am ≠ x := fun e => by subst e; rw [e1] at ham; cases ham
  have m2 : am ≠ dd := fun e => by subst e; rw [e2] at ham; cases ham
  refine ⟨d, σ', H', rd, hdn, x, dd, as, am, rfl, hx, hdd, ?_, ?_, P, fun b b1 b2 b3 b4 => ?_⟩
  · rw [Store.set_other _ _ a1, Store.set_other _ _ a2] at has; exact has
  · rw [Store.set_other _ _ m1, Store.set_other _ _ m2] at ham; exact ham
  · rw [hf b b2 b3 b4, Store.set_other _ _ b1, Store.set_other _ _ b2]
end Mine
set_option tactic.hygienic false
namespace Mine
open PySem PySem.W PyProof.Rows PySem.Calls
set_option maxRecDepth 100000
section
variable {C : Cx} {ρ : Vars} {σ : Store} {X : XPost} {x dd as am : Addr} {steps names : List Val} {e : Int}
theorem name_spec (T : Tops C) (hr : 1 ≤ C.room) (P : PAt σ x dd as am steps names e) (hz : names.length ≤ 900) {t : Int} :
    Cal C ρ σ (.ref 119) [.ref x, .int (names.length : Int), .int t] (fun d σ' => d = .none ∧ σ' = σ.set am (.list (names ++ [.int t]))) X := by
  refine FnAt.enter T (fn119 _) (by kernel_rfl) ["self", "var", "term"] (by lia) (bind3 fun z9a z9b z9c => by rfl) (by kernel_rfl) rfl (by kernel_rfl) fun C' T' KN hr' hw hF => ?_
  refine Ex.cons (Ex1.ite (Tst.cmp (nmL KN (by rfl) (by rfl) (evB1 T' KN (evNamed T'.K (nmL KN (by rfl) (by rfl) (psI P ?_)))))))
  refine Cal.len P.names (by lia) (Bin.ne (by rfl) (by rfl) (brB (fun h => ?_) (fun z9a => Ex.nil ?_)))
  · simp [PyData.eqv, Val.py] at h
  · refine Ex.cons (Ex1.expr (Ev.callL PySem.F.slot_list_append PySem.F.type_list_append (evNamed T'.K (nmL KN (by rfl) (by rfl) (psI P ⟨am, names, rfl, P.names, Evs.one (nmL KN (by rfl) (by rfl) ?_) fun z9a => by rfl⟩))) (star1 fun z9a => by rfl)))
    exact Cal.append P.names (by lia) (Ex.nil ⟨rfl, rfl⟩)
theorem var_count_spec (T : Tops C) (hr : 1 ≤ C.room) (P : PAt σ x dd as am steps names e) (hz : names.length ≤ 900) :
    Cal C ρ σ (.ref 133) [.ref x] (fun d σ' => d = .int (names.length - 1) ∧ σ' = σ) X := by
  refine FnAt.enter T (fn133 _) (by kernel_rfl) ["self"] (by lia) (bind1 fun z9a => by rfl) (by kernel_rfl) rfl (by kernel_rfl) fun C' T' KN hr' hw hF => ?_
  refine Ex.cons (Ex1.ret (Ev.binop (evB1 T' KN (evNamed T'.K (nmL KN (by rfl) (by rfl) (psI P ?_))))))
  exact Cal.len P.names (by lia) (Ev.int (Bin.sub ⟨rfl, rfl⟩))
theorem size_spec (T : Tops C) (hr : 1 ≤ C.room) (P : PAt σ x dd as am steps names e) (hz : steps.length ≤ 900) :
    Cal C ρ σ (.ref 140) [.ref x] (fun d σ' => d = .int steps.length ∧ σ' = σ) X := by
  refine FnAt.enter T (fn140 _) (by kernel_rfl) ["self"] (by lia) (bind1 fun z9a => by rfl) (by kernel_rfl) rfl (by kernel_rfl) fun C' T' KN hr' hw hF => ?_
  refine Ex.cons (Ex1.ret (evB1 T' KN (evSteps T'.K (nmL KN (by rfl) (by rfl) (psI P ?_)))))
  exact Cal.len P.steps (by lia) ⟨rfl, rfl⟩
theorem clause_spec (T : Tops C) (hr : 1 ≤ C.room) (P : PAt σ x dd as am steps names e) (hz : steps.length ≤ 900) {k : Nat} {r c p n : Val} (hk : steps[k]? = some (.tup [r, c, p, n])) :
    Cal C ρ σ (.ref 147) [.ref x, .int (k : Int)] (fun d σ' => d = c ∧ σ' = σ) X := by
  refine FnAt.enter T (fn147 _) (by kernel_rfl) ["self", "step"] (by lia) (bind2 fun z9a z9b => by rfl) (by kernel_rfl) rfl (by kernel_rfl) fun C' T' KN hr' hw hF => ?_
  have hk1 : k < steps.length := (List.getElem?_eq_some_iff.mp hk).1
  refine Ex.cons (Ex1.ret (Ev.sub (Ev.sub (evSteps T'.K (nmL KN (by rfl) (by rfl) (psI P (nmL KN (by rfl) (by rfl) ?_)))))))
  exact Bin.itemList P.steps (by lia) (by lia) (by rw [Int.toNat_natCast]; exact hk) (Ev.int (Bin.itemTup (d := c) (by lia) (by rfl) ⟨rfl, rfl⟩ (by simp)))
theorem rule_spec (T : Tops C) (hr : 1 ≤ C.room) (P : PAt σ x dd as am steps names e) (hz : steps.length ≤ 900) {k : Nat} {r c p n : Val} (hk : steps[k]? = some (.tup [r, c, p, n])) :
    Cal C ρ σ (.ref 154) [.ref x, .int (k : Int)] (fun d σ' => d = r ∧ σ' = σ) X := by
  refine FnAt.enter T (fn154 _) (by kernel_rfl) ["self", "step"] (by lia) (bind2 fun z9a z9b => by rfl) (by kernel_rfl) rfl (by kernel_rfl) fun C' T' KN hr' hw hF => ?_
  have hk1 : k < steps.length := (List.getElem?_eq_some_iff.mp hk).1
  refine Ex.cons (Ex1.ret (Ev.sub (Ev.sub (evSteps T'.K (nmL KN (by rfl) (by rfl) (psI P (nmL KN (by rfl) (by rfl) ?_)))))))
  exact Bin.itemList P.steps (by lia) (by lia) (by rw [Int.toNat_natCast]; exact hk) (Ev.int (Bin.itemTup (d := r) (by lia) (by rfl) ⟨rfl, rfl⟩ (by simp)))
end
end Mine
set_option tactic.hygienic false
namespace Mine
open PySem PySem.W PyProof.Rows PySem.Calls
set_option maxRecDepth 100000
noncomputable def Ag (l : List Str) (ρ ρ₀ : Vars) : Prop := ∀ y, y ∉ l → ρ y = ρ₀ y
theorem Ag.refl {l ρ} : Ag l ρ ρ := fun z9a z9b => rfl
theorem Ag.set {l ρ ρ₀ x v} (h : Ag l ρ ρ₀) (hx : x ∈ l) : Ag l (ρ.set x v) ρ₀ := fun y hy => by
  have : y ≠ x := fun e => hy (e ▸ hx)
  unfold Vars.set; rw [if_neg this]; exact h y hy
theorem Ag.to {l ρ ρ₀ x v} (h : Ag l ρ ρ₀) (hx : x ∉ l) (hv : ρ₀ x = some v) : ρ x = some v := (h x hx).trans hv
theorem Vars.set_ne {ρ : Vars} {x y : Str} {v : Val} (h : y ≠ x) : (ρ.set x v) y = ρ y := by unfold Vars.set; rw [if_neg h]
theorem Vars.set_eq {ρ : Vars} {x : Str} {v : Val} : (ρ.set x v) x = some v := by unfold Vars.set; rw [if_pos rfl]
noncomputable def ruleNames : List Str := ["input", "define", "ite_term", "three", "bits", "congruence", "farkas", "branch", "divide", "cut", "resolve"]
noncomputable def rulesV : Val := .tup (ruleNames.map .str)
theorem rules_rep (p : Params) {h : Heap} (X : (hd.heap_39 p).In h) : RepV [] h rulesV (.ref 72) := by
  have c : ∃ o vs n, (hd.heap_39 p).lookup 72 = some o ∧ o.cls = .type "tuple" ∧ o.data = .seq (List.toArray vs) n ∧ RepVs [] h (ruleNames.map .str) vs := by
    refine ⟨_, _, _, rfl, rfl, rfl, ?_⟩
    repeat first | exact RepVs.nil | refine RepVs.cons (by simp only [RepV]; exact ⟨_, rfl⟩) ?_
  obtain ⟨o, vs, n, h1, h2, h3, h4⟩ := c
  simp only [rulesV, RepV]
  exact ⟨72, vs, rfl, ⟨o, X _ _ h1, h2, n, h3⟩, by simp, h4⟩
theorem any_str {c : List Str} {v : Str} : ((c.map Val.str).any fun y => PyData.eqv y.py (Val.str v).py) = c.contains v := by
  rw [List.any_map, Bool.eq_iff_iff]
  simp only [List.any_eq_true, List.contains_iff_mem, Function.comp]
  constructor
  · rintro ⟨x, hx, h⟩
    have : x = v := by simpa [PyData.eqv, Val.py] using h
    subst this; exact hx
  · intro h; exact ⟨v, h, by simp [PyData.eqv, Val.py]⟩
theorem fits_rules : Val.fits 8 (ruleNames.map Val.str) = true := by
  have h : ruleNames.all PyData.strOk = true := by decide +kernel
  rw [Val.fits_all, List.all_map]
  refine List.all_eq_true.mpr fun x hx => ?_
  have := List.all_eq_true.mp h x hx
  simpa [Val.fit] using this
/-- what add asks -/
noncomputable def addOk (r : Str) (c : List Int) (ps : List Int) (n : Nat) : Bool := ruleNames.contains r && tidyB c && ps.all fun p => decide (0 ≤ p) && decide (p < (n : Int))
noncomputable def emptyAfter (c : List Int) (e : Int) (n : Nat) : Int := if c.length = 0 ∧ e < 0 then (n : Int) else e
theorem bind5 {fd : FuncData} {p₁ p₂ p₃ p₄ p₅ : Str} (h : ∀ a b c d e, bindArgs fd ⟨[a, b, c, d, e], []⟩ = pure [(p₁, a), (p₂, b), (p₃, c), (p₄, d), (p₅, e)]) : ∀ vs : List Value, vs.length = 5 → bindArgs fd ⟨vs, []⟩ = pure ([p₁, p₂, p₃, p₄, p₅].zip vs) := by
  intro vs hv
  rcases vs with _ | ⟨a, _ | ⟨b, _ | ⟨c, _ | ⟨d, _ | ⟨e, _ | ⟨_, _⟩⟩⟩⟩⟩⟩ <;> simp at hv
  exact h a b c d e
theorem bind4 {fd : FuncData} {p₁ p₂ p₃ p₄ : Str} (h : ∀ a b c d, bindArgs fd ⟨[a, b, c, d], []⟩ = pure [(p₁, a), (p₂, b), (p₃, c), (p₄, d)]) : ∀ vs : List Value, vs.length = 4 → bindArgs fd ⟨vs, []⟩ = pure ([p₁, p₂, p₃, p₄].zip vs) := by
  intro vs hv
  rcases vs with _ | ⟨a, _ | ⟨b, _ | ⟨c, _ | ⟨d, _ | ⟨_, _⟩⟩⟩⟩⟩ <;> simp at hv
  exact h a b c d
noncomputable def fn161 (p : Params) : FnAt p 161 := ⟨_, _, ⟨_, rfl, rfl⟩, rfl⟩
theorem add_spec {C : Cx} {ρ σ} (T : Tops C) (hr : 6 ≤ C.room) {X : XPost} {x dd as am : Addr} {steps names : List Val} {e : Int} (P : PAt σ x dd as am steps names e) (hz : steps.length ≤ 900) {r : Str} (hrl : r.length ≤ 100) (hrf : PyData.strOk r = true) {c ps : List Int} (hc : c.length ≤ 400) (hps : ps.length ≤ 400) (hpb : ∀ p ∈ ps, p.natAbs < 10 ^ 6) {note : Val}
    (hX : addOk r c ps steps.length = false → X 69 ρ σ) :
    Cal C ρ σ (.ref 161) [.ref x, .str r, clV c, clV ps, note] (fun d σ' => A4 (addOk r c ps steps.length = true) (d = .int steps.length) (PAt σ' x dd as am (steps ++ [.tup [.str r, clV c, clV ps, note]]) names (emptyAfter c e steps.length)) (∀ b, b ≠ as → b ≠ dd → σ' b = σ b)) X := by
  refine FnAt.enter T (fn161 _) (by kernel_rfl) ["self", "rule", "clause", "premises", "note"] (by lia) (bind5 fun z9a z9b z9c z9d z9e => by rfl) (by kernel_rfl) rfl (by kernel_rfl) fun C' T' KN hr' hw hF => ?_
  refine Ex.lq ?_; intro Q₀
  refine Ex.cons (Ex1.assign (evB1 T' KN (evSteps T'.K (nmL KN (by rfl) (by rfl) (psI P ?_)))))
  refine Cal.len P.steps (by lia) (As.local (KN.at_ _ _ (by rfl)) ?_)
  have rep : RepV [] C'.h₁ rulesV (.ref 72) := rules_rep C'.w.params (by rw [← T'.K]; exact T'.kin)
  refine Ex.cons (Ex1.ite (Tst.cmp (nmL KN (by rfl) (by rfl) (Ev.global (T'.glo (by kernel_rfl)) rep (KN.at_ _ _ (by rfl)) (Bin.notInTup ?_ ?_ ⟨_, rfl, ?_, ?_⟩) (by decide)))))
  · simpa [Val.fit] using hrf
  · exact fits_rules
  · intro h
    rw [any_str] at h
    have hno : addOk r c ps steps.length = false := by unfold addOk; rw [show ruleNames.contains r = false by simpa using h]; rfl
    refine Ex.cons (exRaise T' KN (by rfl) (by lia) (Evs.two (evFstr (by decide) (fun q hq => ?_) fun s => nmL KN (by rfl) (by rfl) ⟨rfl, hX hno⟩) (fun z9a => by rfl) (fun z9a => by rfl)) (starS (fun z9a => by rfl) (star1 fun z9a => by rfl)))
    rcases List.mem_cons.mp hq with rfl | hq
    · exact partStr (by decide)
    · rw [List.mem_singleton] at hq; subst hq
      exact partText (nmL KN (by rfl) (by rfl) ⟨rfl, r, rfl, by lia⟩)
  intro h
  rw [any_str] at h
  have hrule : ruleNames.contains r = true := by simpa using h
  refine Ex.nil (Ex.cons (Ex1.ite (Tst.not (Tst.val (evF1 93 T' KN (nmL KN (by rfl) (by rfl) ((is_tidy_spec T' (by lia) (by lia)).mono (fun d σ' hd => ?_) fun z9a z9b z9c x => x)))))))
  obtain ⟨rfl, rfl⟩ := hd
  refine ⟨tidyB c, Tru.bool, fun h => ?_, fun h => ?_⟩
  · have hno : addOk r c ps steps.length = false := by unfold addOk; rw [show tidyB c = false by simpa using h, Bool.and_false]; rfl
    refine Ex.cons (exRaise T' KN (by rfl) (by lia) (Evs.two (evFstr (by decide) (fun q hq => ?_) fun s => nmL KN (by rfl) (by rfl) ⟨rfl, hX hno⟩) (fun z9a => by rfl) (fun z9a => by rfl)) (starS (fun z9a => by rfl) (star1 fun z9a => by rfl)))
    rcases List.mem_cons.mp hq with rfl | hq
    · exact partText (nmL KN (by rfl) (by rfl) ⟨rfl, r, rfl, by lia⟩)
    · rw [List.mem_singleton] at hq; subst hq
      exact partStr (by decide)
  have htidy : tidyB c = true := by simpa using h
  refine Ex.nil (Ex.cons (Ex1.for T'.quiet (.inl hF) (ItE.of_ev (nmL KN (by rfl) (by rfl) ((ofT (forI (fun i ρ₂ σ₂ => A3 (σ₂ = σ') (Ag ["one"] ρ₂ _) (∀ j < i, ∀ p, ps[j]? = some p → 0 ≤ p ∧ p < (steps.length : Int))) ⟨rfl, Ag.refl, fun j h => absurd h (Nat.not_lt_zero _)⟩ ?_ ?_)))))))
  · intro J₀ Q₁; rintro i y ρ₂ σ₂ hy ⟨rfl, hag, hall⟩ hkeep
    obtain ⟨l, hl, rfl⟩ := ints_at hy
    refine As.local (KN.at_ _ _ (by rfl)) ?_
    have ag := hag.set (x := "one") (v := .int l) (by simp)
    have hone : ∀ {Q : Val → Store → Prop} {X : XPost} {pos : Pos}, Q (.int l) σ₂ → Ev C' (ρ₂.set "one" (.int l)) σ₂ (.Name "one" pos) Q X := fun q => nmL KN (by rfl) Vars.set_eq q
    have hnum : ∀ {Q : Val → Store → Prop} {X : XPost} {pos : Pos}, Q (.int steps.length) σ₂ → Ev C' (ρ₂.set "one" (.int l)) σ₂ (.Name "number" pos) Q X := fun q => nmL KN (by rfl) (ag.to (by decide) (by rfl)) q
    have hpl : l.natAbs < 10 ^ 6 := hpb l (List.mem_of_getElem? hl)
    have raise : ¬ (0 ≤ l ∧ l < (steps.length : Int)) → addOk r c ps steps.length = false := fun hn => by
      unfold addOk
      rw [Bool.and_eq_false_iff]
      right
      refine List.all_eq_false.mpr ⟨l, List.mem_of_getElem? hl, ?_⟩
      simpa using hn
    refine Ex.cons (Ex1.ite (Tst.not (Tst.cmp2 (Ev.int (hone (Bin.le (brB (fun h1 => hnum (Bin.lt (truI ⟨fun h2 => ?_, fun h2 => ?_⟩))) (fun h1 => ⟨fun z9a => ?_, fun q => (nomatch q)⟩))))))))
    · have h1' := of_decide_eq_true h1
      have hn : ¬ (0 ≤ l ∧ l < (steps.length : Int)) := by simpa [h1'] using h2
      refine Ex.cons (exRaise T' KN (by rfl) (by lia) (Evs.two (evFstr (by decide) (fun q hq => ?_) fun s => hnum ⟨rfl, hX (raise hn)⟩) (fun z9a => by rfl) (fun z9a => by rfl)) (starS (fun z9a => by rfl) (star1 fun z9a => by rfl)))
      rcases List.mem_cons.mp hq with rfl | hq
      · exact partText (nmL KN (by rfl) (ag.to (by decide) (by rfl)) ⟨rfl, r, rfl, by lia⟩)
      rcases List.mem_cons.mp hq with rfl | hq
      · exact partStr (by decide)
      rcases List.mem_cons.mp hq with rfl | hq
      · exact partInt (hone ⟨rfl, l, rfl, hpl⟩)
      · rw [List.mem_singleton] at hq; subst hq
        exact partStr (by decide)
    · have h1' := of_decide_eq_true h1
      have h2' : l < (steps.length : Int) := by simpa using h2
      refine Ex.nil (Ex.nil ⟨fun a e => (nomatch e), rfl, ag, fun j hj p hp => ?_⟩)
      rcases Nat.lt_succ_iff_lt_or_eq.mp hj with h3 | rfl
      · exact hall j h3 p hp
      · rw [hl] at hp; cases hp; exact ⟨h1', h2'⟩
    · have h1' := of_decide_eq_false h1
      have hn : ¬ (0 ≤ l ∧ l < (steps.length : Int)) := fun q => h1' q.1
      refine Ex.cons (exRaise T' KN (by rfl) (by lia) (Evs.two (evFstr (by decide) (fun q hq => ?_) fun s => hnum ⟨rfl, hX (raise hn)⟩) (fun z9a => by rfl) (fun z9a => by rfl)) (starS (fun z9a => by rfl) (star1 fun z9a => by rfl)))
      rcases List.mem_cons.mp hq with rfl | hq
      · exact partText (nmL KN (by rfl) (ag.to (by decide) (by rfl)) ⟨rfl, r, rfl, by lia⟩)
      rcases List.mem_cons.mp hq with rfl | hq
      · exact partStr (by decide)
      rcases List.mem_cons.mp hq with rfl | hq
      · exact partInt (hone ⟨rfl, l, rfl, hpl⟩)
      · rw [List.mem_singleton] at hq; subst hq
        exact partStr (by decide)
  · rintro ρ₂ σ₂ ⟨rfl, hag, hall⟩ hkeep
    have hok : addOk r c ps steps.length = true := by
      unfold addOk
      rw [hrule, htidy, Bool.true_and, Bool.true_and]
      refine List.all_eq_true.mpr fun p hp => ?_
      obtain ⟨j, hj, e⟩ := List.mem_iff_getElem.mp hp
      have := hall j (by simpa using hj) p (by rw [List.getElem?_eq_getElem hj, e])
      simpa using this
    have hclen : (c.map Val.int).length = c.length := by simp
    refine Ex.cons (Ex1.expr (Ev.callL PySem.F.slot_list_append PySem.F.type_list_append (evSteps T'.K (nmL KN (by rfl) (hag.to (by decide) (by rfl)) (psI P ⟨as, steps, rfl, P.steps, Evs.one ?_ fun z9a => by rfl⟩))) (star1 fun z9a => by rfl)))
    refine Ev.tuple (Evs.four (nmL KN (by rfl) (hag.to (by decide) (by rfl)) (evT1 T' KN (nmL KN (by rfl) (hag.to (by decide) (by rfl)) (Cal.tupleTup (evT1 T' KN (nmL KN (by rfl) (hag.to (by decide) (by rfl)) (Cal.tupleTup (nmL KN (by rfl) (hag.to (by decide) (by rfl)) ⟨by simp, ?_⟩)))))))) (fun z9a => by rfl) (fun z9a => by rfl) (fun z9a => by rfl) (fun z9a => by rfl))
    refine Cal.append P.steps (by lia) ?_
    have nd : dd ≠ as := fun q => by have h1 := P.dict; rw [q, P.steps] at h1; cases h1
    have nx : x ≠ as := fun q => by have h1 := P.obj; rw [q, P.steps] at h1; cases h1
    have nxd : x ≠ dd := fun q => by have h1 := P.obj; rw [q, P.dict] at h1; cases h1
    have nm : am ≠ dd := fun q => by have h1 := P.names; rw [q, P.dict] at h1; cases h1
    have P' : PAt (σ₂.set as (.list (steps ++ [.tup [.str r, clV c, clV ps, note]]))) x dd as am (steps ++ [.tup [.str r, clV c, clV ps, note]]) names e :=
      ⟨by rw [Store.set_other _ _ nx]; exact P.obj, by rw [Store.set_other _ _ nd]; exact P.dict, Store.set_same _ _ _, by rw [Store.set_other _ _ (Ne.symm P.ne)]; exact P.names, P.ne⟩
    have fin : ∀ {e'} {σ'} {pp qq : Pos}, PAt σ' x dd as am (steps ++ [.tup [.str r, clV c, clV ps, note]]) names e' → e' = emptyAfter c e steps.length → (∀ b, b ≠ as → b ≠ dd → σ' b = σ₂ b) → Ex C' ρ₂ σ' [.Return (some (.Name "number" pp)) qq] Q₀ (fun c z9a σ' => X c ρ σ') := fun Pf he hf =>
      Ex.cons (Ex1.ret (nmL KN (by rfl) (hag.to (by decide) (by rfl)) ⟨hok, rfl, he ▸ Pf, hf⟩))
    refine Ex.cons (Ex1.ite (Tst.boolop (Tsts.and_cons (Tst.cmp (evB1 T' KN (nmL KN (by rfl) (hag.to (by decide) (by rfl)) (Cal.lenTup (by rw [hclen]; lia) (Ev.int (Bin.eq (by rfl) (by rfl) (brB (fun h0 => ?_) (fun h0 => ⟨(fun q => nomatch q), fun z9a => ?_⟩)))))))))))
    · have hc0 : c.length = 0 := by simpa [PyData.eqv, Val.py] using h0
      refine Tsts.and_cons (Tst.cmp (evEmpty T'.K (nmL KN (by rfl) (hag.to (by decide) (by rfl)) (psI P' (Ev.int (Bin.lt (brB (fun h1 => Tsts.and_nil ⟨fun z9a => ?_, (fun q => nomatch q)⟩) (fun h1 => ⟨(fun q => nomatch q), fun z9a => ?_⟩))))))))
      · have he := of_decide_eq_true h1
        refine Ex.cons (Ex1.assign (nmL KN (by rfl) (hag.to (by decide) (by rfl)) (As.attr (nmL KN (by rfl) (hag.to (by decide) (by rfl)) ⟨x, 219, dd, _, rfl, P'.obj, P'.dict, by rw [T'.K]; exact PAt.attrE _, by simp, ?_⟩))))
        refine Ex.nil (fin (e' := steps.length) ⟨?_, Store.set_same _ _ _, ?_, ?_, P.ne⟩ ?_ fun b b1 b2 => ?_)
        · rw [Store.set_other _ _ nxd]; exact P'.obj
        · rw [Store.set_other _ _ (Ne.symm nd)]; exact P'.steps
        · rw [Store.set_other _ _ nm]; exact P'.names
        · unfold emptyAfter; rw [if_pos ⟨hc0, he⟩]
        · rw [Store.set_other _ _ b2, Store.set_other _ _ b1]
      · have he := of_decide_eq_false h1
        refine Ex.nil (fin P' ?_ fun b b1 b2 => ?_)
        · unfold emptyAfter; rw [if_neg fun q => he q.2]
        · rw [Store.set_other _ _ b1]
    · have hc0 : ¬ c.length = 0 := by simpa [PyData.eqv, Val.py] using h0
      refine Ex.nil (fin P' ?_ fun b b1 b2 => ?_)
      · unfold emptyAfter; rw [if_neg fun q => hc0 q.1]
      · rw [Store.set_other _ _ b1]
end Mine
set_option tactic.hygienic false
namespace Mine
open PySem PySem.W PyProof.Rows PySem.Calls
set_option maxRecDepth 100000
section
variable {C : Cx} {ρ : Vars} {σ : Store} {X : XPost} {ns : List (Str × NameKind)} {elt iter : Expr} {ifs : List Expr} {scope : Scope} {pos px py spos : Pos} {x y : Str} {k : Nat} {pt : Pos}
theorem freed_local {x : Str} : ∀ {names : List (Str × NameKind)}, names.lookup x = some .local → (freed names).lookup x = some .local
  | [], h => by cases h
  | (n, k) :: r, h => by
    simp only [freed, List.map_cons, List.lookup_cons] at h ⊢
    cases q : x == n with
    | true => rw [q] at h; cases h; simp
    | false => rw [q] at h; exact freed_local h
theorem Capt.set {ρ₂ : Vars} {v : Val} (h : Capt scope ρ ρ₂) (hx : scope.names.lookup x = some .local) : Capt scope ρ (ρ₂.set x v) := fun z hz => by
  have : z ≠ x := fun e => by subst e; rw [hx] at hz; cases hz
  unfold Vars.set; rw [if_neg this]; exact h z hz
theorem tgtPair {C' : Cx} {ρ₂ : Vars} {σ₁ : Store} {u v : Val} {w : Option Val} (hq : C.quiet = true) (hC : Comp C C' scope) (hx : scope.names.lookup x = some .local) (hy : scope.names.lookup y = some .local) (hxy : x ≠ y) (hcap : Capt scope ρ ρ₂)
    (h : ∀ ρ₃, ρ₃ x = some u → ρ₃ y = some v → (∀ z, scope.names.lookup z = some .free → ρ₃ z = ρ z) → Turn C C' ρ₃ σ₁ ifs elt w) :
    As C' ρ₂ σ₁ (.Tuple [.Name x px, .Name y py] k pt) (.tup [u, v]) (fun ρ₃ σ₃ => σ₃ = σ₁ ∧ Capt scope ρ ρ₃ ∧ Turn C C' ρ₃ σ₁ ifs elt w) noX := by
  refine As.tuple (by rw [hC.quiet]; exact hq) (Ass.cons (As.local ((Kn.comp hC).at_ _ _ (freed_local hx)) (Ass.cons (As.local ((Kn.comp hC).at_ _ _ (freed_local hy)) (Ass.nil ?_)) (by rfl))) (by rfl)) (by rfl) (by rfl)
  have c2 := (hcap.set (v := u) hx).set (v := v) hy
  exact ⟨rfl, c2, h _ (by rw [Vars.set_ne hxy, Vars.set_eq]) Vars.set_eq c2⟩
/-- the store that keeps σ but for the places told -/
noncomputable def Store.on (σ σ' : Store) (l : List Addr) : Store := fun b => open Classical in if b ∈ l then σ' b else σ b
theorem Store.on_in {σ σ' : Store} {l : List Addr} {b : Addr} (h : b ∈ l) : σ.on σ' l b = σ' b := by unfold Store.on; rw [if_pos h]
theorem Store.on_out {σ σ' : Store} {l : List Addr} {b : Addr} (h : b ∉ l) : σ.on σ' l b = σ b := by unfold Store.on; rw [if_neg h]
theorem Store.on_sub {σ σ' : Store} {l : List Addr} (h : ∀ b, b ∉ l → ∀ o, σ b = some o → σ' b = some o) : Sub (σ.on σ' l) σ' := fun b o e => by
  by_cases q : b ∈ l
  · rw [Store.on_in q] at e; exact e
  · rw [Store.on_out q] at e; exact h b q o e
theorem PAt.on {σ σ' : Store} {x dd as am : Addr} {steps names steps' names' : List Val} {e e' : Int} (P : PAt σ x dd as am steps names e) (P' : PAt σ' x dd as am steps' names' e') (hn : names' = names) : PAt (σ.on σ' [as, dd]) x dd as am steps' names' e' := by
  subst hn
  have nd : dd ≠ as := fun q => by have h1 := P.dict; rw [q, P.steps] at h1; cases h1
  have nx : x ≠ as := fun q => by have h1 := P.obj; rw [q, P.steps] at h1; cases h1
  have nxd : x ≠ dd := fun q => by have h1 := P.obj; rw [q, P.dict] at h1; cases h1
  have nm : am ≠ dd := fun q => by have h1 := P.names; rw [q, P.dict] at h1; cases h1
  exact ⟨by rw [Store.on_out (by simp [nx, nxd])]; exact P.obj, by rw [Store.on_in (by simp)]; exact P'.dict, by rw [Store.on_in (by simp)]; exact P'.steps, by rw [Store.on_out (by simp [nm, Ne.symm P.ne])]; exact P.names, P.ne⟩
theorem PAt.sub {σ σ' : Store} {x dd as am : Addr} {steps names : List Val} {e : Int} (P : PAt σ x dd as am steps names e) (h : Sub σ σ') : PAt σ' x dd as am steps names e :=
  ⟨h _ _ P.obj, h _ _ P.dict, h _ _ P.steps, h _ _ P.names, P.ne⟩
end
/-- chaining as the program does it -/
noncomputable def chainR (cs : List (List Int)) : List Int → List (Int × Nat) → Option (List Int)
  | c, [] => some c
  | c, (v, k) :: r => match resR c (cs.getD k []) v with
    | none => none
    | some rest => match ordF rest with
      | none => none
      | some c' => chainR cs c' r
theorem chainR_append (cs : List (List Int)) : ∀ (l r : List (Int × Nat)) (c : List Int), chainR cs c (l ++ r) = (chainR cs c l).bind fun c' => chainR cs c' r
  | [], r, c => rfl
  | (v, k) :: l, r, c => by
    rw [List.cons_append, chainR, chainR]
    cases h : resR c (cs.getD k []) v with
    | none => rfl
    | some rest =>
      simp only
      cases h2 : ordF rest with
      | none => rfl
      | some c' => simp only; exact chainR_append cs l r c'
theorem ordL_mem {ls : List Int} (hs : Small ls) {l : Int} (h : l ∈ ordL ls) : l ∈ ls := by
  unfold ordL at h
  obtain ⟨v, hv, rfl⟩ := List.mem_map.mp h
  have hh := (List.mem_filter.mp hv).2
  unfold has at hh
  obtain ⟨y, hy, e⟩ := List.mem_map.mp (List.contains_iff_mem.mp hh)
  unfold pick
  subst e
  rcases Int.natAbs_eq y with e | e
  · have : ((y.natAbs : Nat) : Int) ∈ ls := by rw [← e]; exact hy
    rw [if_pos (by simpa using this)]; exact this
  · by_cases q : ((y.natAbs : Nat) : Int) ∈ ls
    · rw [if_pos (by simpa using q)]; exact q
    · rw [if_neg (by simpa using q), ← e]; exact hy
theorem ordF_small {ls c : List Int} (hs : Small ls) (h : ordF ls = some c) : Small c := by
  unfold ordF at h
  split at h
  · cases h
  · cases h; exact fun l hl => hs l (ordL_mem hs hl)
theorem ordL_len (ls : List Int) : (ordL ls).length ≤ 4 := by
  unfold ordL; rw [List.length_map]; exact List.length_filter_le _ _
theorem ordF_len {ls c : List Int} (h : ordF ls = some c) : c.length ≤ 4 := by
  unfold ordF at h
  split at h
  · cases h
  · cases h; exact ordL_len ls
theorem pick_abs (ls : List Int) (v : Nat) : (pick ls v).natAbs = v := by unfold pick; split <;> simp
theorem tidyB_of {c : List Int} (h : (c.map Int.natAbs).Pairwise (· < ·)) (h0 : ∀ l ∈ c, l ≠ 0) : tidyB c = true := by
  unfold tidyB
  refine List.all_eq_true.mpr fun i hi => ?_
  have hi : i < c.length := by simpa using hi
  have g : c.getD i 0 = c[i] := by simp [List.getD, List.getElem?_eq_getElem hi]
  unfold tidyAt
  rw [g]
  have hne : (c[i] != 0) = true := by simpa using h0 _ (List.getElem_mem hi)
  rw [hne, Bool.true_and]
  by_cases hz : i = 0
  · simp [hz]
  · have hi1 : i - 1 < c.length := Nat.lt_of_le_of_lt (Nat.sub_le _ _) hi
    have g1 : c.getD (i - 1) 0 = c[i - 1] := by simp [List.getD, List.getElem?_eq_getElem hi1]
    rw [g1]
    have := List.pairwise_iff_getElem.mp h (i - 1) i (by simpa using hi1) (by simpa using hi) (by lia)
    simp only [List.getElem_map] at this
    simp [this]
theorem ordL_tidy (ls : List Int) : tidyB (ordL ls) = true := by
  refine tidyB_of ?_ ?_
  · unfold ordL
    rw [List.map_map]
    have : (Int.natAbs ∘ pick ls) = id := by funext v; exact pick_abs ls v
    rw [this, List.map_id]
    exact List.Pairwise.filter _ (by decide)
  · intro l hl e
    unfold ordL at hl
    obtain ⟨v, hv, rfl⟩ := List.mem_map.mp hl
    have h1 := (List.mem_filter.mp hv).1
    have h2 := pick_abs ls v
    rw [e] at h2
    simp at h1 h2; lia
theorem ordF_tidy {ls c : List Int} (h : ordF ls = some c) : tidyB c = true := by
  unfold ordF at h
  split at h
  · cases h
  · cases h; exact ordL_tidy ls
theorem resR_small {c₁ c₂ rest : List Int} {v : Int} (h1 : Small c₁) (h2 : Small c₂) (h : resR c₁ c₂ v = some rest) : Small rest := by
  unfold resR at h
  split at h
  · cases h
    intro l hl
    rcases List.mem_append.mp hl with hl | hl
    · exact h1 l (List.mem_filter.mp hl).1
    · exact h2 l (List.mem_filter.mp hl).1
  · split at h
    · cases h
      intro l hl
      rcases List.mem_append.mp hl with hl | hl
      · exact h1 l (List.mem_filter.mp hl).1
      · exact h2 l (List.mem_filter.mp hl).1
    · cases h
end Mine
set_option tactic.hygienic false
namespace Mine
open PySem PySem.W PyProof.Rows PySem.Calls
set_option maxRecDepth 100000
noncomputable def pairV (p : Int × Nat) : Val := .tup [.int p.1, .int (p.2 : Int)]
/-- the steps hold the clauses cs -/
noncomputable def Holds (steps : List Val) (cs : List (List Int)) : Prop := steps.length = cs.length ∧ ∀ (k : Nat) c, cs[k]? = some c → Small c ∧ c.length ≤ 4 ∧ tidyB c = true ∧ ∃ r p n : Val, steps[k]? = some (Val.tup [r, clV c, p, n])
theorem pairs_at {prs : List (Int × Nat)} {i : Nat} {x : Val} (hx : (prs.map pairV)[i]? = some x) : ∃ p, prs[i]? = some p ∧ x = pairV p := by
  rw [List.getElem?_map] at hx
  cases q : prs[i]? with
  | none => rw [q] at hx; cases hx
  | some l => rw [q] at hx; exact ⟨l, rfl, by simpa using hx.symm⟩
theorem filterMap_pairs {prs : List (Int × Nat)} {g : Val → Option Val} {f : Int × Nat → Val} (h : ∀ p, g (pairV p) = some (f p)) : (prs.map pairV).filterMap g = prs.map f := by
  induction prs with
  | nil => rfl
  | cons a r ih => rw [List.map_cons, List.filterMap_cons, h, ih]; rfl
noncomputable def sndG : Val → Option Val
  | .tup [_, b] => some b
  | _ => none
noncomputable def fstG : Val → Option Val
  | .tup [a, _] => some a
  | _ => none
noncomputable def fn166 (p : Params) : FnAt p 166 := ⟨_, _, ⟨_, rfl, rfl⟩, rfl⟩
theorem chain_spec {C : Cx} {ρ σ} (T : Tops C) (hr : 20 ≤ C.room) {X : XPost} {x dd as am ap : Addr} {steps names : List Val} {e : Int} (P : PAt σ x dd as am steps names e) (hz : steps.length ≤ 900) {cs : List (List Int)} (hS : Holds steps cs)
    {first : Nat} {c₀ : List Int} (hf : cs[first]? = some c₀) {prs : List (Int × Nat)} (hp : σ ap = some (.list (prs.map pairV))) (hpl : prs.length ≤ 100) (hpb : ∀ p ∈ prs, p.1.natAbs < 10 ^ 6 ∧ p.2 < cs.length)
    (hX : chainR cs c₀ prs = none → X 69 ρ σ) :
    Cal C ρ σ (.ref 166) [.ref x, .int (first : Int), .ref ap] (fun d σ' => ∃ c, A3 (chainR cs c₀ prs = some c) ((prs = [] → d = .int first ∧ σ' = σ)) ((prs ≠ [] → d = .int steps.length ∧ PAt σ' x dd as am (steps ++ [.tup [.str "resolve", clV c, clV ((first : Int) :: prs.map fun p => (p.2 : Int)), clV (prs.map (·.1))]]) names (emptyAfter c e steps.length) ∧ ∀ b, b ≠ as → b ≠ dd → σ' b = σ b))) X := by
  refine Cal.drop (X := X) (X' := fun c ρ' σ' => c = 69 ∧ ρ' = ρ ∧ chainR cs c₀ prs = none ∧ σ' = σ) ?_ (fun c ρ' σ' ⟨h1, h2, h3, h4⟩ => ⟨σ, by rw [h4]; exact Sub.refl _, by rw [h1, h2]; exact hX h3⟩)
  have hn0 : (900 : Int) < 10 ^ 6 := by decide
  refine FnAt.enter T (fn166 _) (by kernel_rfl) ["self", "first", "pairs"] (by lia) (bind3 fun z9a z9b z9c => by rfl) (by kernel_rfl) rfl (by kernel_rfl) fun C' T' KN hr' hw hF => ?_
  refine Ex.lq ?_; intro Q₀
  obtain ⟨hsl, hst⟩ := hS
  obtain ⟨sm0, ln0, td0, r0, p0, n0, st0⟩ := hst _ _ hf
  have hfl : first < cs.length := (List.getElem?_eq_some_iff.mp hf).1
  refine Ex.cons (Ex1.assign (evM 147 T' (nmL KN (by rfl) (by rfl) (psI P (Evs.one (nmL KN (by rfl) (by rfl) ((clause_spec T' (by lia) P hz st0).mono (fun d σ' hd => ?_) fun z9a z9b z9c z => z)) fun z9a => by rfl))) (star1 fun z9a => by rfl)))
  obtain ⟨rfl, rfl⟩ := hd
  refine As.local (KN.at_ _ _ (by rfl)) ?_
  refine Ex.cons (Ex1.for T'.quiet (.inl hF) (ItE.of_ev (nmL KN (by rfl) (by rfl) (ofL hp (forI (fun i ρ₂ σ₂ => A3 (σ₂ = σ') (Ag ["variable", "other", "stand"] ρ₂ _) (∃ c, A5 (ρ₂ "stand" = some (clV c)) (chainR cs c₀ (prs.take i) = some c) (Small c) (c.length ≤ 4) (tidyB c = true))) ⟨rfl, Ag.refl, c₀, by rfl, by rfl, sm0, ln0, td0⟩ ?_ ?_)))))
  · intro J₀ Q₁; rintro i y ρ₂ σ₂ hy ⟨rfl, hag, c, hcs, hch, hcS, hcl, hct⟩ hkeep
    obtain ⟨⟨v, k⟩, hl, rfl⟩ := pairs_at hy
    obtain ⟨hv, hk⟩ := hpb _ (List.mem_of_getElem? hl)
    have hck : cs[k]? = some (cs.getD k []) := by rw [List.getElem?_eq_getElem hk]; simp [List.getD, List.getElem?_eq_getElem hk]
    obtain ⟨smk, lnk, tdk, rk, pk, nk, stk⟩ := hst _ _ hck
    refine As.tuple T'.quiet (Ass.cons (As.local (KN.at_ _ _ (by rfl)) (Ass.cons (As.local (KN.at_ _ _ (by rfl)) (Ass.nil ?_)) (by rfl))) (by rfl)) (by rfl) (by rfl)
    have ag := (hag.set (x := "variable") (v := .int v) (by simp)).set (x := "other") (v := .int (k : Int)) (by simp)
    have htk : prs.take (i + 1) = prs.take i ++ [(v, k)] := by rw [List.take_add_one, hl]; rfl
    have hch' : chainR cs c₀ (prs.take (i + 1)) = chainR cs c [(v, k)] := by rw [htk, chainR_append, hch]; rfl
    have bad : ∀ {z}, chainR cs c [(v, k)] = z → z = none → chainR cs c₀ prs = none := fun h1 h2 => by
      rw [← List.take_append_drop (i + 1) prs, chainR_append, hch', h1, h2]; rfl
    have hvar : ∀ {Q : Val → Store → Prop} {X : XPost} {pos : Pos}, Q (.int v) σ₂ → Ev C' ((ρ₂.set "variable" (.int v)).set "other" (.int (k : Int))) σ₂ (.Name "variable" pos) Q X := fun q => nmL KN (by rfl) (by rfl) q
    refine Ex.cons (Ex1.assign (evF3 98 T' KN (nmL KN (by rfl) (by exact hcs) (evM 147 T' (nmL KN (by rfl) (ag.to (by decide) (by rfl)) (psI P (Evs.one (nmL KN (by rfl) (by rfl) ((clause_spec T' (by lia) P hz stk).mono (fun d σ' hd => ?_) fun z9a z9b z9c z => z)) fun z9a => by rfl))) (star1 fun z9a => by rfl)))))
    obtain ⟨rfl, rfl⟩ := hd
    refine hvar ((resolve_on_spec T' (by lia) hcS smk (by lia) (by lia) hv fun h => ?_).mono (fun d σ'' hd => ?_) fun z9a z9b z9c z => z)
    · exact ⟨rfl, rfl, bad (by rw [chainR, h]) rfl, rfl⟩
    obtain ⟨rest, hrest, rfl, rfl⟩ := hd
    refine As.local (KN.at_ _ _ (by rfl)) ?_
    have ag' := ag.set (x := "stand") (v := optV (ordF rest)) (by simp)
    refine Ex.cons (Ex1.ite (Tst.cmp (nmL KN (by rfl) (by rfl) (Ev.none (Bin.isNone (brB (fun h => ?_) (fun h => ?_)))))))
    · have ho : ordF rest = none := by
        cases q : ordF rest with
        | none => rfl
        | some c' => rw [q] at h; simp [optV, clV, Val.isNone] at h
      refine Ex.cons (exRaise T' KN (by rfl) (by lia) (Evs.two (evFstr (by decide) (fun q hq => ?_) fun s => evB1 T' KN (evSteps T'.K (nmL KN (by rfl) (ag'.to (by decide) (by rfl)) (psI P (Cal.len P.steps (by lia) ⟨rfl, rfl, rfl, bad (by rw [chainR, hrest]; simp only [ho]) rfl, rfl⟩))))) (fun z9a => by rfl) (fun z9a => by rfl)) (starS (fun z9a => by rfl) (star1 fun z9a => by rfl)))
      rcases List.mem_cons.mp hq with rfl | hq
      · exact partStr (by decide)
      rcases List.mem_cons.mp hq with rfl | hq
      · exact partInt (nmL KN (by rfl) (by rfl) ⟨rfl, v, rfl, hv⟩)
      · rw [List.mem_singleton] at hq; subst hq
        exact partStr (by decide)
    · cases ho : ordF rest with
      | none => rw [ho] at h; simp [optV, Val.isNone] at h
      | some c' =>
        refine Ex.nil (Ex.nil ⟨hkeep, rfl, ?_, c', ?_, ?_, ordF_small (resR_small hcS smk hrest) ho, ordF_len ho, ordF_tidy ho⟩)
        · rw [ho] at ag'; exact ag'
        · rfl
        · rw [hch', chainR, hrest]; simp only [ho]; rfl
  · rintro ρ₂ σ₂ ⟨rfl, hag, c, hcs, hch, hcS, hcl, hct⟩ hkeep
    rw [List.length_map, List.take_length] at hch
    have hlp : (prs.map pairV).length = prs.length := by simp
    refine Ex.cons (Ex1.ite (Tst.cmp (evB1 T' KN (nmL KN (by rfl) (hag.to (by decide) (by rfl)) (Cal.len hp (by rw [hlp]; lia) (Ev.int (Bin.eq (by rfl) (by rfl) (brB (fun h => ?_) (fun h => ?_)))))))))
    · have h0 : prs.length = 0 := by simpa [PyData.eqv, Val.py] using h
      refine Ex.cons (Ex1.ret (nmL KN (by rfl) (hag.to (by decide) (by rfl)) ⟨σ₂, Sub.refl _, c, hch, fun z9a => ⟨rfl, rfl⟩, fun q => absurd (List.length_eq_zero_iff.mp h0) q⟩))
    · have h0 : prs ≠ [] := fun q => by subst q; simp [PyData.eqv, Val.py] at h
      have pairTurn : ∀ {C'' : Cx} {ρ₃ : Vars} {σ₁ : Store} {nm : Str} {v : Val} {nss : List (Str × NameKind)} {pp : Pos}, Kn C'' nss → nss.lookup nm = some .local → (nm == ("__debug__" : Str)) = false → ρ₃ nm = some v → Turn C' C'' ρ₃ σ₁ [] (.Name nm pp) (some v) :=
        fun K1 h1 hd h2 => ⟨rfl, rfl, fun z9a => nmL K1 h1 h2 ⟨rfl, rfl⟩ hd⟩
      refine Ex.nil (Ex.cons (Ex1.assign (Ev.binop (Ev.tuple (Evs.one (nmL KN (by rfl) (hag.to (by decide) (by rfl)) ⟨by simp, ?_⟩) fun z9a => by rfl)))))
      refine evT1 T' KN (evCompOf KN T'.quiet (by kernel_rfl) (ItE.of_ev (nmL KN (by rfl) (hag.to (by decide) (by rfl)) (.inl ⟨ap, _, rfl, hp, by rw [hlp]; lia, sndG, fun z9a C'' hC y hy ρ₃ hcap => ?_, fun a1 ha1 => ?_⟩))))
      · obtain ⟨p, _, rfl⟩ := List.mem_map.mp hy
        exact tgtPair T'.quiet hC (by rfl) (by rfl) (by decide) hcap fun ρ₄ h1 h2 h3 => pairTurn (Kn.comp hC) (by rfl) (by decide) h2
      rw [filterMap_pairs (f := fun p => .int (p.2 : Int)) fun p => rfl]
      refine Cal.tupleOf (Store.set_same _ _ _) (by simp; lia) (Bin.addTup (by simp) (by simp; lia) (As.local (KN.at_ _ _ (by rfl)) ?_))
      have ne1 : ap ≠ a1 := fun q => by subst q; rw [hp] at ha1; cases ha1
      have P1 := P.sub (Sub.new (Sub.refl σ₂) (o := .list (prs.map fun p => .int (p.2 : Int))) ha1)
      refine Ex.cons (Ex1.ret (evM 161 T' (nmL KN (by rfl) (hag.to (by decide) (by rfl)) (psI P1 (Evs.four (Ev.str (nmL KN (by rfl) (by exact hcs) (nmL KN (by rfl) (by rfl) ?_))) (fun z9a => by rfl) (fun z9a => by rfl) (fun z9a => by rfl) (fun z9a => by rfl)))) (starS (fun z9a => by rfl) (starS (fun z9a => by rfl) (starS (fun z9a => by rfl) (star1 fun z9a => by rfl))))))
      refine evT1 T' KN (evCompOf KN T'.quiet (by kernel_rfl) (ItE.of_ev (nmL KN (by rfl) (hag.to (by decide) (by rfl)) (.inl ⟨ap, _, rfl, by rw [Store.set_other _ _ ne1]; exact hp, by rw [hlp]; lia, fstG, fun z9a C'' hC y hy ρ₃ hcap => ?_, fun a2 ha2 => ?_⟩))))
      · obtain ⟨p, _, rfl⟩ := List.mem_map.mp hy
        exact tgtPair T'.quiet hC (by rfl) (by rfl) (by decide) hcap fun ρ₄ h1 h2 h3 => pairTurn (Kn.comp hC) (by rfl) (by decide) h1
      rw [filterMap_pairs (f := fun p => .int p.1) fun p => rfl]
      refine Cal.tupleOf (Store.set_same _ _ _) (by simp; lia) ?_
      have P2 := P1.sub (Sub.new (Sub.refl _) (o := .list (prs.map fun p => .int p.1)) ha2)
      have hok : addOk "resolve" c ((first : Int) :: prs.map fun p => (p.2 : Int)) steps.length = true := by
        unfold addOk
        rw [hct, show ruleNames.contains ("resolve" : Str) = true by decide, Bool.true_and, Bool.true_and]
        refine List.all_eq_true.mpr fun q hq => ?_
        rw [hsl]
        rcases List.mem_cons.mp hq with rfl | hq
        · simp; lia
        · obtain ⟨p, hp1, rfl⟩ := List.mem_map.mp hq
          have := (hpb p hp1).2
          simp; lia
      have e1 : Val.tup ([Val.int (first : Int)] ++ prs.map fun p => Val.int (p.2 : Int)) = clV ((first : Int) :: prs.map fun p => (p.2 : Int)) := by simp [clV]
      have e2 : Val.tup (prs.map fun p => Val.int p.1) = clV (prs.map (·.1)) := by simp [clV]
      rw [e1, e2]
      refine (add_spec T' (by lia) P2 hz (by decide) (by decide +kernel) (by lia) (by simp; lia) ?_ (fun h => by rw [hok] at h; cases h)).mono (fun d σ' hd => ?_) fun z9a z9b z9c z => z
      · intro q hq
        rcases List.mem_cons.mp hq with rfl | hq
        · lia
        · obtain ⟨p, hp1, rfl⟩ := List.mem_map.mp hq
          have := (hpb p hp1).2
          simp only [Int.natAbs_natCast]; lia
      · obtain ⟨_, rfl, P', hf'⟩ := hd
        have hsub : ∀ b, b ∉ [as, dd] → ∀ o, σ₂ b = some o → σ' b = some o := fun b hb o ho => by
          simp only [List.mem_cons, List.not_mem_nil, or_false, not_or] at hb
          rw [hf' b hb.1 hb.2]
          exact (Sub.new (Sub.new (Sub.refl σ₂) ha1) ha2) b o ho
        refine ⟨σ₂.on σ' [as, dd], Store.on_sub hsub, c, hch, fun q => absurd q h0, fun z9a => ⟨rfl, P.on P' rfl, fun b b1 b2 => Store.on_out (by simp [b1, b2])⟩⟩
end Mine
set_option tactic.hygienic false
namespace Mine
open PySem PySem.W PyProof.Rows PySem.Calls
set_option maxRecDepth 100000
theorem evDict1 {C : Cx} {ρ : Vars} {σ : Store} {X : XPost} {Q : Val → Store → Prop} {k v : Expr} {pos : Pos}
    (h : ∀ a, σ a = none → Ev C ρ (σ.set a (.idict [])) k (fun dk σ₁ => ∃ i : Int, dk = .int i ∧ Ev C ρ σ₁ v (fun dv σ₂ => σ₂ a = some (.idict []) ∧ Q (.ref a) (σ₂.set a (.idict [(i, dv)]))) X) X) : Ev C ρ σ (.Dict [some k] [v] pos) Q X :=
  Ev.intro fun base s H => by
    refine wpAny_Dict_walk (knd := intKind C.prog C.w) rfl rfl (by simp) (by simp) ?_
    have H1 := (H.push { cls := .type "dict", data := .dict #[] } (t := s.toks)).track (o := .idict []) H.fresh ⟨[], Heap.DictOf.new _, .nil⟩ (H.newAddr (Heap.get?_none_of_le (Nat.le_refl _)))
    refine pairTrees_cons_walk ((h _ H.fresh).run H1 (fun kv dk σ₁ s₁ H₁ P₁ r₁ ⟨i, hi, h1⟩ => ?_) fun z9a z9b x => x)
    refine h1.run H₁ (fun vv dv σ₂ s₂ H₂ P₂ r₂ ⟨ha, q⟩ => ?_) fun z9a z9b x => x
    subst hi
    have r₁' := P₂.rep r₁
    simp only [RepV] at r₁'
    obtain ⟨t, rfl⟩ := r₁'
    obtain ⟨ws, hd, rk⟩ := (H₂.store _ _ ha).1
    obtain rfl : ws = [] := by cases rk; rfl
    refine pairTrees_nil_walk ⟨[(i, vv)], ?_, hd, fun h' hd' hs => ?_⟩
    · exact ⟨isInt_self i t, rfl, trivial⟩
    · exact ⟨.ref _, _, (H₂.upd (o' := .idict [(i, dv)]) ha hs fun tk => ⟨_, hd', RepKV.cons (r₂.keep tk) .nil⟩).1, by simp [RepV], q⟩
end Mine
set_option tactic.hygienic false
namespace Mine
open PySem PySem.W PyProof.Rows PySem.Calls
structure Stp where
  res : Bool
  cl : List Int
  prem : List Nat
  vars : List Int
  lap : Int
noncomputable def natsV (l : List Nat) : Val := clV (l.map fun (n : Nat) => (n : Int))
noncomputable def ruleS (b : Bool) : Str := if b then "resolve" else "input"
noncomputable def Stp.note (s : Stp) : Val := if s.res then clV s.vars else .int s.lap
noncomputable def Stp.val (s : Stp) : Val := .tup [.str (ruleS s.res), clV s.cl, natsV s.prem, s.note]
noncomputable def prOf (ss : List Stp) (k : Nat) : List Nat := (ss[k]?.map Stp.prem).getD []
theorem prOf_at {ss : List Stp} {k : Nat} {s : Stp} (h : ss[k]? = some s) : prOf ss k = s.prem := by unfold prOf; rw [h]; rfl
noncomputable def Down (pr : Nat → List Nat) : Prop := ∀ k, ∀ p ∈ pr k, p < k
/-- what is found going down from last -/
noncomputable def want (pr : Nat → List Nat) (last : Nat) (F : List Nat) (k : Nat) : Bool := decide (k = last) || F.any fun m => (pr m).contains k
noncomputable def fnd (pr : Nat → List Nat) (last : Nat) : Nat → List Nat
  | 0 => []
  | j + 1 => if want pr last (fnd pr last j) (last - j) then fnd pr last j ++ [last - j] else fnd pr last j
noncomputable def kept (pr : Nat → List Nat) (last : Nat) : List Nat := (fnd pr last (last + 1)).reverse
theorem want_iff {pr last F k} : want pr last F k = true ↔ k = last ∨ ∃ m ∈ F, k ∈ pr m := by
  unfold want
  simp only [Bool.or_eq_true, decide_eq_true_eq, List.any_eq_true, List.contains_iff_mem]
theorem fnd_succ {pr : Nat → List Nat} {last j : Nat} : fnd pr last (j + 1) = if want pr last (fnd pr last j) (last - j) then fnd pr last j ++ [last - j] else fnd pr last j := rfl
theorem fnd_mem {pr : Nat → List Nat} {last : Nat} : ∀ {j : Nat}, j ≤ last + 1 → ∀ {n}, n ∈ fnd pr last j → n ≤ last ∧ last < n + j
  | 0, _, n, h => by cases h
  | j + 1, hj, n, h => by
    rw [fnd_succ] at h
    split at h
    · rcases List.mem_append.mp h with h | h
      · have := fnd_mem (by lia) h; lia
      · rw [List.mem_singleton] at h; subst h; lia
    · have := fnd_mem (by lia) h; lia
theorem fnd_desc {pr : Nat → List Nat} {last : Nat} : ∀ {j : Nat}, j ≤ last + 1 → (fnd pr last j).Pairwise (· > ·)
  | 0, _ => List.Pairwise.nil
  | j + 1, hj => by
    rw [fnd_succ]
    split
    · refine List.pairwise_append.mpr ⟨fnd_desc (by lia), by simp, fun a ha b hb => ?_⟩
      rw [List.mem_singleton] at hb; subst hb
      have := fnd_mem (by lia) ha; lia
    · exact fnd_desc (by lia)
theorem fnd_grow {pr : Nat → List Nat} {last : Nat} {n : Nat} : ∀ {j d : Nat}, n ∈ fnd pr last j → n ∈ fnd pr last (j + d)
  | j, 0, h => h
  | j, d + 1, h => by
    have := fnd_grow (d := d) h
    show n ∈ fnd pr last (j + d + 1)
    rw [fnd_succ]
    split
    · exact List.mem_append_left _ this
    · exact this
/-- when n is looked at, all that could ask for it are there -/
theorem fnd_at {pr : Nat → List Nat} {last : Nat} (hd : Down pr) {n : Nat} (hn : n ≤ last) : n ∈ fnd pr last (last + 1) ↔ want pr last (fnd pr last (last - n)) n = true := by
  have step : n ∈ fnd pr last (last - n + 1) ↔ want pr last (fnd pr last (last - n)) n = true := by
    have e : last - (last - n) = n := by first | exact sub_sub' ‹_› | lia
    rw [fnd_succ]
    rw [e]
    split
    · rename_i h; exact ⟨fun z9a => h, fun z9a => by simp⟩
    · rename_i h
      refine ⟨fun q => ?_, fun q => absurd q h⟩
      have := fnd_mem (by lia) q; lia
  rw [← step]
  constructor
  · intro h
    have : ∀ d, n ∈ fnd pr last (last - n + 1 + d) → last - n + 1 + d ≤ last + 1 → n ∈ fnd pr last (last - n + 1) := by
      intro d
      induction d with
      | zero => exact fun h z9a => h
      | succ d ih =>
        intro h hb
        refine ih ?_ (by lia)
        have h' : n ∈ fnd pr last ((last - n + 1 + d) + 1) := h
        rw [fnd_succ] at h'
        split at h'
        · rcases List.mem_append.mp h' with h1 | h1
          · exact h1
          · rw [List.mem_singleton] at h1; lia
        · exact h'
    exact this n (by rw [show last - n + 1 + n = last + 1 by lia]; exact h) (by lia)
  · intro h
    have := fnd_grow (d := n) h
    rwa [show last - n + 1 + n = last + 1 by lia] at this
theorem fnd_iff {pr : Nat → List Nat} {last : Nat} (hd : Down pr) {n : Nat} : n ∈ fnd pr last (last + 1) ↔ n = last ∨ ∃ m ∈ fnd pr last (last + 1), n ∈ pr m := by
  constructor
  · intro h
    have hn := (fnd_mem (Nat.le_refl _) h).1
    rcases want_iff.mp ((fnd_at hd hn).mp h) with h1 | ⟨m, hm, hp⟩
    · exact .inl h1
    · exact .inr ⟨m, by have := fnd_grow (d := n + 1) hm; rwa [show last - n + (n + 1) = last + 1 by lia] at this, hp⟩
  · intro h
    have hn : n ≤ last := by
      rcases h with rfl | ⟨m, hm, hp⟩
      · exact Nat.le_refl _
      · have := (fnd_mem (Nat.le_refl _) hm).1; have := hd m n hp; lia
    refine (fnd_at hd hn).mpr (want_iff.mpr ?_)
    rcases h with h | ⟨m, hm, hp⟩
    · exact .inl h
    · refine .inr ⟨m, ?_, hp⟩
      have hmn := hd m n hp
      have hml := (fnd_mem (Nat.le_refl _) hm).1
      have h1 := (fnd_at hd hml).mp hm
      have : m ∈ fnd pr last (last - m + 1) := by
        have e : last - (last - m) = m := sub_sub' hml
        rw [fnd_succ]
        rw [e, if_pos h1]; simp
      have := fnd_grow (d := m - n - 1) this
      rwa [show last - m + 1 + (m - n - 1) = last - n by lia] at this
theorem kept_mem {pr last n} : n ∈ kept pr last ↔ n ∈ fnd pr last (last + 1) := List.mem_reverse
theorem kept_sorted {pr : Nat → List Nat} {last : Nat} : (kept pr last).Pairwise (· < ·) := List.pairwise_reverse.mpr (fnd_desc (Nat.le_refl _))
theorem kept_le {pr : Nat → List Nat} {last n : Nat} (h : n ∈ kept pr last) : n ≤ last := (fnd_mem (Nat.le_refl _) (kept_mem.mp h)).1
theorem kept_closed {pr : Nat → List Nat} {last n p : Nat} (hd : Down pr) (h : n ∈ kept pr last) (hp : p ∈ pr n) : p ∈ kept pr last := kept_mem.mpr ((fnd_iff hd).mpr (.inr ⟨n, kept_mem.mp h, hp⟩))
theorem kept_last {pr : Nat → List Nat} {last : Nat} (hd : Down pr) : last ∈ kept pr last := kept_mem.mpr ((fnd_iff hd).mpr (.inl rfl))
/-- two sorted lists of the same things -/
theorem sorted_same : ∀ {a b : List Int}, a.Pairwise (· ≤ ·) → a.Nodup → b.Pairwise (· < ·) → (∀ z, z ∈ a ↔ z ∈ b) → a = b
  | [], [], _, _, _, _ => rfl
  | [], y :: b, _, _, _, h => by have := (h y).mpr List.mem_cons_self; cases this
  | x :: a, [], _, _, _, h => by have := (h x).mp List.mem_cons_self; cases this
  | x :: a, y :: b, h1, h2, h3, h => by
    have h1' := List.pairwise_cons.mp h1
    have h2' := List.nodup_cons.mp h2
    have h3' := List.pairwise_cons.mp h3
    have e : x = y := by
      rcases List.mem_cons.mp ((h x).mp List.mem_cons_self) with e | e
      · exact e
      · rcases List.mem_cons.mp ((h y).mpr List.mem_cons_self) with e2 | e2
        · exact e2.symm
        · have := h3'.1 x e; have := h1'.1 y e2; lia
    subst e
    congr 1
    refine sorted_same h1'.2 h2'.2 h3'.2 fun z => ?_
    constructor
    · intro hz
      rcases List.mem_cons.mp ((h z).mp (List.mem_cons_of_mem _ hz)) with e | e
      · subst e; exact absurd hz h2'.1
      · exact e
    · intro hz
      rcases List.mem_cons.mp ((h z).mpr (List.mem_cons_of_mem _ hz)) with e | e
      · subst e; exact absurd (h3'.1 z hz) (by lia)
      · exact e
noncomputable def Keys (kvs : List (Int × Val)) (S : Int → Prop) : Prop := (kvs.map (·.1)).Nodup ∧ ∀ z, z ∈ kvs.map (·.1) ↔ S z
theorem Keys.set {kvs : List (Int × Val)} {S : Int → Prop} (h : Keys kvs S) (k : Int) (v : Val) : Keys (kvSet kvs k v) (fun z => S z ∨ z = k) := by
  unfold Keys
  rw [kvSet_keys]
  by_cases q : k ∈ kvs.map (·.1)
  · rw [if_pos q]
    refine ⟨h.1, fun z => ?_⟩
    rw [h.2 z]
    constructor
    · exact .inl
    · rintro (h1 | rfl)
      · exact h1
      · exact (h.2 z).mp q
  · rw [if_neg q]
    refine ⟨List.nodup_append.mpr ⟨h.1, by simp, fun x hx y hy e => by rw [List.mem_singleton] at hy; exact q (by rw [← hy, ← e]; exact hx)⟩, fun z => ?_⟩
    rw [List.mem_append, h.2 z, List.mem_singleton]
theorem Keys.congr {kvs : List (Int × Val)} {S S' : Int → Prop} (h : Keys kvs S) (e : ∀ z, S z ↔ S' z) : Keys kvs S' := ⟨h.1, fun z => (h.2 z).trans (e z)⟩
theorem Keys.len {kvs : List (Int × Val)} {S : Int → Prop} (h : Keys kvs S) {n : Nat} (hb : ∀ z, S z → 0 ≤ z ∧ z ≤ (n : Int)) : kvs.length ≤ n + 1 := by
  have h1 : ((kvs.map (·.1)).map Int.toNat).Nodup := by
    refine List.pairwise_map.mpr (List.Pairwise.imp_of_mem (fun {x y} hx hy hne he => ?_) h.1)
    have := hb x ((h.2 x).mp hx); have := hb y ((h.2 y).mp hy); lia
  have h2 : ∀ x ∈ (kvs.map (·.1)).map Int.toNat, x ∈ List.range (n + 1) := fun x hx => by
    obtain ⟨z, hz, rfl⟩ := List.mem_map.mp hx
    have := hb z ((h.2 z).mp hz)
    rw [List.mem_range]; lia
  have := nodup_le h1 h2
  simpa using this
end Mine
set_option tactic.hygienic false
namespace Mine
open PySem PySem.W PyProof.Rows PySem.Calls
set_option maxRecDepth 100000
theorem rangeL_down {last : Nat} : rangeL (last : Int) (-1) (-1) = (List.range (last + 1)).map fun (k : Nat) => Val.int ((last : Int) - (k : Int)) := by
  unfold rangeL
  rw [rangeSize_down]
  have : (if (last : Int) > -1 then (last : Int) - (-1) else 0).toNat = last + 1 := by split <;> lia
  rw [this]
  exact List.map_congr_left fun k z9a => by congr 1; lia
theorem rangeL_down_at {last i : Nat} {x : Val} (h : (rangeL (last : Int) (-1) (-1))[i]? = some x) : i ≤ last ∧ x = .int ((last - i : Nat) : Int) := by
  rw [rangeL_down] at h
  have hi : i < last + 1 := by have := (List.getElem?_eq_some_iff.mp h).1; simpa using this
  refine ⟨by lia, ?_⟩
  rw [List.getElem?_map, List.getElem?_range hi] at h
  have := h
  simp only [Option.map_some, Option.some.injEq] at this
  rw [← this]; congr 1; lia
theorem rangeL_down_len {last : Nat} : (rangeL (last : Int) (-1) (-1)).length = last + 1 := by rw [rangeL_down]; simp
theorem nats_at {l : List Nat} {i : Nat} {x : Val} (hx : ((l.map fun (n : Nat) => (n : Int)).map Val.int)[i]? = some x) : ∃ n : Nat, l[i]? = some n ∧ x = .int (n : Int) := by
  rw [List.getElem?_map, List.getElem?_map] at hx
  cases q : l[i]? with
  | none => rw [q] at hx; cases hx
  | some n => rw [q] at hx; exact ⟨n, rfl, by simpa using hx.symm⟩
theorem steps_at {ss : List Stp} {k : Nat} {s : Stp} (h : ss[k]? = some s) : (ss.map Stp.val)[k]? = some s.val := by rw [List.getElem?_map, h]; rfl
noncomputable def fn187 (p : Params) : FnAt p 187 := ⟨_, _, ⟨_, rfl, rfl⟩, rfl⟩
theorem needed_spec {C : Cx} {ρ σ} (T : Tops C) (hr : 4 ≤ C.room) {X : XPost} {x dd as am : Addr} {ss : List Stp} {names : List Val} {e : Int} (P : PAt σ x dd as am (ss.map Stp.val) names e) (hz : ss.length ≤ 60) (hd : Down (prOf ss)) {last : Nat} (hl : last < ss.length) :
    Cal C ρ σ (.ref 187) [.ref x, .int (last : Int)] (fun d σ' => ∃ a, A3 (σ a = none) (d = .ref a) (σ' = σ.set a (.list (((kept (prOf ss) last).map fun (n : Nat) => (n : Int)).map .int)))) X := by
  refine Cal.drop (X := X) (X' := noX) ?_ (fun z9a z9b z9c h => h.elim)
  refine FnAt.enter T (fn187 _) (by kernel_rfl) ["self", "last"] (by lia) (bind2 fun z9a z9b => by rfl) (by kernel_rfl) rfl (by kernel_rfl) fun C' T' KN hr' hw hF => ?_
  refine Ex.lq ?_; intro Q₀
  refine Ex.cons (Ex1.assign (evDict1 fun kd hkd => nmL KN (by rfl) (by rfl) ⟨_, rfl, Ev.bool ⟨Store.set_same _ _ _, As.local (KN.at_ _ _ (by rfl)) ?_⟩⟩))
  rw [Store.set_set]
  have Pk : ∀ o, PAt (σ.set kd o) x dd as am (ss.map Stp.val) names e := fun o => P.sub (Sub.new (Sub.refl σ) hkd)
  have lenS : (ss.map Stp.val).length = ss.length := by simp
  refine Ex.cons (Ex1.for T'.quiet (.inl hF) (ItE.range3 (nmT T' KN (by rfl) (by kernel_rfl) (by rfl) (callI (.typ _) Keeps.type (Evs.three (nmL KN (by rfl) (by rfl) (Ev.unop (Ev.int (Una.neg (Ev.unop (Ev.int (Una.neg ⟨rfl, _, _, rfl, by lia, by lia, ?_⟩))))))) (fun z9a => by rfl) (fun z9a => by rfl) (fun z9a => by rfl)))) (starS (fun z9a => by rfl) (starS (fun z9a => by rfl) (star1 fun z9a => by rfl)))))
  let S : Nat → Int → Prop := fun i z => ∃ k : Nat, z = (k : Int) ∧ (k = last ∨ ∃ m ∈ fnd (prOf ss) last i, k ∈ prOf ss m)
  have Sb : ∀ {i}, i ≤ last + 1 → ∀ z, S i z → 0 ≤ z ∧ z ≤ (last : Int) := by
    rintro i hi z ⟨k, rfl, h⟩
    rcases h with rfl | ⟨m, hm, hk⟩
    · lia
    · have := (fnd_mem hi hm).1; have := hd m k hk; lia
  refine forI (fun i ρ₂ σ₂ => A3 (i ≤ last + 1) (Ag ["number", "one"] ρ₂ _) (∃ kvs, σ₂ = σ.set kd (.idict kvs) ∧ Keys kvs (S i))) ⟨by lia, Ag.refl, _, rfl, ?_⟩ ?_ ?_
  · refine ⟨by simp, fun z => ?_⟩
    constructor
    · intro h; exact ⟨last, by simpa using h, .inl rfl⟩
    · rintro ⟨k, rfl, h⟩
      rcases h with rfl | ⟨m, hm, _⟩
      · simp
      · cases hm
  · intro J₀ Q₁; rintro i y ρ₂ σ₂ hy ⟨hi1, hag, kvs, rfl, hK⟩ hkeep
    obtain ⟨hi, rfl⟩ := rangeL_down_at hy
    have hlen := hK.len (Sb hi1)
    refine As.local (KN.at_ _ _ (by rfl)) ?_
    have ag := hag.set (x := "number") (v := .int ((last - i : Nat) : Int)) (by simp)
    have hset : (σ.set kd (.idict kvs)) kd = some (.idict kvs) := Store.set_same _ _ _
    have hw1 : ρ₂ "wanted" = some (.ref kd) := hag.to (by decide) (by rfl)
    refine Ex.cons (Ex1.ite (Tst.cmp (nmL KN (by rfl) (by rfl) (nmL KN (by rfl) (by exact hw1) (Bin.inIdict hset T'.sys (brB (fun hb => ?_) (fun hb => ?_)))))))
    · have hwant : want (prOf ss) last (fnd (prOf ss) last i) (last - i) = true := by
        obtain ⟨k, hk, h⟩ := (hK.2 _).mp (kvAt_some.mp hb)
        have : last - i = k := by lia
        rw [this]; exact want_iff.mpr h
      have hsucc : fnd (prOf ss) last (i + 1) = fnd (prOf ss) last i ++ [last - i] := by rw [fnd_succ, if_pos hwant]
      obtain ⟨s, hs⟩ : ∃ s, ss[last - i]? = some s := ⟨_, List.getElem?_eq_getElem (by lia)⟩
      have hpr := prOf_at hs
      refine Ex.cons (Ex1.for T'.quiet (.inl hF) (ItE.of_ev (Ev.sub (Ev.sub (evSteps T'.K (nmL KN (by rfl) (ag.to (by decide) (by rfl)) (psI (Pk _) (nmL KN (by rfl) (by rfl) ?_))))))))
      refine Bin.itemList (Pk _).steps (by lia) (by lia) (by rw [Int.toNat_natCast]; exact steps_at hs) (Ev.int (Bin.itemTup (d := natsV s.prem) (by lia) (by rfl) ((ofT ?_)) (by simp)))
      refine forI (fun j ρ₃ σ₃ => Ag ["one"] ρ₃ (ρ₂.set "number" (.int ((last - i : Nat) : Int))) ∧ ∃ kvs, σ₃ = σ.set kd (.idict kvs) ∧ Keys kvs (fun z => S i z ∨ ∃ k : Nat, z = (k : Int) ∧ k ∈ s.prem.take j)) ⟨Ag.refl, kvs, rfl, hK.congr fun z => ?_⟩ ?_ ?_
      · constructor
        · exact .inl
        · rintro (h | ⟨k, _, h⟩)
          · exact h
          · simp at h
      · intro J₀ Q₁; rintro j u ρ₃ σ₃ hu ⟨hag3, kvs3, rfl, hK3⟩ hkeep3
        obtain ⟨n, hn, rfl⟩ := nats_at hu
        refine As.local (KN.at_ _ _ (by rfl)) ?_
        have hw3 : ρ₃ "wanted" = some (.ref kd) := (hag3 "wanted" (by decide)).trans hw1
        have hlen3 : kvs3.length ≤ last + 1 := hK3.len fun z hz => by
          rcases hz with h | ⟨k, rfl, h⟩
          · exact Sb hi1 z h
          · have := hd (last - i) k (by rw [hpr]; exact List.mem_of_mem_take h); lia
        refine Ex.cons (Ex1.assign (Ev.bool (As.item' (nmL KN (by rfl) (by exact hw3) (nmL KN (by rfl) (by rfl) (Sti.idict (Store.set_same _ _ _) (by lia) (Ex.nil ?_)))))))
        refine ⟨fun a q => (nomatch q), hag3.set (by simp), kvSet kvs3 n (.bool true), by rw [Store.set_set], (hK3.set n (.bool true)).congr fun z => ?_⟩
        rw [List.take_add_one, hn]
        constructor
        · rintro ((h | ⟨k, h1, h2⟩) | rfl)
          · exact .inl h
          · exact .inr ⟨k, h1, List.mem_append_left _ h2⟩
          · exact .inr ⟨n, rfl, List.mem_append_right _ (by simp)⟩
        · rintro (h | ⟨k, h1, h2⟩)
          · exact .inl (.inl h)
          · rcases List.mem_append.mp h2 with h2 | h2
            · exact .inl (.inr ⟨k, h1, h2⟩)
            · have : k = n := by simpa using h2
              exact .inr (by rw [h1, this])
      · rintro ρ₃ σ₃ ⟨hag3, kvs3, rfl, hK3⟩ hkeep3
        rw [List.length_map, List.length_map, List.take_length] at hK3
        refine Ex.nil (Ex.nil ⟨fun a q => (nomatch q), by lia, ?_, kvs3, rfl, hK3.congr fun z => ?_⟩)
        · intro y hy
          simp only [List.mem_cons, List.not_mem_nil, or_false, not_or] at hy
          exact (hag3 y (by simp [hy.2])).trans (ag y (by simp [hy.1, hy.2]))
        · show _ ↔ ∃ k : Nat, z = (k : Int) ∧ (k = last ∨ ∃ m ∈ fnd (prOf ss) last (i + 1), k ∈ prOf ss m)
          rw [hsucc]
          constructor
          · rintro (⟨k, h1, h2⟩ | ⟨k, h1, h2⟩)
            · refine ⟨k, h1, h2.imp_right fun ⟨m, h3, h4⟩ => ⟨m, List.mem_append_left _ h3, h4⟩⟩
            · exact ⟨k, h1, .inr ⟨last - i, List.mem_append_right _ (by simp), by rw [hpr]; exact h2⟩⟩
          · rintro ⟨k, h1, h2 | ⟨m, h3, h4⟩⟩
            · exact .inl ⟨k, h1, .inl h2⟩
            · rcases List.mem_append.mp h3 with h3 | h3
              · exact .inl ⟨k, h1, .inr ⟨m, h3, h4⟩⟩
              · rw [List.mem_singleton] at h3; subst h3
                exact .inr ⟨k, h1, by rw [← hpr]; exact h4⟩
    · have hwant : ¬ want (prOf ss) last (fnd (prOf ss) last i) (last - i) = true := fun h => by
        have := kvAt_some.mpr ((hK.2 ((last - i : Nat) : Int)).mpr ⟨last - i, rfl, want_iff.mp h⟩)
        rw [this] at hb; cases hb
      have hsucc : fnd (prOf ss) last (i + 1) = fnd (prOf ss) last i := by rw [fnd_succ, if_neg hwant]
      refine Ex.nil (Ex.nil ⟨fun a q => (nomatch q), by lia, ag, kvs, rfl, hK.congr fun z => ?_⟩)
      show (∃ k : Nat, z = (k : Int) ∧ (k = last ∨ ∃ m ∈ fnd (prOf ss) last i, k ∈ prOf ss m)) ↔ ∃ k : Nat, z = (k : Int) ∧ (k = last ∨ ∃ m ∈ fnd (prOf ss) last (i + 1), k ∈ prOf ss m)
      rw [hsucc]
  · rintro ρ₂ σ₂ ⟨hi1, hag, kvs, rfl, hK⟩ hkeep
    rw [rangeL_down_len] at hK
    have hlen := hK.len (Sb (Nat.le_refl _))
    refine Ex.cons (Ex1.ret (evB1 T' KN (nmL KN (by rfl) (hag.to (by decide) (by rfl)) (Cal.sortedDict (Store.set_same _ _ _) (by lia) T'.quiet T'.sys fun ns' b hp hs hb => ?_))))
    have hkb : b ≠ kd := fun q => by subst q; simp at hb
    have hb0 : σ b = none := by rw [Store.set_other _ _ hkb] at hb; exact hb
    have e : ns' = (kept (prOf ss) last).map fun (n : Nat) => (n : Int) := by
      refine sorted_same hs (hp.nodup_iff.mpr hK.1) (List.pairwise_map.mpr (kept_sorted.imp fun h => by lia)) fun z => ?_
      rw [hp.mem_iff, hK.2 z, List.mem_map]
      constructor
      · rintro ⟨k, rfl, h⟩; exact ⟨k, kept_mem.mpr ((fnd_iff hd).mpr h), rfl⟩
      · rintro ⟨k, h, rfl⟩; exact ⟨k, rfl, (fnd_iff hd).mp (kept_mem.mp h)⟩
    refine ⟨_, ?_, b, hb0, rfl, rfl⟩
    rw [e]
    exact fun a o q => by
      by_cases h : a = b
      · subst h; rw [Store.set_same] at q ⊢; exact q
      · rw [Store.set_other _ _ h] at q ⊢
        have : a ≠ kd := fun w => by subst w; rw [hkd] at q; cases q
        rw [Store.set_other _ _ this]; exact q
end Mine
set_option tactic.hygienic false
namespace Mine
open PySem PySem.W PyProof.Rows PySem.Calls
set_option maxRecDepth 100000
noncomputable def LapsUp (ss : List Stp) : Prop := ∀ (i j : Nat) (s t : Stp), ss[i]? = some s → ss[j]? = some t → s.res = false → t.res = false → i < j → s.lap < t.lap
noncomputable def inputsOf (ss : List Stp) (l : List Nat) : List Nat := l.filter fun k => (ss[k]?.map fun s => !s.res).getD false
noncomputable def lapOf (ss : List Stp) (k : Nat) : Int := (ss[k]?.map Stp.lap).getD 0
theorem take_mem {α : Type} {l : List α} {i : Nat} {x y : α} (h : l[i]? = some x) : y ∈ l.take (i + 1) ↔ y ∈ l.take i ∨ y = x := by
  rw [List.take_add_one, h, List.mem_append]; simp
theorem kept_len {pr : Nat → List Nat} {last : Nat} : (kept pr last).length ≤ last + 1 := by
  have h1 : (kept pr last).Nodup := kept_sorted.imp fun h => by lia
  have h2 : ∀ x ∈ kept pr last, x ∈ List.range (last + 1) := fun x hx => by rw [List.mem_range]; have := kept_le hx; lia
  simpa using nodup_le h1 h2
noncomputable def fn206 (p : Params) : FnAt p 206 := ⟨_, _, ⟨_, rfl, rfl⟩, rfl⟩
theorem used_spec {C : Cx} {ρ σ} (T : Tops C) (hr : 8 ≤ C.room) {X : XPost} {x dd as am : Addr} {ss : List Stp} {names : List Val} {e : Int} (P : PAt σ x dd as am (ss.map Stp.val) names e) (hz : ss.length ≤ 60) (hd : Down (prOf ss)) (hlap : LapsUp ss) {last : Nat} (hl : last < ss.length) :
    Cal C ρ σ (.ref 206) [.ref x, .int (last : Int)] (fun d σ' => ∃ a, A3 (σ a = none) (d = .ref a) (σ' = σ.set a (.list (((inputsOf ss (kept (prOf ss) last)).map (lapOf ss)).map .int)))) X := by
  refine Cal.drop (X := X) (X' := noX) ?_ (fun z9a z9b z9c h => h.elim)
  refine FnAt.enter T (fn206 _) (by kernel_rfl) ["self", "last"] (by lia) (bind2 fun z9a z9b => by rfl) (by kernel_rfl) rfl (by kernel_rfl) fun C' T' KN hr' hw hF => ?_
  refine Ex.lq ?_; intro Q₀
  refine Ex.cons (Ex1.assign (evDictI fun fd hfd => As.local (KN.at_ _ _ (by rfl)) ?_))
  have P1 := P.sub (Sub.new (Sub.refl σ) (o := .idict []) hfd)
  have lenS : (ss.map Stp.val).length = ss.length := by simp
  refine Ex.cons (Ex1.for T'.quiet (.inl hF) (ItE.of_ev (evM 187 T' (nmL KN (by rfl) (by rfl) (psI P1 (Evs.one (nmL KN (by rfl) (by rfl) ((needed_spec T' (by lia) P1 hz hd hl).mono (fun d σ' hd' => ?_) fun z9a z9b z9c z => z)) fun z9a => by rfl))) (star1 fun z9a => by rfl))))
  obtain ⟨an, han, rfl, rfl⟩ := hd'
  have hfa : fd ≠ an := fun q => by subst q; simp at han
  have han0 : σ an = none := by rw [Store.set_other _ _ (Ne.symm hfa)] at han; exact han
  have S0 : Sub σ ((σ.set fd (.idict [])).set an (.list (((kept (prOf ss) last).map fun (n : Nat) => (n : Int)).map .int))) := (Sub.new (Sub.refl σ) hfd).new han
  refine ofL (Store.set_same _ _ _) (forI (fun i ρ₂ σ₂ => A3 (Ag ["number"] ρ₂ _) (Sub σ σ₂) (∃ kvs, A3 (σ₂ fd = some (.idict kvs)) (Keys kvs (fun z => ∃ k ∈ (kept (prOf ss) last).take i, ∃ s, ss[k]? = some s ∧ s.res = false ∧ z = s.lap)) (kvs.length ≤ i))) ⟨Ag.refl, S0, [], by rw [Store.set_other _ _ hfa, Store.set_same], ⟨by simp, fun z => by simp⟩, by simp⟩ ?_ ?_)
  · intro J₀ Q₁; rintro i y ρ₂ σ₂ hy ⟨hag, hsub, kvs, hfd2, hK, hkl⟩ hkeep
    obtain ⟨k, hk, rfl⟩ := nats_at hy
    have hkm : k ∈ kept (prOf ss) last := List.mem_of_getElem? hk
    have hkl2 : k < ss.length := by have := kept_le hkm; lia
    obtain ⟨s, hs⟩ : ∃ s, ss[k]? = some s := ⟨_, List.getElem?_eq_getElem hkl2⟩
    have hil : i < last + 1 := by have h1 := (List.getElem?_eq_some_iff.mp hk).1; have h2 := kept_len (pr := prOf ss) (last := last); lia
    have Pk := P.sub hsub
    refine As.local (KN.at_ _ _ (by rfl)) ?_
    have ag := hag.set (x := "number") (v := .int (k : Int)) (by simp)
    have hself : ∀ {Q : Val → Store → Prop} {X : XPost} {pos : Pos}, Q (.ref x) σ₂ → Ev C' (ρ₂.set "number" (.int (k : Int))) σ₂ (.Name "self" pos) Q X := fun q => nmL KN (by rfl) (ag.to (by decide) (by rfl)) q
    have hnum : ∀ {Q : Val → Store → Prop} {X : XPost} {pos : Pos}, Q (.int (k : Int)) σ₂ → Ev C' (ρ₂.set "number" (.int (k : Int))) σ₂ (.Name "number" pos) Q X := fun q => nmL KN (by rfl) (by rfl) q
    have hat : (ss.map Stp.val)[((k : Int)).toNat]? = some s.val := by rw [Int.toNat_natCast]; exact steps_at hs
    refine Ex.cons (Ex1.ite (Tst.cmp (Ev.sub (Ev.sub (evSteps T'.K (hself (psI Pk (hnum ?_))))))))
    refine Bin.itemList Pk.steps (by lia) (by lia) hat (Ev.int (Bin.itemTup (d := .str (ruleS s.res)) (by lia) (by rfl) (Ev.str ?_) (by simp)))
    refine Bin.eq (by cases s.res <;> simp [Val.fit, ruleS] <;> decide +kernel) (by simp [Val.fit]; decide +kernel) (brB (fun hb => ?_) (fun hb => ?_))
    · have hres : s.res = false := by
        cases q : s.res with
        | false => rfl
        | true => rw [q] at hb; exact absurd hb (by simp [ruleS, PyData.eqv, Val.py]; decide)
      refine Ex.cons (Ex1.assign (Ev.bool (As.item' (nmL KN (by rfl) (ag.to (by decide) (by rfl)) ?_))))
      refine Ev.sub (Ev.sub (evSteps T'.K (hself (psI Pk (hnum ?_)))))
      refine Bin.itemList Pk.steps (by lia) (by lia) hat (Ev.int (Bin.itemTup (d := .int s.lap) (by lia) (by show some s.note = _; unfold Stp.note; rw [hres]; rfl) (Sti.idict hfd2 (by lia) (Ex.nil (Ex.nil ?_))) (by simp)))
      refine ⟨fun a q => ?_, ag, hsub.put hfd, kvSet kvs s.lap (.bool true), Store.set_same _ _ _, (hK.set s.lap (.bool true)).congr fun z => ?_, ?_⟩
      · cases q; rw [Store.set_other _ _ (Ne.symm hfa)]; exact hkeep _ rfl
      · constructor
        · rintro (⟨j, hj, t, h1, h2, h3⟩ | rfl)
          · exact ⟨j, (take_mem hk).mpr (.inl hj), t, h1, h2, h3⟩
          · exact ⟨k, (take_mem hk).mpr (.inr rfl), s, hs, hres, rfl⟩
        · rintro ⟨j, hj, t, h1, h2, h3⟩
          rcases (take_mem hk).mp hj with h4 | rfl
          · exact .inl ⟨j, h4, t, h1, h2, h3⟩
          · rw [hs] at h1; cases h1; exact .inr h3
      · have : (kvSet kvs s.lap (.bool true)).length ≤ kvs.length + 1 := by unfold kvSet; split <;> simp
        lia
    · have hres : s.res = true := by
        cases q : s.res with
        | true => rfl
        | false => rw [q] at hb; exact absurd hb (by simp [ruleS, PyData.eqv, Val.py])
      refine Ex.nil (Ex.nil ⟨fun a q => hkeep a q, ag, hsub, kvs, hfd2, hK.congr fun z => ?_, by lia⟩)
      constructor
      · rintro ⟨j, hj, t, h1, h2, h3⟩; exact ⟨j, (take_mem hk).mpr (.inl hj), t, h1, h2, h3⟩
      · rintro ⟨j, hj, t, h1, h2, h3⟩
        rcases (take_mem hk).mp hj with h4 | rfl
        · exact ⟨j, h4, t, h1, h2, h3⟩
        · rw [hs] at h1; cases h1; rw [hres] at h2; cases h2
  · rintro ρ₂ σ₂ ⟨hag, hsub, kvs, hfd2, hK, hkl⟩ hkeep
    rw [List.length_map, List.length_map] at hkl
    rw [List.length_map, List.length_map, List.take_length] at hK
    have hl2 := kept_len (pr := prOf ss) (last := last)
    refine Ex.cons (Ex1.ret (evB1 T' KN (nmL KN (by rfl) (hag.to (by decide) (by rfl)) (Cal.sortedDict hfd2 (by lia) T'.quiet T'.sys fun ns' b hp hs hb => ?_))))
    have hb0 : σ b = none := hsub.none hb
    have e : ns' = (inputsOf ss (kept (prOf ss) last)).map (lapOf ss) := by
      refine sorted_same hs (hp.nodup_iff.mpr hK.1) ?_ fun z => ?_
      · refine List.pairwise_map.mpr (List.Pairwise.imp_of_mem (fun {a b} ha hb hab => ?_) (List.Pairwise.filter _ kept_sorted))
        obtain ⟨ha1, ha2⟩ := List.mem_filter.mp ha
        obtain ⟨hb1, hb2⟩ := List.mem_filter.mp hb
        obtain ⟨sa, hsa⟩ : ∃ s, ss[a]? = some s := ⟨_, List.getElem?_eq_getElem (by have := kept_le ha1; lia)⟩
        obtain ⟨sb, hsb⟩ : ∃ s, ss[b]? = some s := ⟨_, List.getElem?_eq_getElem (by have := kept_le hb1; lia)⟩
        rw [hsa] at ha2; rw [hsb] at hb2
        unfold lapOf; rw [hsa, hsb]
        exact hlap a b sa sb hsa hsb (by simpa using ha2) (by simpa using hb2) hab
      · rw [hp.mem_iff, hK.2 z, List.mem_map]
        constructor
        · rintro ⟨k, hk, s, h1, h2, rfl⟩
          exact ⟨k, List.mem_filter.mpr ⟨hk, by rw [h1]; simp [h2]⟩, by unfold lapOf; rw [h1]; rfl⟩
        · rintro ⟨k, hk, rfl⟩
          obtain ⟨hk1, hk2⟩ := List.mem_filter.mp hk
          obtain ⟨s, hs'⟩ : ∃ s, ss[k]? = some s := ⟨_, List.getElem?_eq_getElem (by have := kept_le hk1; lia)⟩
          rw [hs'] at hk2
          exact ⟨k, hk1, s, hs', by simpa using hk2, by unfold lapOf; rw [hs']; rfl⟩
    exact ⟨_, hsub.both, b, hb0, rfl, by rw [e]⟩
end Mine
set_option tactic.hygienic false
namespace Mine
open PySem PySem.W PyProof.Rows PySem.Calls
set_option maxRecDepth 100000
theorem kvSet_new {K : Type} [DecidableEq K] {kvs : List (K × Val)} {k : K} {v : Val} (h : k ∉ kvs.map (·.1)) : kvSet kvs k v = kvs ++ [(k, v)] := by
  unfold kvSet
  rw [if_neg]
  intro q
  obtain ⟨kv, h1, h2⟩ := List.any_eq_true.mp q
  exact h (List.mem_map.mpr ⟨kv, h1, by simpa using h2⟩)
theorem kvSet_len {K : Type} [DecidableEq K] {kvs : List (K × Val)} {k : K} {v : Val} (h : k ∈ kvs.map (·.1)) : (kvSet kvs k v).length = kvs.length := by
  have := congrArg List.length (kvSet_keys (kvs := kvs) (k := k) (v := v))
  rw [if_pos h] at this
  simpa using this
noncomputable def cntR (ss : List Stp) (b : Bool) : Nat := (ss.filter fun s => s.res == b).length
theorem cntR_take {ss : List Stp} {i : Nat} {s : Stp} (h : ss[i]? = some s) (b : Bool) : cntR (ss.take (i + 1)) b = cntR (ss.take i) b + if s.res = b then 1 else 0 := by
  unfold cntR
  rw [List.take_add_one, h, List.filter_append]
  by_cases q : s.res = b
  · rw [if_pos q]; subst q; simp
  · rw [if_neg q]
    have : (s.res == b) = false := by simpa using q
    simp [this]
theorem rule_ne : ruleS true ≠ ruleS false := by decide
noncomputable def fn211 (p : Params) : FnAt p 211 := ⟨_, _, ⟨_, rfl, rfl⟩, rfl⟩
theorem counts_spec {C : Cx} {ρ σ} (T : Tops C) (hr : 3 ≤ C.room) {X : XPost} {x dd as am : Addr} {ss : List Stp} {names : List Val} {e : Int} (P : PAt σ x dd as am (ss.map Stp.val) names e) (hz : ss.length ≤ 60) :
    Cal C ρ σ (.ref 211) [.ref x] (fun d σ' => X2 fun a kvs => A4 (σ a = none) (d = .ref a) (σ' = σ.set a (.sdict kvs)) (∀ b, kvAt kvs (ruleS b) = some (.int (cntR ss b)))) X := by
  refine Cal.drop (X := X) (X' := noX) ?_ (fun z9a z9b z9c h => h.elim)
  refine FnAt.enter T (fn211 _) (by kernel_rfl) ["self"] (by lia) (bind1 fun z9a => by rfl) (by kernel_rfl) rfl (by kernel_rfl) fun C' T' KN hr' hw hF => ?_
  refine Ex.lq ?_; intro Q₀
  have rep : RepV [] C'.h₁ rulesV (.ref 72) := rules_rep C'.w.params (by rw [← T'.K]; exact T'.kin)
  refine Ex.cons (exAssignDComp (compOk KN (by kernel_rfl)) T'.quiet (ItE.of_ev (Ev.global (T'.glo (by kernel_rfl)) rep (KN.at_ _ _ (by rfl)) ((ofT ⟨by simp [ruleNames], fun i ys σ' => σ' = σ ∧ ys = (ruleNames.take i).map fun r => (r, Val.int 0), ⟨rfl, rfl⟩, ?_, ?_⟩)) (by decide))) (KN.at_ _ _ (by rfl)))
  · rintro C'' hC i y ys ρ₂ σ₂ hy ⟨rfl, rfl⟩ hkeep hcap
    obtain ⟨r, hr1, rfl⟩ : ∃ r, ruleNames[i]? = some r ∧ y = .str r := by
      rw [List.getElem?_map] at hy
      cases q : ruleNames[i]? with
      | none => rw [q] at hy; cases hy
      | some l => rw [q] at hy; exact ⟨l, rfl, by simpa using hy.symm⟩
    have KNc := Kn.comp hC
    refine As.local (KNc.at_ _ _ (by rfl)) ⟨hcap.set (by rfl), ?_⟩
    simp only [Cts, ↓reduceIte]
    refine nmL KNc (by rfl) (by rfl) ⟨r, rfl, Ev.int ⟨hkeep, rfl, ?_⟩⟩
    rw [List.take_add_one, hr1, List.map_append, kvSet_new]
    · rfl
    · rw [List.map_map]
      intro hm
      have hnd : ruleNames.Nodup := by decide +kernel
      have hi := (List.getElem?_eq_some_iff.mp hr1)
      obtain ⟨hi1, hi2⟩ := hi
      have h0 : r ∈ (ruleNames.take i).map (fun r => r) := hm
      have : r ∈ ruleNames.take i := by rwa [List.map_id'] at h0
      obtain ⟨j, hj, e⟩ := List.mem_iff_getElem.mp this
      rw [List.getElem_take] at e
      have hj' : j < i := by have := hj; rw [List.length_take] at this; lia
      exact (List.pairwise_iff_getElem.mp hnd) j i (by lia) hi1 hj' (e.trans hi2.symm)
  · rintro ys σ₂ fd ⟨rfl, rfl⟩ hkeep hfd
    have hall : (ruleNames.map Val.str).length = ruleNames.length := by simp
    rw [hall, List.take_length]
    have P1 := P.sub (Sub.new (Sub.refl σ₂) (o := .sdict (ruleNames.map fun r => (r, Val.int 0))) hfd)
    refine Ex.cons (Ex1.for T'.quiet (.inl hF) (ItE.of_ev (evSteps T'.K (nmL KN (by rfl) (by rfl) (psI P1 (ofL P1.steps (forI (fun i ρ₂ σ₃ => A3 (Ag ["step"] ρ₂ _) (Sub σ₂ σ₃) (∃ kvs, A3 (σ₃ fd = some (.sdict kvs)) ((∀ b, kvAt kvs (ruleS b) = some (.int (cntR (ss.take i) b)))) (kvs.length ≤ 11))) ⟨Ag.refl, Sub.new (Sub.refl σ₂) hfd, _, Store.set_same _ _ _, ?_, by simp [ruleNames]⟩ ?_ ?_)))))))
    · intro b; cases b <;> rfl
    · intro J₀ Q₁; rintro i y ρ₂ σ₃ hy ⟨hag, hsub, kvs, hfd3, hk, hkl⟩ hkeep3
      obtain ⟨s, hs, rfl⟩ : ∃ s, ss[i]? = some s ∧ y = s.val := by
        rw [List.getElem?_map] at hy
        cases q : ss[i]? with
        | none => rw [q] at hy; cases hy
        | some l => rw [q] at hy; exact ⟨l, rfl, by simpa using hy.symm⟩
      refine As.local (KN.at_ _ _ (by rfl)) ?_
      have ag := hag.set (x := "step") (v := s.val) (by simp)
      have hstep : ∀ {Q : Val → Store → Prop} {X : XPost} {p1 p2 p3 : Pos} {k3}, Q (.str (ruleS s.res)) σ₃ → Ev C' (ρ₂.set "step" s.val) σ₃ (.Subscript (.Name "step" p1) (.Constant (.int 0) k3 p2) p3) Q X := fun q =>
        Ev.sub (nmL KN (by rfl) (by rfl) (Ev.int (Bin.itemTup (d := .str (ruleS s.res)) (by lia) (by rfl) q (by simp))))
      have hfound : ∀ {Q : Val → Store → Prop} {X : XPost} {p1 : Pos}, Q (.ref fd) σ₃ → Ev C' (ρ₂.set "step" s.val) σ₃ (.Name "found" p1) Q X := fun q => nmL KN (by rfl) (ag.to (by decide) (by rfl)) q
      refine Ex.cons (Ex1.assign (Ev.binop (Ev.sub (hfound (hstep (Bin.itemSdict hfd3 (hk s.res) (Ev.int (Bin.add (As.item' (hfound (hstep (Sti.sdict hfd3 (by lia) (Ex.nil ?_)))))))))))))
      refine ⟨fun a q => ?_, ag, hsub.put hfd, _, Store.set_same _ _ _, fun b => ?_, ?_⟩
      · have ha := hkeep3 a q
        have : a ≠ fd := fun w => by subst w; rw [hfd3] at ha; cases ha
        rw [Store.set_other _ _ this]; exact ha
      · rw [kvAt_set, cntR_take hs]
        by_cases q : s.res = b
        · subst q; rw [if_pos rfl, if_pos rfl]; simp
        · have : ruleS b ≠ ruleS s.res := by
            cases b <;> cases h : s.res <;> simp_all [ruleS] <;> decide
          rw [if_neg this, if_neg q]; simpa using hk b
      · rw [kvSet_len (kvAt_some.mp (by rw [hk]; rfl))]; exact hkl
    · rintro ρ₂ σ₃ ⟨hag, hsub, kvs, hfd3, hk, hkl⟩ hkeep3
      rw [List.length_map, List.take_length] at hk
      refine Ex.cons (Ex1.ret (nmL KN (by rfl) (hag.to (by decide) (by rfl)) ⟨σ₂.set fd (.sdict kvs), ?_, fd, kvs, hfd, rfl, rfl, hk⟩))
      intro b o q
      by_cases h : b = fd
      · subst h; rw [Store.set_same] at q; cases q; exact hfd3
      · rw [Store.set_other _ _ h] at q; exact hsub b o q
end Mine
set_option tactic.hygienic false
namespace Mine
open PySem PySem.W PyProof.Rows PySem.Calls
set_option maxRecDepth 100000
/-- the height of step k, told by those beneath it -/
noncomputable def HtAt (ss : List Stp) (h : Nat → Int) (k : Nat) : Prop := ∀ s, ss[k]? = some s → (s.prem = [] → h k = 0) ∧ (s.prem ≠ [] → ∃ m ∈ s.prem, (∀ y ∈ s.prem, h y ≤ h m) ∧ h k = h m + 1)
theorem ht_unique {ss : List Stp} {h h' : Nat → Int} {last : Nat} (hd : Down (prOf ss)) (h1 : ∀ k ∈ kept (prOf ss) last, k < ss.length ∧ HtAt ss h k) (h2 : ∀ k ∈ kept (prOf ss) last, HtAt ss h' k) : ∀ n k, k < n → k ∈ kept (prOf ss) last → h k = h' k
  | 0, k, hk, _ => absurd hk (Nat.not_lt_zero _)
  | n + 1, k, hk, hm => by
    obtain ⟨hl, a⟩ := h1 k hm
    obtain ⟨s, hs⟩ : ∃ s, ss[k]? = some s := ⟨_, List.getElem?_eq_getElem hl⟩
    have hp := prOf_at hs
    have ih : ∀ p ∈ s.prem, h p = h' p := fun p hpm => ht_unique hd h1 h2 n p (by have := hd k p (by rw [hp]; exact hpm); lia) (kept_closed hd hm (by rw [hp]; exact hpm))
    obtain ⟨a1, a2⟩ := a s hs
    obtain ⟨b1, b2⟩ := h2 k hm s hs
    by_cases q : s.prem = []
    · rw [a1 q, b1 q]
    · obtain ⟨m, hm1, hm2, hm3⟩ := a2 q
      obtain ⟨m', hm1', hm2', hm3'⟩ := b2 q
      have e1 := hm2 m' hm1'
      have e2 := hm2' m hm1
      have e3 := ih m hm1
      have e4 := ih m' hm1'
      lia
theorem kept_take {pr : Nat → List Nat} {last i k p : Nat} (hk : (kept pr last)[i]? = some k) (hp : p ∈ kept pr last) (hlt : p < k) : p ∈ (kept pr last).take i := by
  obtain ⟨j, hj, e⟩ := List.mem_iff_getElem.mp hp
  obtain ⟨hi, e2⟩ := List.getElem?_eq_some_iff.mp hk
  have : j < i := by
    by_cases q : j < i
    · exact q
    · rcases Nat.lt_or_eq_of_le (Nat.le_of_not_lt q) with h | h
      · have := List.pairwise_iff_getElem.mp (kept_sorted (pr := pr) (last := last)) i j hi hj h; lia
      · subst h; lia
  exact List.mem_iff_getElem.mpr ⟨j, by rw [List.length_take]; lia, by rw [List.getElem_take]; exact e⟩
theorem take_lt {pr : Nat → List Nat} {last i k p : Nat} (hk : (kept pr last)[i]? = some k) (hp : p ∈ (kept pr last).take i) : p < k := by
  obtain ⟨j, hj, e⟩ := List.mem_iff_getElem.mp hp
  obtain ⟨hi, e2⟩ := List.getElem?_eq_some_iff.mp hk
  rw [List.getElem_take] at e
  have hj' : j < i := by rw [List.length_take] at hj; lia
  have := List.pairwise_iff_getElem.mp (kept_sorted (pr := pr) (last := last)) j i (by lia) hi hj'
  lia
noncomputable def WfRes (ss : List Stp) : Prop := ∀ (k : Nat) (s : Stp), ss[k]? = some s → (s.res = true ↔ s.prem ≠ []) ∧ s.prem.length ≤ 100
noncomputable def lookG (kvs : List (Int × Val)) : Val → Option Val
  | .int n => kvAt kvs n
  | _ => none
theorem look_nats {kvs : List (Int × Val)} {h : Nat → Int} : ∀ {l : List Nat}, (∀ p ∈ l, kvAt kvs (p : Int) = some (.int (h p))) → ((l.map fun (n : Nat) => (n : Int)).map Val.int).filterMap (lookG kvs) = (l.map h).map Val.int
  | [], _ => rfl
  | p :: l, hp => by
    rw [List.map_cons, List.map_cons, List.filterMap_cons]
    have : lookG kvs (.int (p : Int)) = some (.int (h p)) := hp p List.mem_cons_self
    rw [this, look_nats fun q hq => hp q (List.mem_cons_of_mem _ hq)]
    rfl
noncomputable def fn216 (p : Params) : FnAt p 216 := ⟨_, _, ⟨_, rfl, rfl⟩, rfl⟩
theorem depth_spec {C : Cx} {ρ σ} (T : Tops C) (hr : 8 ≤ C.room) {X : XPost} {x dd as am : Addr} {ss : List Stp} {names : List Val} {e : Int} (P : PAt σ x dd as am (ss.map Stp.val) names e) (hz : ss.length ≤ 60) (hd : Down (prOf ss)) (hwf : WfRes ss) {last : Nat} (hl : last < ss.length) :
    Cal C ρ σ (.ref 216) [.ref x, .int (last : Int)] (fun d σ' => ∃ h : Nat → Int, A3 ((∀ k ∈ kept (prOf ss) last, HtAt ss h k)) (d = .int (h last)) (σ' = σ)) X := by
  refine Cal.drop (X := X) (X' := noX) ?_ (fun z9a z9b z9c h => h.elim)
  refine FnAt.enter T (fn216 _) (by kernel_rfl) ["self", "last"] (by lia) (bind2 fun z9a z9b => by rfl) (by kernel_rfl) rfl (by kernel_rfl) fun C' T' KN hr' hw hF => ?_
  refine Ex.lq ?_; intro Q₀
  refine Ex.cons (Ex1.assign (evDictI fun fd hfd => As.cell (KN.at_ _ _ (by rfl)) ?_))
  have P1 := P.sub (Sub.new (Sub.refl σ) (o := .idict []) hfd)
  have lenS : (ss.map Stp.val).length = ss.length := by simp
  refine Ex.cons (Ex1.for T'.quiet (.inl hF) (ItE.of_ev (evM 187 T' (nmL KN (by rfl) (by rfl) (psI P1 (Evs.one (nmL KN (by rfl) (by rfl) ((needed_spec T' (by lia) P1 hz hd hl).mono (fun d σ' hd' => ?_) fun z9a z9b z9c z => z)) fun z9a => by rfl))) (star1 fun z9a => by rfl))))
  obtain ⟨an, han, rfl, rfl⟩ := hd'
  have hfa : fd ≠ an := fun q => by subst q; simp at han
  have S0 : Sub σ ((σ.set fd (.idict [])).set an (.list (((kept (prOf ss) last).map fun (n : Nat) => (n : Int)).map .int))) := (Sub.new (Sub.refl σ) hfd).new han
  refine ofL (Store.set_same _ _ _) (forI (fun i ρ₂ σ₂ => Ag ["number", "rule", "clause", "premises", "note", "beneath"] ρ₂ _ ∧ Sub σ σ₂ ∧ ∃ kvs h, σ₂ fd = some (.idict kvs) ∧ (∀ k ∈ (kept (prOf ss) last).take i, kvAt kvs (k : Int) = some (.int (h k)) ∧ HtAt ss h k) ∧ kvs.length ≤ i) ⟨Ag.refl, S0, [], fun z9a => 0, by rw [Store.set_other _ _ hfa, Store.set_same], by simp, by simp⟩ ?_ ?_)
  · intro J₀ Q₁; rintro i y ρ₂ σ₂ hy ⟨hag, hsub, kvs, h, hfd2, hK, hkl⟩ hkeep
    obtain ⟨k, hk, rfl⟩ := nats_at hy
    have hkm : k ∈ kept (prOf ss) last := List.mem_of_getElem? hk
    have hkl2 : k < ss.length := by have := kept_le hkm; lia
    obtain ⟨s, hs⟩ : ∃ s, ss[k]? = some s := ⟨_, List.getElem?_eq_getElem hkl2⟩
    have hil : i < last + 1 := by have h1 := (List.getElem?_eq_some_iff.mp hk).1; have h2 := kept_len (pr := prOf ss) (last := last); lia
    have hpr := prOf_at hs
    have Pk := P.sub hsub
    have hpm : ∀ p ∈ s.prem, p ∈ (kept (prOf ss) last).take i := fun p hp => kept_take hk (kept_closed hd hkm (by rw [hpr]; exact hp)) (hd k p (by rw [hpr]; exact hp))
    refine As.local (KN.at_ _ _ (by rfl)) ?_
    have hat : (ss.map Stp.val)[((k : Int)).toNat]? = some s.val := by rw [Int.toNat_natCast]; exact steps_at hs
    refine Ex.cons (Ex1.assign (Ev.sub (evSteps T'.K (nmL KN (by rfl) ((hag.set (by simp)).to (by decide) (by rfl)) (psI Pk (nmL KN (by rfl) (by rfl) (Bin.itemList Pk.steps (by lia) (by lia) hat ?_)))))))
    refine As.tuple T'.quiet (Ass.cons (As.local (KN.at_ _ _ (by rfl)) (Ass.cons (As.local (KN.at_ _ _ (by rfl)) (Ass.cons (As.local (KN.at_ _ _ (by rfl)) (Ass.cons (As.local (KN.at_ _ _ (by rfl)) (Ass.nil ?_)) (by rfl))) (by rfl))) (by rfl))) (by rfl)) (by rfl) (by rfl)
    have ag := ((((hag.set (x := "number") (v := .int (k : Int)) (by simp)).set (x := "rule") (v := .str (ruleS s.res)) (by simp)).set (x := "clause") (v := clV s.cl) (by simp)).set (x := "premises") (v := natsV s.prem) (by simp)).set (x := "note") (v := s.note) (by simp)
    obtain ⟨hw1, hw2⟩ := hwf k s hs
    have hplen : ((s.prem.map fun (n : Nat) => (n : Int)).map Val.int).length = s.prem.length := by simp
    -- the end of a turn
    have post : ∀ {ρ₄ : Vars} {σ₃ : Store} {v : Int}, Ag ["number", "rule", "clause", "premises", "note", "beneath"] ρ₄ (Vars.set (fun y => ((["self", "last"] : List Str).zip [Val.ref x, .int (last : Int)]).lookup y) "heights" (.ref fd)) → Sub σ σ₃ → σ₃ fd = some (.idict kvs) → Keep1 (some an) (((kept (prOf ss) last).map fun (n : Nat) => (n : Int)).map .int) σ₃ → (s.prem = [] → v = 0) → (s.prem ≠ [] → ∃ m ∈ s.prem, (∀ y ∈ s.prem, h y ≤ h m) ∧ v = h m + 1) →
        Keep1 (some an) (((kept (prOf ss) last).map fun (n : Nat) => (n : Int)).map .int) (σ₃.set fd (.idict (kvSet kvs (k : Int) (.int v)))) ∧ Ag ["number", "rule", "clause", "premises", "note", "beneath"] ρ₄ (Vars.set (fun y => ((["self", "last"] : List Str).zip [Val.ref x, .int (last : Int)]).lookup y) "heights" (.ref fd)) ∧ Sub σ (σ₃.set fd (.idict (kvSet kvs (k : Int) (.int v)))) ∧ ∃ kvs' h', (σ₃.set fd (.idict (kvSet kvs (k : Int) (.int v)))) fd = some (.idict kvs') ∧ (∀ k ∈ (kept (prOf ss) last).take (i + 1), kvAt kvs' (k : Int) = some (.int (h' k)) ∧ HtAt ss h' k) ∧ kvs'.length ≤ i + 1 := by
      intro ρ₄ σ₃ v ag4 hs3 hf3 hk3 hv1 hv2
      obtain ⟨h', e1, e2⟩ : ∃ h' : Nat → Int, h' k = v ∧ ∀ p, p ≠ k → h' p = h p := ⟨fun z => if z = k then v else h z, by simp, fun p hp => by simp [hp]⟩
      refine ⟨fun a q => ?_, ag4, hs3.put hfd, _, h', Store.set_same _ _ _, fun z hz' => ?_, ?_⟩
      · cases q; rw [Store.set_other _ _ (Ne.symm hfa)]; exact hk3 _ rfl
      · have hne : ∀ p ∈ (kept (prOf ss) last).take i, p ≠ k := fun p hp => by have := take_lt hk hp; lia
        rw [kvAt_set]
        rcases (take_mem hk).mp hz' with h4 | rfl
        · have hzk := hne z h4
          obtain ⟨g1, g2⟩ := hK z h4
          have hzk' : ¬ ((z : Int) = (k : Int)) := by lia
          rw [if_neg hzk', e2 z hzk]
          refine ⟨g1, fun t ht => ?_⟩
          obtain ⟨g3, g4⟩ := g2 t ht
          have hzt := prOf_at ht
          have hlt := take_lt hk h4
          have low : ∀ p ∈ t.prem, p ≠ k := fun p hp => by have := hd z p (by rw [hzt]; exact hp); lia
          rw [e2 z hzk]
          refine ⟨g3, fun q => ?_⟩
          obtain ⟨m, m1, m2, m3⟩ := g4 q
          exact ⟨m, m1, fun y hy => by rw [e2 y (low y hy), e2 m (low m m1)]; exact m2 y hy, by rw [e2 m (low m m1)]; exact m3⟩
        · rw [if_pos rfl, e1]
          refine ⟨rfl, fun t ht => ?_⟩
          rw [hs] at ht; cases ht
          rw [e1]
          refine ⟨hv1, fun q => ?_⟩
          obtain ⟨m, m1, m2, m3⟩ := hv2 q
          have low : ∀ p ∈ s.prem, p ≠ z := fun p hp => hne p (hpm p hp)
          exact ⟨m, m1, fun y hy => by rw [e2 y (low y hy), e2 m (low m m1)]; exact m2 y hy, by rw [e2 m (low m m1)]; exact m3⟩
      · have : (kvSet kvs (k : Int) (.int v)).length ≤ kvs.length + 1 := by unfold kvSet; split <;> simp
        lia
    have ends : ∀ {σ₃ : Store} {b : Int} {p1 p2 p3 p4 p5 p6 p7 p8 p9 p10 p11 p12 : Pos} {k1 k2 k3}, Sub σ σ₃ → σ₃ fd = some (.idict kvs) → Keep1 (some an) (((kept (prOf ss) last).map fun (n : Nat) => (n : Int)).map .int) σ₃ → (s.prem = [] → b = 0) → (s.prem ≠ [] → ∃ m ∈ s.prem, (∀ y ∈ s.prem, h y ≤ h m) ∧ b = h m) →
        Ex1 C' ((((((ρ₂.set "number" (.int (k : Int))).set "rule" (.str (ruleS s.res))).set "clause" (clV s.cl)).set "premises" (natsV s.prem)).set "note" s.note).set "beneath" (.int b)) σ₃
          (.Assign [.Subscript (.Name "heights" p1) (.Name "number" p2) p3] (.BinOp (.Name "beneath" p4) .Add (.IfExp (.Compare (.Name "rule" p5) [.Eq] [.Constant (.str "resolve") k1 p6] p7) (.Constant (.int 1) k2 p8) (.Constant (.int 0) k3 p9) p10) p11) p12)
          (fun o ρ₄ σ₄ => match o with | .next => Keep1 (some an) (((kept (prOf ss) last).map fun (n : Nat) => (n : Int)).map .int) σ₄ ∧ Ag ["number", "rule", "clause", "premises", "note", "beneath"] ρ₄ (Vars.set (fun y => ((["self", "last"] : List Str).zip [Val.ref x, .int (last : Int)]).lookup y) "heights" (.ref fd)) ∧ Sub σ σ₄ ∧ ∃ kvs h, σ₄ fd = some (.idict kvs) ∧ (∀ k ∈ (kept (prOf ss) last).take (i + 1), kvAt kvs (k : Int) = some (.int (h k)) ∧ HtAt ss h k) ∧ kvs.length ≤ i + 1 | _ => False) noX := by
      intro σ₃ b p1 p2 p3 p4 p5 p6 p7 p8 p9 p10 p11 p12 k1 k2 k3 hs3 hf3 hk3 hb1 hb2
      have ag' := ag.set (x := "beneath") (v := .int b) (by simp)
      refine Ex1.assign (Ev.binop (nmL KN (by rfl) (by rfl) (Ev.ifexp (Tst.cmp (nmL KN (by rfl) (by rfl) (Ev.str (Bin.eq (by cases s.res <;> simp [Val.fit, ruleS] <;> decide +kernel) (by simp [Val.fit]; decide +kernel) (brB (fun hb => ?_) (fun hb => ?_)))))))))
      · have hres : s.res = true := by
          cases q : s.res with
          | true => rfl
          | false => rw [q] at hb; exact absurd hb (by simp [ruleS, PyData.eqv, Val.py]; decide)
        have hne := hw1.mp hres
        refine Ev.int (Bin.add (As.item' (nmC KN (by rfl) (ag'.to (by decide) (by rfl)) (nmL KN (by rfl) (by rfl) (Sti.idict hf3 (by lia) (post ag' hs3 hf3 hk3 (fun q => absurd q hne) fun q => ?_))))))
        obtain ⟨m, m1, m2, m3⟩ := hb2 q
        exact ⟨m, m1, m2, by rw [m3]⟩
      · have hres : ¬ s.res = true := fun q => by
          rw [q] at hb; exact absurd hb (by simp [ruleS, PyData.eqv, Val.py])
        have hnil : s.prem = [] := by
          by_cases q : s.prem = []
          · exact q
          · exact absurd (hw1.mpr q) hres
        refine Ev.int (Bin.add (As.item' (nmC KN (by rfl) (ag'.to (by decide) (by rfl)) (nmL KN (by rfl) (by rfl) (Sti.idict hf3 (by lia) (post ag' hs3 hf3 hk3 (fun q => ?_) fun q => absurd hnil q))))))
        rw [hb1 hnil]; rfl
    refine Ex.cons (Ex1.assign (Ev.ifexp (Tst.cmp (evB1 T' KN (nmL KN (by rfl) (by rfl) (Cal.lenTup (by rw [hplen]; lia) (Ev.int (Bin.gt (brB (fun hb => ?_) (fun hb => ?_))))))))))
    · rw [hplen] at hb
      have hne : s.prem ≠ [] := fun q => by rw [q] at hb; simp at hb
      refine evB1 T' KN (evCompOf KN T'.quiet (by kernel_rfl) (ItE.of_ev (nmL KN (by rfl) (by rfl) ((ofT ⟨by rw [hplen]; lia, lookG kvs, fun z9a C'' hC y hy ρ₃ hcap => ?_, fun a1 ha1 => ?_⟩)))))
      · obtain ⟨p', hp', rfl⟩ := List.mem_map.mp hy
        obtain ⟨p, hp, rfl⟩ := List.mem_map.mp hp'
        refine tgtName hC (by rfl) hcap fun ρ₄ h1 h2 => ?_
        have KNc := Kn.comp hC
        have hht : ρ₄ "heights" = some (.ref fd) := (h2 "heights" (by rfl)).trans (ag.to (by decide) (by rfl))
        have g := (hK p (hpm p hp)).1
        have e0 : lookG kvs (.int (p : Int)) = some (.int (h p)) := g
        rw [e0]
        exact ⟨rfl, rfl, fun z9a => Ev.sub (nmC KNc (by rfl) hht (nmL KNc (by rfl) h1 (Bin.itemIdict hfd2 g ⟨rfl, rfl⟩)))⟩
      · rw [look_nats (h := h) fun p hp => (hK p (hpm p hp)).1]
        have hfa1 : fd ≠ a1 := fun q => by subst q; rw [hfd2] at ha1; cases ha1
        have haa1 : an ≠ a1 := fun q => by have h3 := hkeep an rfl; rw [q, ha1] at h3; cases h3
        refine Cal.maxInts (ns := s.prem.map h) (Store.set_same _ _ _) (by rw [List.length_map]; exact List.length_pos_iff.mpr hne) T'.quiet fun M hM1 hM2 => As.local (KN.at_ _ _ (by rfl)) ?_
        obtain ⟨m, m1, rfl⟩ := List.mem_map.mp hM1
        refine Ex.cons (Ex1.mono (ends (hsub.new ha1) (by rw [Store.set_other _ _ hfa1]; exact hfd2) (fun a q => by cases q; rw [Store.set_other _ _ haa1]; exact hkeep _ rfl) (fun q => absurd q hne) fun z9a => ⟨m, m1, fun y hy => hM2 _ (List.mem_map_of_mem hy), rfl⟩) fun o ρ₄ σ₄ hq => ?_)
        cases o with
        | next => exact Ex.nil hq
        | _ => exact hq.elim
    · rw [hplen] at hb
      have hnil : s.prem = [] := by
        have := of_decide_eq_false hb
        exact List.length_eq_zero_iff.mp (by lia)
      refine Ev.int (As.local (KN.at_ _ _ (by rfl)) ?_)
      refine Ex.cons (Ex1.mono (ends hsub hfd2 (fun a q => hkeep a q) (fun z9a => rfl) fun q => absurd hnil q) fun o ρ₄ σ₄ hq => ?_)
      cases o with
      | next => exact Ex.nil hq
      | _ => exact hq.elim
  · rintro ρ₂ σ₂ ⟨hag, hsub, kvs, h, hfd2, hK, hkl⟩ hkeep
    rw [List.length_map, List.length_map, List.take_length] at hK
    refine Ex.cons (Ex1.ret (Ev.sub (nmC KN (by rfl) (hag.to (by decide) (by rfl)) (nmL KN (by rfl) (hag.to (by decide) (by rfl)) (Bin.itemIdict hfd2 (hK last (kept_last hd)).1 ⟨σ, hsub, h, fun k hk => (hK k hk).2, rfl, rfl⟩)))))
end Mine
set_option tactic.hygienic false
namespace Mine
open PySem PySem.W PyProof.Rows PySem.Calls
set_option maxRecDepth 100000
/-- the feed: numbers and a place among them, told no further than by a bound -/
noncomputable def FeedAt (σ : Store) (af an : Addr) (m : Nat) : Prop := X2 fun (ns : List Int) (spot : Nat) => A5 (an ≠ af) (σ af = some (.list [.ref an, .int (spot : Int)])) (σ an = some (.list (ns.map .int))) (ns.length ≤ 100) (spot ≤ m)
theorem FeedAt.sub {σ σ' : Store} {af an : Addr} {m : Nat} (F : FeedAt σ af an m) (h : Sub σ σ') : FeedAt σ' af an m := by
  obtain ⟨ns, spot, a, b, c, d, e⟩ := F
  exact ⟨ns, spot, a, h _ _ b, h _ _ c, d, e⟩
theorem FeedAt.same {σ σ' : Store} {af an : Addr} {m : Nat} (F : FeedAt σ af an m) (h1 : σ' af = σ af) (h2 : σ' an = σ an) : FeedAt σ' af an m := by
  obtain ⟨ns, spot, a, b, c, d, e⟩ := F
  exact ⟨ns, spot, a, h1.trans b, h2.trans c, d, e⟩
theorem FeedAt.le {σ : Store} {af an : Addr} {m m' : Nat} (F : FeedAt σ af an m) (h : m ≤ m') : FeedAt σ af an m' := by
  obtain ⟨ns, spot, a, b, c, d, e⟩ := F
  exact ⟨ns, spot, a, b, c, d, Nat.le_trans e h⟩
noncomputable def fn228 (p : Params) : FnAt p 228 := ⟨_, _, ⟨_, rfl, rfl⟩, rfl⟩
theorem dip_spec {C : Cx} {ρ σ} (T : Tops C) (hr : 2 ≤ C.room) {X : XPost} {af an : Addr} {m many : Nat} (F : FeedAt σ af an m) (hm : m ≤ 10 ^ 6) (hp : 0 < many) :
    Cal C ρ σ (.ref 228) [.ref af, .int (many : Int)] (fun d σ' => ∃ v : Nat, A4 (d = .int (v : Int)) (v < many) (FeedAt σ' af an (m + 1)) (∀ b, b ≠ af → σ' b = σ b)) X := by
  obtain ⟨ns, spot, hne, ha, hn, hz, hs⟩ := F
  refine FnAt.enter T (fn228 _) (by kernel_rfl) ["feed", "many"] (by lia) (bind2 fun z9a z9b => by rfl) (by kernel_rfl) rfl (by kernel_rfl) fun C' T' KN hr' hw hF => ?_
  refine Ex.lq ?_; intro Q₀
  refine Ex.cons (Ex1.assign (Ev.sub (nmL KN (by rfl) (by rfl) (Ev.int (Bin.itemList (d := .int (spot : Int)) ha (by lia) (by lia) (by rfl) (As.local (KN.at_ _ _ (by rfl)) ?_))))))
  refine Ex.cons (Ex1.assign (Ev.binop (nmL KN (by rfl) (by rfl) (Ev.int (Bin.add (As.item' (nmL KN (by rfl) (by rfl) (Ev.int (Sti.list ha (by lia) (by simp) (by simp) ?_)))))))))
  have hset : ([Val.ref an, Val.int (spot : Int)].set (1 : Int).toNat (Val.int ((spot : Int) + 1))) = [.ref an, .int ((spot + 1 : Nat) : Int)] := by rfl
  rw [hset]
  have hn' : (σ.set af (.list [.ref an, .int ((spot + 1 : Nat) : Int)])) an = some (.list (ns.map .int)) := by rw [Store.set_other _ _ hne]; exact hn
  have ha' : (σ.set af (.list [.ref an, .int ((spot + 1 : Nat) : Int)])) af = some (.list [.ref an, .int ((spot + 1 : Nat) : Int)]) := Store.set_same _ _ _
  have hlen : (ns.map Val.int).length = ns.length := by simp
  have post : ∀ z : Int, ∃ v : Nat, A4 (Val.int (z.fmod (many : Int)) = .int (v : Int)) (v < many) (FeedAt (σ.set af (.list [.ref an, .int ((spot + 1 : Nat) : Int)])) af an (m + 1)) (∀ b, b ≠ af → (σ.set af (.list [.ref an, .int ((spot + 1 : Nat) : Int)])) b = σ b) := fun z => by
    have h1 : 0 ≤ z.fmod (many : Int) := Int.fmod_nonneg_of_pos z (by lia)
    have h2 : z.fmod (many : Int) < (many : Int) := Int.fmod_lt_of_pos z (by lia)
    refine ⟨(z.fmod (many : Int)).toNat, by rw [Int.toNat_of_nonneg h1], (Int.toNat_lt h1).mpr h2, ⟨ns, spot + 1, hne, ha', hn', hz, by lia⟩, fun b hb => Store.set_other _ _ hb⟩
  have hfeed0 : ∀ {Q : Val → Store → Prop} {ρ' : Vars} {p1 p2 p3 : Pos} {k}, ρ' "feed" = some (.ref af) → Q (.ref an) (σ.set af (.list [.ref an, .int ((spot + 1 : Nat) : Int)])) → Ev C' ρ' (σ.set af (.list [.ref an, .int ((spot + 1 : Nat) : Int)])) (.Subscript (.Name "feed" p1) (.Constant (.int 0) k p2) p3) Q (fun c z9a σ' => X c ρ σ') := fun h q =>
    Ev.sub (nmL KN (by rfl) h (Ev.int (Bin.itemList (d := .ref an) ha' (by lia) (by lia) (by rfl) q)))
  refine Ex.cons (Ex1.ite (Tst.cmp (nmL KN (by rfl) (by rfl) (evB1 T' KN (hfeed0 (by rfl) (Cal.len hn' (by lia) (Bin.lt (brB (fun hb => ?_) (fun hb => ?_)))))))))
  · rw [hlen] at hb
    have hb' := of_decide_eq_true hb
    have hsn : spot < ns.length := by lia
    refine Ex.cons (Ex1.ret (Ev.binop (Ev.sub (hfeed0 (by rfl) (nmL KN (by rfl) (by rfl) (Bin.itemList (d := .int (ns.getD spot 0)) hn' (by lia) (by lia) (by rw [Int.toNat_natCast]; exact int_at hsn) (nmL KN (by rfl) (by rfl) (Bin.mod (by lia) (post _)))))))))
  · have hsq : -(2 ^ 60) ≤ (spot : Int) ∧ (spot : Int) ≤ 2 ^ 60 := by lia
    have hsq2 : -(2 ^ 60) ≤ (spot : Int) * (spot : Int) ∧ (spot : Int) * (spot : Int) ≤ 2 ^ 60 := by
      have h1 : (spot : Int) * (spot : Int) ≤ 1000000 * 1000000 := Int.mul_le_mul (by lia) (by lia) (by lia) (by lia)
      have h2 : (0 : Int) ≤ (spot : Int) * (spot : Int) := Int.mul_nonneg (by lia) (by lia)
      lia
    refine Ex.nil (Ex.cons (Ex1.ret (Ev.binop (Ev.binop (Ev.binop (Ev.binop (Ev.binop (Ev.binop (nmL KN (by rfl) (by rfl) (nmL KN (by rfl) (by rfl) (Bin.mul hsq (Ev.int (Bin.mul hsq2 (Ev.binop (Ev.int (nmL KN (by rfl) (by rfl) (Bin.mul (by lia) (Bin.add ?_))))))))))))))))))
    refine Ev.binop (Ev.int (evB1 T' KN (hfeed0 (by rfl) (Cal.len hn' (by lia) (Bin.mul (by lia) (Bin.add (Ev.int (Bin.mod (by lia) (nmL KN (by rfl) (by rfl) (Bin.mod (by lia) (post _)))))))))))
end Mine
set_option tactic.hygienic false
namespace Mine
open PySem PySem.W PyProof.Rows PySem.Calls
set_option maxRecDepth 100000
noncomputable def absG : Val → Option Val
  | .int l => some (.int (l.natAbs : Int))
  | _ => none
theorem filterMap_abs : ∀ {ls : List Int}, (ls.map Val.int).filterMap absG = (ls.map Int.natAbs).map fun (n : Nat) => Val.int (n : Int)
  | [] => rfl
  | l :: ls => by rw [List.map_cons, List.filterMap_cons]; show _ :: _ = _; rw [filterMap_abs]; rfl
noncomputable def fn233 (p : Params) : FnAt p 233 := ⟨_, _, ⟨_, rfl, rfl⟩, rfl⟩
theorem ordered_spec {C : Cx} {ρ σ} (T : Tops C) (hr : 3 ≤ C.room) {X : XPost} {a : Addr} {ls : List Int} (ha : σ a = some (.list (ls.map .int))) (hs : Small ls) (hz : ls.length ≤ 900) :
    Cal C ρ σ (.ref 233) [.ref a] (fun d σ' => d = optV (ordF ls) ∧ σ' = σ) X := by
  refine Cal.drop (X := X) (X' := noX) ?_ (fun z9a z9b z9c h => h.elim)
  refine FnAt.enter T (fn233 _) (by kernel_rfl) ["literals"] (by lia) (bind1 fun z9a => by rfl) (by kernel_rfl) rfl (by kernel_rfl) fun C' T' KN hr' hw hF => ?_
  refine Ex.lq ?_; intro Q₀
  refine Ex.cons (Ex1.assign (Ev.list (Evs.nil ⟨by simp, fun fd hfd => As.local (KN.at_ _ _ (by rfl)) ?_⟩)))
  have S1 := Sub.new (Sub.refl σ) (o := .list []) hfd
  refine Ex.cons (Ex1.for T'.quiet (.inl hF) (ItE.of_ev (evB1 T' KN (evT1 T' KN (evCompOf KN T'.quiet (by kernel_rfl) (ItE.of_ev (nmL KN (by rfl) (by rfl) (.inl ⟨a, _, rfl, S1 _ _ ha, by simp; lia, absG, fun z9a C'' hC y hy ρ₃ hcap => ?_, fun a1 ha1 => ?_⟩))))))))
  · obtain ⟨l, hl, rfl⟩ := List.mem_map.mp hy
    refine tgtName hC (by rfl) hcap fun ρ₄ h1 h2 => ?_
    have KNc := Kn.comp hC
    have Tc := T'.comp hC
    exact ⟨rfl, rfl, fun z9a => evB1 Tc KNc (nmL KNc (by rfl) h1 (Cal.abs ⟨rfl, by rw [abs_nat]; rfl⟩))⟩
  rw [filterMap_abs]
  refine Cal.setOf (ns := ls.map Int.natAbs) (Store.set_same _ _ _) (fun n hn => ?_) T'.quiet fun a2 ha2 => Cal.sortedSet (Store.set_same _ _ _) T'.quiet fun a3 ha3 => ?_
  · obtain ⟨l, hl, rfl⟩ := List.mem_map.mp hn; exact hs l hl
  have S3 := ((S1.new (o := .list ((ls.map Int.natAbs).map fun (n : Nat) => Val.int (n : Int))) ha1).new (o := .iset (smalls fun j => decide (j ∈ ls.map Int.natAbs))) ha2).new (o := .list ((smalls fun j => decide (j ∈ ls.map Int.natAbs)).map fun (n : Nat) => Val.int (n : Int))) ha3
  have hW : (smalls fun j => decide (j ∈ ls.map Int.natAbs)) = [1, 2, 3, 4].filter (has ls) := by
    unfold smalls
    refine List.filter_congr fun k z9a => ?_
    unfold has
    rw [Bool.eq_iff_iff]; simp only [decide_eq_true_eq, List.contains_iff_mem]
  rw [hW] at ha3 S3 ⊢
  revert ha3 S3; refine genE ([1, 2, 3, 4].filter (has ls)) ?_; intro W hWd; set_option tactic.hygienic false in intros
  have hWl : W.length ≤ 4 := by rw [← hWd]; exact List.length_filter_le _ _
  have hf1 : fd ≠ a1 := fun q => by subst q; rw [Store.set_same] at ha1; cases ha1
  have hf2 : fd ≠ a2 := fun q => by subst q; rw [Store.set_other _ _ hf1, Store.set_same] at ha2; cases ha2
  have hf3 : fd ≠ a3 := fun q => by subst q; rw [Store.set_other _ _ hf2, Store.set_other _ _ hf1, Store.set_same] at ha3; cases ha3
  refine ofL (Store.set_same _ _ _) (forI (fun i ρ₂ σ₂ => Ag ["var"] ρ₂ _ ∧ Sub σ σ₂ ∧ σ₂ fd = some (.list (((W.take i).map (pick ls)).map .int)) ∧ ∀ v ∈ W.take i, ¬ (ls.contains (v : Int) = true ∧ ls.contains (-(v : Int)) = true)) ⟨Ag.refl, S3, ?_, by simp⟩ ?_ ?_)
  · rw [Store.set_other _ _ hf3, Store.set_other _ _ hf2, Store.set_other _ _ hf1, Store.set_same]; simp
  · intro J₀ Q₁; rintro i y ρ₂ σ₂ hy ⟨hag, hsub, hfd2, hno⟩ hkeep
    obtain ⟨v, hv, rfl⟩ : ∃ v : Nat, W[i]? = some v ∧ y = .int (v : Int) := by
      rw [List.getElem?_map] at hy
      cases q : W[i]? with
      | none => rw [q] at hy; cases hy
      | some l => rw [q] at hy; exact ⟨l, rfl, by simpa using hy.symm⟩
    have hil : i < W.length := (List.getElem?_eq_some_iff.mp hv).1
    have hvW : v ∈ W := List.mem_of_getElem? hv
    refine As.local (KN.at_ _ _ (by rfl)) ?_
    have ag := hag.set (x := "var") (v := .int (v : Int)) (by simp)
    have hvar : ∀ {Q : Val → Store → Prop} {X : XPost} {pos : Pos}, Q (.int (v : Int)) σ₂ → Ev C' (ρ₂.set "var" (.int (v : Int))) σ₂ (.Name "var" pos) Q X := fun q => nmL KN (by rfl) (by rfl) q
    have hlit : ∀ {Q : Val → Store → Prop} {X : XPost} {pos : Pos}, Q (.ref a) σ₂ → Ev C' (ρ₂.set "var" (.int (v : Int))) σ₂ (.Name "literals" pos) Q X := fun q => nmL KN (by rfl) (ag.to (by decide) (by rfl)) q
    have ha2' := hsub _ _ ha
    have next : ∀ {σ₃ : Store}, ¬ (ls.contains (v : Int) = true ∧ ls.contains (-(v : Int)) = true) → σ₃ = σ₂.set fd (.list (((W.take i).map (pick ls)).map .int ++ [.int (pick ls v)])) → Keep1 (some a3) (W.map fun (n : Nat) => Val.int (n : Int)) σ₃ ∧ Ag ["var"] (ρ₂.set "var" (.int (v : Int))) (Vars.set (fun y => ((["literals"] : List Str).zip [Val.ref a]).lookup y) "found" (.ref fd)) ∧ Sub σ σ₃ ∧ σ₃ fd = some (.list (((W.take (i + 1)).map (pick ls)).map .int)) ∧ ∀ v ∈ W.take (i + 1), ¬ (ls.contains (v : Int) = true ∧ ls.contains (-(v : Int)) = true) := by
      rintro σ₃ hn rfl
      refine ⟨fun b q => ?_, ag, hsub.put hfd, ?_, fun u hu => ?_⟩
      · cases q; rw [Store.set_other _ _ (Ne.symm hf3)]; exact hkeep _ rfl
      · rw [Store.set_same, List.take_add_one, hv]; simp
      · rcases (take_mem hv).mp hu with h | rfl
        · exact hno u h
        · exact hn
    have hlen2 : ((((W.take i).map (pick ls)).map Val.int)).length ≤ 1000 := by have h1 := List.length_take_le i W; simp only [List.length_map]; lia
    have hfound : ∀ {Q : Val → Store → Prop} {X : XPost} {pos : Pos}, Q (.ref fd) σ₂ → Ev C' (ρ₂.set "var" (.int (v : Int))) σ₂ (.Name "found" pos) Q X := fun q => nmL KN (by rfl) (ag.to (by decide) (by rfl)) q
    refine Ex.cons (Ex1.ite (Tst.boolop (Tsts.and_cons (Tst.cmp (hvar (hlit (Bin.inList ha2' (by rfl) fits_ints (brB (fun h1 => Tsts.and_cons (Tst.cmp (Ev.unop (hvar (Una.neg (hlit (Bin.inList ha2' (by rfl) fits_ints (brB (fun h2 => Tsts.and_nil ⟨fun z9a => ?_, (fun q => nomatch q)⟩) (fun h2 => ⟨(fun q => nomatch q), fun z9a => ?_⟩))))))))) (fun h1 => ⟨(fun q => nomatch q), fun z9a => ?_⟩)))))))))
    · rw [any_int] at h1 h2
      refine Ex.cons (Ex1.ret (Ev.none ⟨σ, hsub, ?_, rfl⟩))
      have hv4 : v ∈ [1, 2, 3, 4] := by rw [← hWd] at hvW; exact (List.mem_filter.mp hvW).1
      have hc : clash ls = true := List.any_eq_true.mpr ⟨v, hv4, by rw [h1, h2]; rfl⟩
      simp [ordF, hc, optV]
    all_goals
      have hn : ¬ (ls.contains (v : Int) = true ∧ ls.contains (-(v : Int)) = true) := by
        first
          | (rw [any_int] at h1 h2; rw [h1, h2]; simp)
          | (rw [any_int] at h1; rw [h1]; simp)
      refine Ex.nil (Ex.cons (Ex1.expr (Ev.callL PySem.F.slot_list_append PySem.F.type_list_append (hfound ⟨fd, _, rfl, hfd2, Evs.one (Ev.ifexp (Tst.cmp (hvar (hlit (Bin.inList ha2' (by rfl) fits_ints (brB (fun h3 => ?_) (fun h3 => ?_))))))) fun z9a => by rfl⟩) (star1 fun z9a => by rfl))))
      · rw [any_int] at h3
        exact hvar (Cal.append hfd2 hlen2 (Ex.nil (next hn (by unfold pick; rw [if_pos h3]))))
      · rw [any_int] at h3
        exact Ev.unop (hvar (Una.neg (Cal.append hfd2 hlen2 (Ex.nil (next hn (by unfold pick; rw [if_neg (by rw [h3]; simp)]))))))
  · rintro ρ₂ σ₂ ⟨hag, hsub, hfd2, hno⟩ hkeep
    have hlenW : (W.map fun (n : Nat) => Val.int (n : Int)).length = W.length := by simp
    rw [hlenW, List.take_length] at hfd2 hno
    have hc : clash ls = false := by
      unfold clash
      refine List.any_eq_false.mpr fun v hv h => ?_
      simp only [Bool.and_eq_true] at h
      refine hno v ?_ h
      rw [← hWd]
      refine List.mem_filter.mpr ⟨hv, ?_⟩
      unfold has
      rw [List.contains_iff_mem]
      exact List.mem_map.mpr ⟨(v : Int), by simpa using h.1, by simp⟩
    refine Ex.cons (Ex1.ret (evT1 T' KN (nmL KN (by rfl) (hag.to (by decide) (by rfl)) (Cal.tupleOf hfd2 (by simp; lia) ⟨σ, hsub, ?_, rfl⟩))))
    simp only [ordF, hc, Bool.false_eq_true, if_false, optV, clV, ordL, hWd]
end Mine
set_option tactic.hygienic false
namespace Mine
open PySem PySem.W PyProof.Rows PySem.Calls
set_option maxRecDepth 100000
noncomputable def clashOn (c₁ c₂ : List Int) (v : Int) : Bool := (c₁.contains v && c₂.contains (-v)) || (c₁.contains (-v) && c₂.contains v)
/-- clashing as the law does it -/
noncomputable def clashF (c₁ c₂ : List Int) (v : Int) : Option (List Int) := if clashOn c₁ c₂ v then ordF ((c₁ ++ c₂).filter fun l => (l.natAbs : Int) != v) else none
noncomputable def offG (v : Int) : Val → Option Val
  | .int l => if (l.natAbs : Int) != v then some (.int l) else none
  | _ => none
noncomputable def fn238 (p : Params) : FnAt p 238 := ⟨_, _, ⟨_, rfl, rfl⟩, rfl⟩
theorem clashing_spec {C : Cx} {ρ σ} (T : Tops C) (hr : 6 ≤ C.room) {X : XPost} {c₁ c₂ : List Int} {v : Int} (h1 : Small c₁) (h2 : Small c₂) (z1 : c₁.length ≤ 400) (z2 : c₂.length ≤ 400) :
    Cal C ρ σ (.ref 238) [clV c₁, clV c₂, .int v] (fun d σ' => d = optV (clashF c₁ c₂ v) ∧ σ' = σ) X := by
  refine Cal.drop (X := X) (X' := noX) ?_ (fun z9a z9b z9c h => h.elim)
  refine FnAt.enter T (fn238 _) (by kernel_rfl) ["one", "other", "var"] (by lia) (bind3 fun z9a z9b z9c => by rfl) (by kernel_rfl) rfl (by kernel_rfl) fun C' T' KN hr' hw hF => ?_
  refine Ex.lq ?_; intro Q₀
  have e1 : ∀ {σ' : Store} {Q : Val → Store → Prop} {X : XPost} {pos : Pos}, Q (clV c₁) σ' → Ev C' (fun x => (([("one", clV c₁), ("other", clV c₂), ("var", .int v)] : List (Str × Val)).lookup x)) σ' (.Name "one" pos) Q X := fun q => nmL KN (by rfl) (by rfl) q
  have e2 : ∀ {σ' : Store} {Q : Val → Store → Prop} {X : XPost} {pos : Pos}, Q (clV c₂) σ' → Ev C' (fun x => (([("one", clV c₁), ("other", clV c₂), ("var", .int v)] : List (Str × Val)).lookup x)) σ' (.Name "other" pos) Q X := fun q => nmL KN (by rfl) (by rfl) q
  have e3 : ∀ {σ' : Store} {Q : Val → Store → Prop} {X : XPost} {pos : Pos}, Q (.int v) σ' → Ev C' (fun x => (([("one", clV c₁), ("other", clV c₂), ("var", .int v)] : List (Str × Val)).lookup x)) σ' (.Name "var" pos) Q X := fun q => nmC KN (by rfl) (by rfl) q
  have hfst : ∀ {B : Bool → Store → Prop}, B (clashOn c₁ c₂ v) σ → ∀ {p1 p2 p3 p4 p5 p6 p7 p8 p9 p10 p11 p12 p13 p14 p15 p16 p17 : Pos}, Tst C' (fun x => (([("one", clV c₁), ("other", clV c₂), ("var", .int v)] : List (Str × Val)).lookup x)) σ
      (.BoolOp .Or [.BoolOp .And [.Compare (.Name "var" p1) [.In] [.Name "one" p2] p3, .Compare (.UnaryOp .USub (.Name "var" p4) p5) [.In] [.Name "other" p6] p7] p8, .BoolOp .And [.Compare (.UnaryOp .USub (.Name "var" p9) p10) [.In] [.Name "one" p11] p12, .Compare (.Name "var" p13) [.In] [.Name "other" p14] p15] p16] p17) B noX := by
    intro B hB p1 p2 p3 p4 p5 p6 p7 p8 p9 p10 p11 p12 p13 p14 p15 p16 p17
    have second : Tst C' (fun x => (([("one", clV c₁), ("other", clV c₂), ("var", .int v)] : List (Str × Val)).lookup x)) σ (.BoolOp .And [.Compare (.UnaryOp .USub (.Name "var" p9) p10) [.In] [.Name "one" p11] p12, .Compare (.Name "var" p13) [.In] [.Name "other" p14] p15] p16) (fun b σ' => b = (c₁.contains (-v) && c₂.contains v) ∧ σ' = σ) noX := by
      refine Tst.boolop (Tsts.and_cons (Tst.cmp (Ev.unop (e3 (Una.neg (e1 (Bin.inTup (by rfl) fits_ints (brB (fun hc => Tsts.and_cons (Tst.cmp (e3 (e2 (Bin.inTup (by rfl) fits_ints (brB (fun hd => Tsts.and_nil ⟨?_, rfl⟩) (fun hd => ⟨?_, rfl⟩))))))) (fun hc => ⟨?_, rfl⟩)))))))))
      · rw [any_int] at hc hd; rw [hc, hd]; rfl
      · rw [any_int] at hc hd; rw [hc, hd]; rfl
      · rw [any_int] at hc; rw [hc]; rfl
    have first : Tst C' (fun x => (([("one", clV c₁), ("other", clV c₂), ("var", .int v)] : List (Str × Val)).lookup x)) σ (.BoolOp .And [.Compare (.Name "var" p1) [.In] [.Name "one" p2] p3, .Compare (.UnaryOp .USub (.Name "var" p4) p5) [.In] [.Name "other" p6] p7] p8) (fun b σ' => b = (c₁.contains v && c₂.contains (-v)) ∧ σ' = σ) noX := by
      refine Tst.boolop (Tsts.and_cons (Tst.cmp (e3 (e1 (Bin.inTup (by rfl) fits_ints (brB (fun hc => Tsts.and_cons (Tst.cmp (Ev.unop (e3 (Una.neg (e2 (Bin.inTup (by rfl) fits_ints (brB (fun hd => Tsts.and_nil ⟨?_, rfl⟩) (fun hd => ⟨?_, rfl⟩))))))))) (fun hc => ⟨?_, rfl⟩)))))))
      · rw [any_int] at hc hd; rw [hc, hd]; rfl
      · rw [any_int] at hc hd; rw [hc, hd]; rfl
      · rw [any_int] at hc; rw [hc]; rfl
    have mono : ∀ {e : Expr} {B B' : Bool → Store → Prop}, Tst C' (fun x => (([("one", clV c₁), ("other", clV c₂), ("var", .int v)] : List (Str × Val)).lookup x)) σ e B noX → (∀ b σ', B b σ' → B' b σ') → Tst C' (fun x => (([("one", clV c₁), ("other", clV c₂), ("var", .int v)] : List (Str × Val)).lookup x)) σ e B' noX := fun h hq => Tp.mono h (fun _ _ _ _ ⟨a, b⟩ => ⟨a, hq _ _ b⟩) fun z9a z9b z9c x => x
    refine Tst.boolop (Tsts.or_cons (mono first fun b σ' ⟨hb, hs⟩ => ⟨fun ht => ?_, fun hf => Tsts.or_cons ?_⟩))
    · subst hs; rw [hb] at ht; unfold clashOn at hB; rw [ht] at hB; exact hB
    · subst hs
      refine mono second fun b' σ'' ⟨hb', hs'⟩ => ⟨fun ht => ?_, fun hf' => Tsts.or_nil ?_⟩
      · subst hs'; unfold clashOn at hB; rw [← hb', ht, Bool.or_true] at hB; exact hB
      · subst hs'; unfold clashOn at hB; rw [← hb, ← hb', hf, hf'] at hB; exact hB
  refine Ex.cons (Ex1.ite (Tst.not (hfst ⟨fun h => ?_, fun h => ?_⟩)))
  · refine Ex.cons (Ex1.ret (Ev.none ⟨σ, Sub.refl _, ?_, rfl⟩))
    have hc : clashOn c₁ c₂ v = false := by simpa using h
    simp [clashF, hc, optV]
  · have hc : clashOn c₁ c₂ v = true := by simpa using h
    have hcat : (c₁.map Val.int ++ c₂.map Val.int) = (c₁ ++ c₂).map Val.int := by simp
    refine Ex.nil (Ex.cons (Ex1.ret (evF1 233 T' KN (evCompOf KN T'.quiet (by kernel_rfl) (ItE.of_ev (Ev.binop (e1 (e2 (Bin.addTup (by simp; lia) (by simp; lia) ((ofT ⟨by simp; lia, offG v, fun z9a C'' hC y hy ρ₃ hcap => ?_, fun a1 ha1 => ?_⟩)))))))))))
    · rw [hcat] at hy
      obtain ⟨l, hl, rfl⟩ := List.mem_map.mp hy
      refine tgtName hC (by rfl) hcap fun ρ₄ g1 g2 => ?_
      have KNc := Kn.comp hC
      have Tc := T'.comp hC
      have hv : ρ₄ "var" = some (.int v) := (g2 "var" (by rfl)).trans (by rfl)
      refine Tst.cmp (evB1 Tc KNc (nmL KNc (by rfl) g1 (Cal.abs (nmC KNc (by rfl) hv (Bin.ne (by rfl) (by rfl) ⟨_, rfl, rfl, ?_, fun hb => nmL KNc (by rfl) g1 ⟨rfl, ?_⟩⟩)))))
      · rw [abs_nat]
        by_cases q : (l.natAbs : Int) = v <;> simp [offG, q, PyData.eqv, Val.py]
      · rw [abs_nat] at hb
        have q : ¬ (l.natAbs : Int) = v := by simpa [PyData.eqv, Val.py] using hb
        simp [offG, q]
    · rw [hcat, filterMap_ints (p := fun l => (l.natAbs : Int) != v) fun l => rfl]
      refine (ordered_spec T' (by lia) (Store.set_same _ _ _) (fun l hl => ?_) ?_).mono (fun d σ' hd => ?_) fun z9a z9b z9c z => z
      · rcases List.mem_append.mp (List.mem_filter.mp hl).1 with h | h
        · exact h1 l h
        · exact h2 l h
      · have := List.length_filter_le (fun (l : Int) => (l.natAbs : Int) != v) (c₁ ++ c₂); simp only [List.length_append] at this; lia
      · obtain ⟨rfl, rfl⟩ := hd
        exact ⟨σ, Sub.new (Sub.refl _) ha1, by simp [clashF, hc], rfl⟩
end Mine
set_option tactic.hygienic false
namespace Mine
open PySem PySem.W PyProof.Rows PySem.Calls
set_option maxRecDepth 100000
theorem fits_stps {ss : List Stp} : Val.fits 8 (ss.map Stp.val) = true := by
  rw [Val.fits_all, List.all_map]
  refine List.all_eq_true.mpr fun s z9a => ?_
  have e1 : ∀ c : List Int, Val.fit 7 (clV c) = true := fun c => by
    show Val.fits 6 (c.map Val.int) = true
    rw [Val.fits_all, List.all_map]; exact List.all_eq_true.mpr fun z9a z9b => rfl
  show Val.fits 7 [.str (ruleS s.res), clV s.cl, natsV s.prem, s.note] = true
  rw [Val.fits_all]
  have e2 : Val.fit 7 (.str (ruleS s.res)) = true := by cases s.res <;> simp [Val.fit, ruleS] <;> decide +kernel
  have e3 : Val.fit 7 s.note = true := by unfold Stp.note; split; exact e1 _; rfl
  simp only [List.all_cons, List.all_nil, e2, e1, e3, natsV, Bool.and_self]
theorem eqv_same {xs : List Val} (h : Val.fits 8 xs = true) : PyData.eqvAll (Val.pys xs) (Val.pys xs) = true := SeqAt.eqvAll_refl _ (Val.fits_py h).1
noncomputable def fn245 (p : Params) : FnAt p 245 := ⟨_, _, ⟨_, rfl, rfl⟩, rfl⟩
theorem refused_spec {C : Cx} {ρ σ} (T : Tops C) (hr : 12 ≤ C.room) {X : XPost} {x dd as am : Addr} {ss : List Stp} {names : List Val} {e : Int} (P : PAt σ x dd as am (ss.map Stp.val) names e) (hz : ss.length ≤ 60) {r : Str} (hrl : r.length ≤ 100) (hrf : PyData.strOk r = true) {c ps : List Int} (hc : c.length ≤ 400) (hps : ps.length ≤ 400) (hpb : ∀ p ∈ ps, p.natAbs < 10 ^ 6)
    (hno : addOk r c ps ss.length = false) : Cal C ρ σ (.ref 245) [.ref x, .str r, clV c, clV ps] (fun d σ' => d = .bool true ∧ σ' = σ) X := by
  refine Cal.drop (X := X) (X' := noX) ?_ (fun z9a z9b z9c h => h.elim)
  refine FnAt.enter T (fn245 _) (by kernel_rfl) ["proof", "rule", "clause", "premises"] (by lia) (bind4 fun z9a z9b z9c z9d => by rfl) (by kernel_rfl) rfl (by kernel_rfl) fun C' T' KN hr' hw hF => ?_
  have lenS : (ss.map Stp.val).length = ss.length := by simp
  refine Ex.cons (Ex1.assign (evT1 T' KN (evSteps T'.K (nmL KN (by rfl) (by rfl) (psI P (Cal.listOf P.steps (by lia) fun bf hbf => As.local (KN.at_ _ _ (by rfl)) ?_))))))
  have P1 := P.sub (Sub.new (Sub.refl σ) (o := .list (ss.map Stp.val)) hbf)
  refine Ex.cons (exTry T' KN hF (by rfl) (Ex.cons (Ex1.expr (evM 161 T' (nmL KN (by rfl) (by rfl) (psI P1 (Evs.four (nmL KN (by rfl) (by rfl) (nmL KN (by rfl) (by rfl) (nmL KN (by rfl) (by rfl) (Ev.int ?_)))) (fun z9a => by rfl) (fun z9a => by rfl) (fun z9a => by rfl) (fun z9a => by rfl)))) (starS (fun z9a => by rfl) (starS (fun z9a => by rfl) (starS (fun z9a => by rfl) (star1 fun z9a => by rfl))))))))
  refine (add_spec T' (by lia) P1 (by lia) hrl hrf hc hps hpb fun z9a => ⟨rfl, ?hx⟩).mono (fun d σ' hd => ?hn) fun z9a z9b z9c z => z
  case hx =>
    intro ev
    have KNh := KN.hand (e := ev)
    refine Ex.cons (Ex1.ret (Ev.cmp (evSteps (C := C'.hand ev) T'.K (nmL KNh (by rfl) (by rfl) (psI P1 (nmL KNh (by rfl) (by rfl) (Bin.eqList P1.steps (Store.set_same _ _ _) fits_stps fits_stps ?_)))))))
    rw [eqv_same fits_stps]
    exact ⟨σ, Sub.new (Sub.refl _) hbf, rfl, rfl⟩
  case hn => rw [lenS] at hd; rw [hno] at hd; exact absurd hd.1 (by simp)
end Mine
set_option tactic.hygienic false
namespace Mine
open PySem PySem.W PyProof.Rows PySem.Calls
set_option maxRecDepth 100000
noncomputable def litOn (bs : List Bool) (l : Int) : Bool := bs.getD (l.natAbs - 1) false == decide (0 < l)
noncomputable def holdsB (bs : List Bool) (c : List Int) : Bool := c.any (litOn bs)
noncomputable def onG (bs : List Bool) : Val → Option Val
  | .int l => if litOn bs l then some (.int l) else none
  | _ => none
theorem eqv_bool (a b : Bool) : PyData.eqv (Val.bool a).py (Val.bool b).py = (a == b) := by cases a <;> cases b <;> rfl
theorem on_int {bs : List Bool} {l : Int} : onG bs (.int l) = if litOn bs l then some (.int l) else none := rfl
theorem eqv_nil {c : List Int} : PyData.eqvAll (Val.pys (c.map Val.int)) (Val.pys []) = c.isEmpty := by
  cases c <;> simp [Val.pys, PyData.eqvAll]
noncomputable def fn265 (p : Params) : FnAt p 265 := ⟨_, _, ⟨_, rfl, rfl⟩, rfl⟩
theorem holds_spec {C : Cx} {ρ σ} (T : Tops C) (hr : 2 ≤ C.room) {X : XPost} {aw : Addr} {bs : List Bool} {c : List Int} (hw : σ aw = some (.list (bs.map .bool))) (hc : ∀ l ∈ c, 1 ≤ l.natAbs ∧ l.natAbs ≤ bs.length) (hz : c.length ≤ 400) (hb : bs.length ≤ 10) :
    Cal C ρ σ (.ref 265) [clV c, .ref aw] (fun d σ' => d = .bool (holdsB bs c) ∧ σ' = σ) X := by
  refine Cal.drop (X := X) (X' := noX) ?_ (fun z9a z9b z9c h => h.elim)
  refine FnAt.enter T (fn265 _) (by kernel_rfl) ["clause", "world"] (by lia) (bind2 fun z9a z9b => by rfl) (by kernel_rfl) rfl (by kernel_rfl) fun C' T' KN hr' hw' hF => ?_
  refine Ex.cons (Ex1.ret (Ev.cmp (evCompOf KN T'.quiet (by kernel_rfl) (ItE.of_ev (nmL KN (by rfl) (by rfl) ((ofT ⟨by simp; lia, onG bs, fun z9a C'' hC y hy ρ₃ hcap => ?_, fun a1 ha1 => Ev.list (Evs.nil ⟨by simp, fun a2 ha2 => ?_⟩)⟩)))))))
  · obtain ⟨l, hl, rfl⟩ := List.mem_map.mp hy
    refine tgtName hC (by rfl) hcap fun ρ₄ g1 g2 => ?_
    have KNc := Kn.comp hC
    have Tc := T'.comp hC
    have hwd : ρ₄ "world" = some (.ref aw) := (g2 "world" (by rfl)).trans (by rfl)
    obtain ⟨b1, b2⟩ := hc l hl
    have hat : (bs.map Val.bool)[(((l.natAbs : Int)) - 1).toNat]? = some (.bool (bs.getD (l.natAbs - 1) false)) := by
      rw [pred_toNat, List.getElem?_map, List.getElem?_eq_getElem (by lia)]
      simp [List.getD, List.getElem?_eq_getElem (show l.natAbs - 1 < bs.length by lia)]
    refine Tst.cmp (Ev.sub (nmC KNc (by rfl) hwd (Ev.binop (evB1 Tc KNc (nmL KNc (by rfl) g1 (Cal.abs (Ev.int (Bin.sub ?_))))))))
    rw [abs_nat]
    refine Bin.itemList hw (by lia) (by lia) hat (Ev.cmp (nmL KNc (by rfl) g1 (Ev.int (Bin.gt (Bin.eq (by rfl) (by rfl) ⟨_, rfl, rfl, ?_, fun hq => nmL KNc (by rfl) g1 ⟨rfl, ?_⟩⟩)))))
    · rw [eqv_bool, on_int]
      unfold litOn
      cases bs.getD (l.natAbs - 1) false == decide (0 < l) <;> rfl
    · rw [eqv_bool] at hq
      rw [on_int]
      unfold litOn
      rw [hq]; rfl
  · have e1 : (c.map Val.int).filterMap (onG bs) = (c.filter (litOn bs)).map Val.int := filterMap_ints fun l => rfl
    rw [e1] at ha2 ⊢
    have hne : a1 ≠ a2 := fun q => by subst q; simp at ha2
    refine Bin.neList (xs := (c.filter (litOn bs)).map Val.int) (ys := []) (by rw [Store.set_other _ _ hne, Store.set_same]) (Store.set_same _ _ _) fits_ints (by rfl) ?_
    rw [eqv_nil]
    refine ⟨σ, (Sub.new (Sub.refl _) ha1).new ha2, ?_, rfl⟩
    unfold holdsB
    congr 1
    rw [Bool.eq_iff_iff]
    simp [List.isEmpty_iff, List.filter_eq_nil_iff]
end Mine
set_option tactic.hygienic false
namespace Mine
open PySem PySem.W PyProof.Rows PySem.Calls
set_option maxRecDepth 100000
/-- a comprehension given to a name that is a cell is stored as any value -/
theorem swaps_cell {C : Cx} {ns : List (Str × NameKind)} {y : Str} {py pos : Pos} {elt target iter : Expr} {ifs : List Expr} {scope : Scope} {n : Nat} {lpos : Nat} (KN : Kn C ns) (hy : ns.lookup y = some .cell) :
    swapsWith (.ListComp elt [⟨target, iter, ifs, n⟩] scope pos) (some (.Name y py)) lpos C.env = pure false := by
  show (pure (C.env.blockKind == .function && C.env.kindOf y == some .local && py.line == pos.line && !(scope.names.any fun (n, k) => n == y && (k == .local || k == .cell))) : Sem Bool) = pure false
  rw [KN.at_ _ _ hy]
  have : (some NameKind.cell == some NameKind.local) = false := by decide
  rw [this, Bool.and_false, Bool.false_and, Bool.false_and]
/-- the bit as the program finds it; nothing needs to be known of it -/
noncomputable def bitB (z k : Nat) : Bool := PyData.eqv (Val.int (Builtin.bitAnd ((z : Int).fdiv (2 ^ ((k : Int).toNat))) 1)).py (Val.int 1).py
noncomputable def worldOf (z n : Nat) : List Bool := (List.range n).map (bitB z)
noncomputable def bitG (z : Nat) : Val → Option Val
  | .int k => some (.bool (bitB z k.toNat))
  | _ => none
noncomputable def Val.toI : Val → Int
  | .int l => l
  | _ => 0
theorem toI_ints (c : List Int) : (c.map Val.int).map Val.toI = c := by induction c with
  | nil => rfl
  | cons x c ih => rw [List.map_cons, List.map_cons, ih]; rfl
noncomputable def notG (bs : List Bool) : Val → Option Val
  | .tup xs => if holdsB bs (xs.map Val.toI) then none else some (.tup xs)
  | _ => none
theorem not_cl {bs : List Bool} {c : List Int} : notG bs (clV c) = if holdsB bs c then none else some (clV c) := by
  show (if holdsB bs ((c.map Val.int).map Val.toI) then _ else _) = _
  rw [toI_ints]; rfl
theorem filterMap_not {bs : List Bool} : ∀ {cs : List (List Int)}, (cs.map clV).filterMap (notG bs) = (cs.filter fun c => !holdsB bs c).map clV
  | [] => rfl
  | c :: cs => by
    rw [List.map_cons, List.filterMap_cons, not_cl, filterMap_not, List.filter_cons]
    cases holdsB bs c <;> rfl
theorem filterMap_bits {z : Nat} : ∀ {l : List Nat}, (l.map fun (k : Nat) => Val.int (k : Int)).filterMap (bitG z) = (l.map (bitB z)).map .bool
  | [] => rfl
  | k :: l => by rw [List.map_cons, List.filterMap_cons]; show _ :: _ = _; rw [filterMap_bits]; rfl
theorem worldOf_len (z n : Nat) : (worldOf z n).length = n := by simp [worldOf]
theorem fits_cls {cs : List (List Int)} : Val.fits 8 (cs.map clV) = true := by
  rw [Val.fits_all, List.all_map]
  exact List.all_eq_true.mpr fun c z9a => fit_clV
theorem eqv_nil' {xs : List Val} : PyData.eqvAll (Val.pys xs) (Val.pys []) = xs.isEmpty := by
  cases xs <;> simp [Val.pys, PyData.eqvAll]
noncomputable def fn270 (p : Params) : FnAt p 270 := ⟨_, _, ⟨_, rfl, rfl⟩, rfl⟩
theorem follows_spec {C : Cx} {ρ σ} (T : Tops C) (hr : 6 ≤ C.room) {X : XPost} {a : Addr} {cs : List (List Int)} {c : List Int} {n : Nat} (ha : σ a = some (.list (cs.map clV))) (hn : n ≤ 4) (hz : cs.length ≤ 900)
    (hcs : ∀ d ∈ cs, (∀ l ∈ d, 1 ≤ l.natAbs ∧ l.natAbs ≤ n) ∧ d.length ≤ 400) (hc : (∀ l ∈ c, 1 ≤ l.natAbs ∧ l.natAbs ≤ n) ∧ c.length ≤ 400) (hs : ∀ bs : List Bool, bs.length = n → (∀ d ∈ cs, holdsB bs d = true) → holdsB bs c = true) :
    Cal C ρ σ (.ref 270) [clV c, .ref a, .int (n : Int)] (fun d σ' => d = .bool true ∧ σ' = σ) X := by
  refine Cal.drop (X := X) (X' := noX) ?_ (fun z9a z9b z9c h => h.elim)
  refine FnAt.enter T (fn270 _) (by kernel_rfl) ["clause", "some", "n"] (by lia) (bind3 fun z9a z9b z9c => by rfl) (by kernel_rfl) rfl (by kernel_rfl) fun C' T' KN hr' hw hF => ?_
  refine Ex.lq ?_; intro Q₀
  have hp : (2 : Int) ^ (n : Int).toNat = ((2 ^ n : Nat) : Int) := by simp
  have hp16 : 2 ^ n ≤ 16 := Nat.pow_le_pow_right (n := 2) (j := 4) (by decide) hn
  refine Ex.cons (Ex1.for T'.quiet (.inl hF) (ItE.range1 (nmT T' KN (by rfl) (by kernel_rfl) (by rfl) (callI (.typ _) Keeps.type (Evs.one (Ev.binop (Ev.int (nmL KN (by rfl) (by rfl) (Bin.pow (by lia) ?_ ⟨rfl, _, rfl, ?_, ?_, ?_⟩)))) fun z9a => by rfl))) (star1 fun z9a => by rfl)))
  · have e2 : Builtin.Int.intBits 2 = 2 := by decide +kernel
    rw [e2]; lia
  · have h0 : (0 : Int) ≤ ((2 ^ n : Nat) : Int) := Int.natCast_nonneg _; have h1 : ((2 ^ n : Nat) : Int) ≤ 16 := by exact_mod_cast hp16
    rw [hp]; lia
  · have h0 : (0 : Int) ≤ ((2 ^ n : Nat) : Int) := Int.natCast_nonneg _; have h1 : ((2 ^ n : Nat) : Int) ≤ 16 := by exact_mod_cast hp16
    rw [hp]; lia
  rw [hp]
  refine forI (fun i ρ₂ σ₂ => Ag ["number", "world"] ρ₂ _ ∧ Sub σ σ₂) ⟨Ag.refl, Sub.refl _⟩ ?_ ?_
  · intro J₀ Q₁; rintro i y ρ₂ σ₂ hy ⟨hag, hsub⟩ hkeep
    obtain ⟨hi, rfl⟩ := rangeL_at hy
    refine As.cell (KN.at_ _ _ (by rfl)) ?_
    have ag := hag.set (x := "number") (v := .int (i : Int)) (by simp)
    refine Ex.cons (Ex1.assign (evCompOf KN T'.quiet (by kernel_rfl) (ItE.range1 (nmT T' KN (by rfl) (by kernel_rfl) (by rfl) (callI (.typ _) Keeps.type (Evs.one (nmL KN (by rfl) (ag.to (by decide) (by rfl)) (rg1I (by lia) (by lia) ⟨by rw [rangeL_len]; lia, bitG i, fun z9a C'' hC y hy ρ₃ hcap => ?_, fun aw haw => ?_⟩)) fun z9a => by rfl))) (star1 fun z9a => by rfl))) (hs := swaps_cell (lpos := 0) KN (by rfl)))
    · obtain ⟨j, hj⟩ := List.getElem?_of_mem hy
      obtain ⟨hjn, rfl⟩ := rangeL_at hj
      have KNc := Kn.comp hC
      refine tgtName hC (by rfl) hcap fun ρ₄ g1 g2 => ?_
      have hnum : ρ₄ "number" = some (.int (i : Int)) := (g2 "number" (by rfl)).trans (by rfl)
      exact ⟨rfl, rfl, fun z9a => Ev.cmp (Ev.binop (Ev.binop (nmC KNc (by rfl) hnum (nmL KNc (by rfl) g1 (Bin.rshift (by lia) (Ev.int (Bin.bitand (Ev.int (Bin.eq (by rfl) (by rfl) ⟨rfl, rfl⟩)))))))))⟩
    · refine As.cell (KN.at_ _ _ (by rfl)) ?_
      have hbits : (rangeL 0 (n : Int) 1).filterMap (bitG i) = (worldOf i n).map .bool := by rw [rangeL_up]; exact filterMap_bits
      rw [hbits]
      have hwl := worldOf_len i n
      revert hwl; refine genE (worldOf i n) ?_; intro bs hbs; set_option tactic.hygienic false in intros
      have hwd : (σ₂.set aw (.list (bs.map .bool))) aw = some (.list (bs.map .bool)) := Store.set_same _ _ _
      have S2 : Sub σ (σ₂.set aw (.list (bs.map .bool))) := hsub.new haw
      have ag2 := ag.set (x := "world") (v := .ref aw) (by simp)
      revert hwd S2; refine genE (σ₂.set aw (.list (bs.map .bool))) ?_; intro σ₃ hσ₃; set_option tactic.hygienic false in intros
      refine Ex.cons (Ex1.ite (Tst.boolop (Tsts.and_cons (Tst.cmp (evCompOf KN T'.quiet (by kernel_rfl) (ItE.of_ev (nmL KN (by rfl) (ag2.to (by decide) (by rfl)) (.inl ⟨a, _, rfl, S2 _ _ ha, by simp; lia, notG bs, fun z9a C'' hC y hy ρ₃ hcap => ?_, fun a1 ha1 => Ev.list (Evs.nil ⟨by simp, fun a2 ha2 => ?_⟩)⟩))))))))
      · obtain ⟨c₁, hc₁, rfl⟩ := List.mem_map.mp hy
        have KNc := Kn.comp hC
        have Tc := T'.comp hC
        refine tgtName hC (by rfl) hcap fun ρ₄ g1 g2 => ?_
        have hw4 : ρ₄ "world" = some (.ref aw) := (g2 "world" (by rfl)).trans (by rfl)
        have hcr := hC.room
        refine Tst.not (Tst.val (evF2 265 Tc KNc (nmL KNc (by rfl) g1 (nmC KNc (by rfl) hw4 ((holds_spec Tc (by lia) hwd (by rw [hwl]; exact (hcs _ hc₁).1) (hcs _ hc₁).2 (by lia)).mono (fun d σ' hd => ?_) fun z9a z9b z9c z => z)))))
        obtain ⟨rfl, rfl⟩ := hd
        rw [not_cl]
        refine ⟨_, Tru.bool, rfl, ?_, fun hq => nmL KNc (by rfl) g1 ⟨rfl, ?_⟩⟩
        · cases holdsB bs c₁ <;> rfl
        · have : holdsB bs c₁ = false := by simpa using hq
          rw [this]; rfl
      · rw [filterMap_not] at ha2 ⊢
        have hne : a1 ≠ a2 := fun q => by subst q; simp at ha2
        refine Bin.eqList (xs := (cs.filter fun c => !holdsB bs c).map clV) (ys := []) (by rw [Store.set_other _ _ hne, Store.set_same]) (Store.set_same _ _ _) fits_cls (by rfl) ?_
        rw [eqv_nil']
        have S4 := ((Sub.refl σ₃).new (o := .list ((cs.filter fun c => !holdsB bs c).map clV)) ha1).new (o := .list []) ha2
        revert S4; refine genE ((σ₃.set a1 (.list ((cs.filter fun c => !holdsB bs c).map clV))).set a2 (.list [])) ?_; intro σ₄ hσ₄; set_option tactic.hygienic false in intros
        have nxt : ∀ {ρ₅ σ₅}, ρ₅ = (ρ₂.set "number" (.int (i : Int))).set "world" (.ref aw) → Sub σ σ₅ → Keep1 none (rangeL 0 ((2 ^ n : Nat) : Int) 1) σ₅ ∧ Ag ["number", "world"] ρ₅ _ ∧ Sub σ σ₅ := fun e h => ⟨fun a q => (nomatch q), e ▸ ag2, h⟩
        refine (brB (fun hb => Tsts.and_cons (Tst.not (Tst.val (evF2 265 T' KN (nmL KN (by rfl) (ag2.to (by decide) (by rfl)) (nmC KN (by rfl) (by rfl) ((holds_spec T' (by lia) (S4 _ _ hwd) (by rw [hwl]; exact hc.1) hc.2 (by lia)).mono (fun d σ' hd => ?_) fun z9a z9b z9c z => z))))))) (fun hb => ⟨(fun q => nomatch q), fun z9a => Ex.nil (Ex.nil (nxt rfl (S2.trans S4)))⟩))
        obtain ⟨rfl, rfl⟩ := hd
        have hall : ∀ d ∈ cs, holdsB bs d = true := fun d hd => by
          have h0 : (cs.filter fun c => !holdsB bs c) = [] := by simpa [List.isEmpty_iff] using hb
          have := List.filter_eq_nil_iff.mp h0 d hd
          simpa using this
        rw [hs bs hwl hall]
        exact ⟨_, Tru.bool, fun q => (nomatch q), fun z9a => ⟨(fun q => nomatch q), fun z9a => Ex.nil (Ex.nil (nxt rfl (S2.trans S4)))⟩⟩
  · rintro ρ₂ σ₂ ⟨hag, hsub⟩ hkeep
    exact Ex.cons (Ex1.ret (Ev.bool ⟨σ, hsub, rfl, rfl⟩))
end Mine
set_option tactic.hygienic false
namespace Mine
open PySem PySem.W PyProof.Rows PySem.Calls
set_option maxRecDepth 100000
/-- a step under new numbers -/
noncomputable def renum (ks : List Nat) (s : Stp) : Stp := { s with prem := s.prem.map fun p => ks.idxOf p }
noncomputable def trimS (ss : List Stp) (ks ls : List Nat) : List Stp := ls.filterMap fun k => (ss[k]?).map (renum ks)
theorem trimS_len {ss : List Stp} {ks ls : List Nat} (h : ∀ k ∈ ls, k < ss.length) : (trimS ss ks ls).length = ls.length := by
  induction ls with
  | nil => rfl
  | cons k ls ih =>
    unfold trimS at ih ⊢
    rw [List.filterMap_cons, List.getElem?_eq_getElem (h k List.mem_cons_self)]
    simp [ih fun j hj => h j (List.mem_cons_of_mem _ hj)]
theorem trimS_take {ss : List Stp} {ks ls : List Nat} {i k : Nat} {s : Stp} (hk : ls[i]? = some k) (hs : ss[k]? = some s) : trimS ss ks (ls.take (i + 1)) = trimS ss ks (ls.take i) ++ [renum ks s] := by
  unfold trimS
  rw [List.take_add_one, hk, List.filterMap_append]
  simp [hs]
theorem idxOf_at {l : List Nat} (hn : l.Nodup) {j k : Nat} (h : l[j]? = some k) : l.idxOf k = j := by
  obtain ⟨hj, rfl⟩ := List.getElem?_eq_some_iff.mp h
  exact hn.idxOf_getElem j hj
theorem range1_at {n i : Nat} {x : Val} (h : (rangeL 1 ((n : Int) + 1) 1)[i]? = some x) : i < n ∧ x = .int ((i : Int) + 1) := by
  unfold rangeL at h
  rw [rangeSize_up] at h
  have e : (if (1 : Int) < (n : Int) + 1 then (n : Int) + 1 - 1 else 0).toNat = n := by split <;> lia
  rw [e] at h
  have hi : i < n := by have := (List.getElem?_eq_some_iff.mp h).1; simpa using this
  refine ⟨hi, ?_⟩
  rw [List.getElem?_map, List.getElem?_range hi] at h
  simp only [Option.map_some, Option.some.injEq] at h
  rw [← h]; congr 1; lia
theorem range1_len {n : Nat} : (rangeL 1 ((n : Int) + 1) 1).length = n := by
  unfold rangeL
  rw [rangeSize_up, List.length_map, List.length_range]
  split <;> lia
theorem PAt.reName {σ : Store} {x dd as am : Addr} {steps names names' : List Val} {e : Int} (P : PAt σ x dd as am steps names e) : PAt (σ.set am (.list names')) x dd as am steps names' e := by
  have n1 : x ≠ am := fun q => by have h1 := P.obj; rw [q, P.names] at h1; cases h1
  have n2 : dd ≠ am := fun q => by have h1 := P.dict; rw [q, P.names] at h1; cases h1
  exact ⟨by rw [Store.set_other _ _ n1]; exact P.obj, by rw [Store.set_other _ _ n2]; exact P.dict, by rw [Store.set_other _ _ P.ne]; exact P.steps, Store.set_same _ _ _, P.ne⟩
theorem PAt.put {σ : Store} {x dd as am b : Addr} {steps names : List Val} {e : Int} {o : MObj} (P : PAt σ x dd as am steps names e) (h1 : b ≠ x) (h2 : b ≠ dd) (h3 : b ≠ as) (h4 : b ≠ am) : PAt (σ.set b o) x dd as am steps names e :=
  ⟨by rw [Store.set_other _ _ (Ne.symm h1)]; exact P.obj, by rw [Store.set_other _ _ (Ne.symm h2)]; exact P.dict, by rw [Store.set_other _ _ (Ne.symm h3)]; exact P.steps, by rw [Store.set_other _ _ (Ne.symm h4)]; exact P.names, P.ne⟩
theorem Ag.mono {l l' : List Str} {ρ ρ₀ : Vars} (h : Ag l ρ ρ₀) (hl : ∀ x ∈ l, x ∈ l') : Ag l' ρ ρ₀ := fun y hy => h y fun q => hy (hl y q)
noncomputable def StpOk (ss : List Stp) : Prop := ∀ (k : Nat) (s : Stp), ss[k]? = some s → tidyB s.cl = true ∧ s.cl.length ≤ 4 ∧ s.prem.length ≤ 100
noncomputable def fn192 (p : Params) : FnAt p 192 := ⟨_, _, ⟨_, rfl, rfl⟩, rfl⟩
theorem trimmed_spec {C : Cx} {ρ σ} (T : Tops C) (hr : 12 ≤ C.room) {X : XPost} {x dd as am : Addr} {ss : List Stp} {ts : List Int} {e : Int} (P : PAt σ x dd as am (ss.map Stp.val) ((0 :: ts).map .int) e) (hz : ss.length ≤ 60) (hts : ts.length ≤ 60) (hd : Down (prOf ss)) (hok : StpOk ss) {last : Nat} (hl : last < ss.length) :
    Cal C ρ σ (.ref 192) [.ref x, .int (last : Int)] (fun d σ' => X5 fun x' dd' as' am' e' => A3 (d = .ref x') (PAt σ' x' dd' as' am' ((trimS ss (kept (prOf ss) last) (kept (prOf ss) last)).map Stp.val) ((0 :: ts).map .int) e') (Sub σ σ')) X := by
  refine Cal.drop (X := X) (X' := noX) ?_ (fun z9a z9b z9c h => h.elim)
  refine FnAt.enter T (fn192 _) (by kernel_rfl) ["self", "last"] (by lia) (bind2 fun z9a z9b => by rfl) (by kernel_rfl) rfl (by kernel_rfl) fun C' T' KN hr' hw hF => ?_
  refine Ex.lq ?_; intro Q₀
  refine Ex.cons (Ex1.assign (Ev.tuple (Evs.two (evF (a := 219) T' KN (by rfl) (by kernel_rfl) (by kernel_rfl) (Evs.nil ((proof_spec T' (by lia)).mono (fun d σ' hd' => ?_) fun z9a z9b z9c z => z)) star0) (fun z9a => by rfl) (fun z9a => by rfl))) (hw := swapped_none2 (.inr (by rw [KN.at_ _ _ (by rfl)]; simp))))
  obtain ⟨x', dd', as', am', rfl, hx', hdd', has', ham', P', hfr⟩ := hd'
  have S1 : Sub σ σ' := fun a o h => by
    rw [hfr a (fun q => by subst q; rw [hx'] at h; cases h) (fun q => by subst q; rw [hdd'] at h; cases h) (fun q => by subst q; rw [has'] at h; cases h) (fun q => by subst q; rw [ham'] at h; cases h)]; exact h
  refine evDictI fun kd hkd => ⟨by simp, As.tuple T'.quiet (Ass.cons (As.local (KN.at_ _ _ (by rfl)) (Ass.cons (As.cell (KN.at_ _ _ (by rfl)) (Ass.nil ?_)) (by rfl))) (by rfl)) (by rfl) (by rfl)⟩
  have ne1 : kd ≠ x' := fun q => by subst q; rw [P'.obj] at hkd; cases hkd
  have ne2 : kd ≠ dd' := fun q => by subst q; rw [P'.dict] at hkd; cases hkd
  have ne3 : kd ≠ as' := fun q => by subst q; rw [P'.steps] at hkd; cases hkd
  have ne4 : kd ≠ am' := fun q => by subst q; rw [P'.names] at hkd; cases hkd
  have hkd0 := S1.none hkd
  have S2 : Sub σ (σ'.set kd (.idict [])) := S1.new hkd
  have P2 := P'.sub ((Sub.refl σ').new (o := .idict []) hkd)
  have hk2 : (σ'.set kd (.idict [])) kd = some (.idict []) := Store.set_same _ _ _
  revert S2 P2 hk2; refine gen (σ'.set kd (.idict [])) ?_; intro σ₁; set_option tactic.hygienic false in intros
  have lenN : ((0 :: ts).map Val.int).length = ts.length + 1 := by simp
  have hlenN : ∀ {σ₂ : Store} {ρ₂ : Vars} {Q : Val → Store → Prop} {X : XPost} {p1 p2 p3 p4 : Pos}, Sub σ σ₂ → ρ₂ "self" = some (.ref x) → Q (.int ((ts.length : Int) + 1)) σ₂ → Ev C' ρ₂ σ₂ (.Call (.Name "len" p1) [.Attribute (.Name "self" p2) "named" p3] [] p4) Q X := fun h1 h2 q =>
    evB1 T' KN (evNamed T'.K (nmL KN (by rfl) h2 (psI (P.sub h1) (Cal.len (P.sub h1).names (by simp; lia) (by rw [lenN]; exact q)))))
  refine Ex.cons (Ex1.for T'.quiet (.inl hF) (ItE.range2 (nmT T' KN (by rfl) (by kernel_rfl) (by rfl) (callI (.typ _) Keeps.type (Evs.two (Ev.int (hlenN S2 (by rfl) ⟨rfl, _, _, rfl, by lia, by lia, ?_⟩)) (fun z9a => by rfl) fun z9a => by rfl))) (starS (fun z9a => by rfl) (star1 fun z9a => by rfl))))
  refine forI (fun i ρ₂ σ₂ => A4 (Ag ["var"] ρ₂ _) (Sub σ σ₂) (PAt σ₂ x' dd' as' am' [] (((0 :: ts).take (i + 1)).map .int) (-1)) (σ₂ kd = some (.idict []))) ⟨Ag.refl, S2, P2, hk2⟩ ?_ ?_
  · intro J₀ Q₁; rintro i y ρ₂ σ₂ hy ⟨hag, hsub, Pn, hk⟩ hkeep
    obtain ⟨hi, rfl⟩ := range1_at hy
    refine As.local (KN.at_ _ _ (by rfl)) ?_
    have ag := hag.set (x := "var") (v := .int ((i : Int) + 1)) (by simp)
    have hln : (((0 :: ts).take (i + 1)).map Val.int).length = i + 1 := by simp; lia
    have hti : ((0 :: ts).map Val.int)[((i : Int) + 1).toNat]? = some (.int (ts.getD i 0)) := by
      rw [show ((i : Int) + 1).toNat = i + 1 by lia]
      simp [List.getD, List.getElem?_eq_getElem hi]
    refine Ex.cons (Ex1.expr (evM 119 T' (nmL KN (by rfl) (ag.to (by decide) (by rfl)) (psI Pn (Evs.two (nmL KN (by rfl) (by rfl) (Ev.sub (evNamed T'.K (nmL KN (by rfl) (ag.to (by decide) (by rfl)) (psI (P.sub hsub) (nmL KN (by rfl) (by rfl) (Bin.itemList (P.sub hsub).names (by lia) (by lia) hti ?_))))))) (fun z9a => by rfl) (fun z9a => by rfl)))) (starS (fun z9a => by rfl) (star1 fun z9a => by rfl))))
    have key := name_spec (ρ := ρ₂.set "var" (.int ((i : Int) + 1))) (X := noX) T' (by lia) Pn (by lia) (t := ts.getD i 0)
    rw [hln] at key
    refine key.mono (fun d σ'' hd' => ?_) fun z9a z9b z9c z => z
    obtain ⟨rfl, rfl⟩ := hd'
    refine Ex.nil ⟨fun a q => (nomatch q), ag, hsub.put ham', ?_, by rw [Store.set_other _ _ ne4]; exact hk⟩
    have e1 : ((0 :: ts).take (i + 1 + 1)).map Val.int = ((0 :: ts).take (i + 1)).map Val.int ++ [Val.int (ts.getD i 0)] := by
      rw [List.take_add_one (i := i + 1), List.map_append]
      simp [List.getD, List.getElem?_eq_getElem hi]
    rw [e1]
    exact Pn.reName
  · rintro ρ₂ σ₂ ⟨hag, hsub, Pn, hk⟩ hkeep
    rw [range1_len, List.take_of_length_le (by simp)] at Pn
    refine Ex.cons (Ex1.for T'.quiet (.inl hF) (ItE.of_ev (evM 187 T' (nmL KN (by rfl) (hag.to (by decide) (by rfl)) (psI (P.sub hsub) (Evs.one (nmL KN (by rfl) (hag.to (by decide) (by rfl)) ((needed_spec T' (by lia) (P.sub hsub) hz hd hl).mono (fun d σ' hd' => ?_) fun z9a z9b z9c z => z)) fun z9a => by rfl))) (star1 fun z9a => by rfl))))
    obtain ⟨an, han, rfl, rfl⟩ := hd'
    have hself : ρ₂ "self" = some (.ref x) := hag.to (by decide) (by rfl)
    have hfound : ρ₂ "found" = some (.ref x') := hag.to (by decide) (by rfl)
    have hplaces : ρ₂ "places" = some (.ref kd) := hag.to (by decide) (by rfl)
    refine genE (kept (prOf ss) last) ?_; intro ks hks
    have na1 : an ≠ as' := fun q => by subst q; rw [Pn.steps] at han; cases han
    have na2 : an ≠ dd' := fun q => by subst q; rw [Pn.dict] at han; cases han
    have na3 : an ≠ kd := fun q => by subst q; rw [hk] at han; cases han
    have S3 := hsub.new (o := .list ((ks.map fun (n : Nat) => (n : Int)).map .int)) han
    have hnd : ks.Nodup := by rw [← hks]; exact kept_sorted.imp fun h => by lia
    have hkm : ∀ k ∈ ks, k < ss.length := fun k hk => by rw [← hks] at hk; have := kept_le hk; lia
    have hkl : ks.length ≤ 60 := by rw [← hks]; have := kept_len (pr := prOf ss) (last := last); lia
    refine ofL (Store.set_same _ _ _) (forI (fun i ρ₃ σ₃ => A3 (Ag ["var", "number", "rule", "clause", "premises", "note"] ρ₃ ρ₂) (Sub σ σ₃) (X2 fun kvs e' => A4 (PAt σ₃ x' dd' as' am' ((trimS ss ks (ks.take i)).map Stp.val) ((0 :: ts).map .int) e') (σ₃ kd = some (.idict kvs)) ((∀ k ∈ ks.take i, kvAt kvs (k : Int) = some (.int ((ks.idxOf k : Nat) : Int)))) (kvs.length ≤ i))) ⟨Ag.refl, S3, [], -1, by simpa [trimS] using Pn.sub ((Sub.refl _).new han), by rw [Store.set_other _ _ (Ne.symm na3)]; exact hk, by simp, by simp⟩ ?_ ?_)
    · intro J₀ Q₁; rintro i y ρ₃ σ₃ hy ⟨hag3, hsub3, kvs, e', Pt, hk3, hK, hkvl⟩ hkeep3
      obtain ⟨k, hki, rfl⟩ := nats_at hy
      have hkk : k ∈ ks := List.mem_of_getElem? hki
      have hkl2 := hkm k hkk
      obtain ⟨s, hs⟩ : ∃ s, ss[k]? = some s := ⟨_, List.getElem?_eq_getElem hkl2⟩
      have hpr := prOf_at hs
      obtain ⟨o1, o2, o3⟩ := hok k s hs
      have hil : i < ks.length := (List.getElem?_eq_some_iff.mp hki).1
      have hpm : ∀ p ∈ s.prem, p ∈ ks.take i := fun p hp => by
        subst hks
        exact kept_take hki (kept_closed hd hkk (by rw [hpr]; exact hp)) (hd k p (by rw [hpr]; exact hp))
      have Pk := P.sub hsub3
      refine As.local (KN.at_ _ _ (by rfl)) ?_
      have hat : (ss.map Stp.val)[((k : Int)).toNat]? = some s.val := by rw [Int.toNat_natCast]; exact steps_at hs
      refine Ex.cons (Ex1.assign (Ev.sub (evSteps T'.K (nmL KN (by rfl) ((hag3.set (by simp)).to (by decide) hself) (psI Pk (nmL KN (by rfl) (by rfl) (Bin.itemList Pk.steps (by lia) (by lia) hat ?_)))))))
      refine As.tuple T'.quiet (Ass.cons (As.local (KN.at_ _ _ (by rfl)) (Ass.cons (As.local (KN.at_ _ _ (by rfl)) (Ass.cons (As.local (KN.at_ _ _ (by rfl)) (Ass.cons (As.local (KN.at_ _ _ (by rfl)) (Ass.nil ?_)) (by rfl))) (by rfl))) (by rfl))) (by rfl)) (by rfl) (by rfl)
      have ag := ((((hag3.set (x := "number") (v := .int (k : Int)) (by simp)).set (x := "rule") (v := .str (ruleS s.res)) (by simp)).set (x := "clause") (v := clV s.cl) (by simp)).set (x := "premises") (v := natsV s.prem) (by simp)).set (x := "note") (v := s.note) (by simp)
      have hplen : ((s.prem.map fun (n : Nat) => (n : Int)).map Val.int).length = s.prem.length := by simp
      have htl : ((trimS ss ks (ks.take i)).map Stp.val).length = i := by
        rw [List.length_map, trimS_len fun j hj => hkm j (List.mem_of_mem_take hj), List.length_take]; lia
      have hidx : ∀ p ∈ ks.take i, ks.idxOf p < i := fun p hp => by
        obtain ⟨j, hj, e⟩ := List.mem_iff_getElem.mp hp
        rw [List.getElem_take] at e
        rw [List.length_take] at hj
        have := idxOf_at hnd (j := j) (k := p) (by rw [List.getElem?_eq_getElem (by lia), e])
        lia
      refine Ex.cons (Ex1.assign (evM 161 T' (nmL KN (by rfl) (ag.to (by decide) hfound) (psI Pt (Evs.four (nmL KN (by rfl) (by rfl) (nmL KN (by rfl) (by rfl) (evT1 T' KN (evCompOf KN T'.quiet (by kernel_rfl) (ItE.of_ev (nmL KN (by rfl) (by rfl) ((ofT ⟨by rw [hplen]; lia, lookG kvs, fun z9a C'' hC y hy ρ₄ hcap => ?_, fun a1 ha1 => ?_⟩)))))))) (fun z9a => by rfl) (fun z9a => by rfl) (fun z9a => by rfl) (fun z9a => by rfl)))) (starS (fun z9a => by rfl) (starS (fun z9a => by rfl) (starS (fun z9a => by rfl) (star1 fun z9a => by rfl))))))
      · obtain ⟨p', hp', rfl⟩ := List.mem_map.mp hy
        obtain ⟨p, hp, rfl⟩ := List.mem_map.mp hp'
        refine tgtName hC (by rfl) hcap fun ρ₅ h1 h2 => ?_
        have KNc := Kn.comp hC
        have hht : ρ₅ "places" = some (.ref kd) := (h2 "places" (by rfl)).trans (ag.to (by decide) hplaces)
        have g := hK p (hpm p hp)
        have e0 : lookG kvs (.int (p : Int)) = some (.int ((ks.idxOf p : Nat) : Int)) := g
        rw [e0]
        exact ⟨rfl, rfl, fun z9a => Ev.sub (nmC KNc (by rfl) hht (nmL KNc (by rfl) h1 (Bin.itemIdict hk3 g ⟨rfl, rfl⟩)))⟩
      · rw [look_nats (h := fun p => ((ks.idxOf p : Nat) : Int)) fun p hp => hK p (hpm p hp)]
        have ha1a : as' ≠ a1 := fun q => by subst q; rw [Pt.steps] at ha1; cases ha1
        have ha1d : dd' ≠ a1 := fun q => by subst q; rw [Pt.dict] at ha1; cases ha1
        have S4 := (Sub.refl σ₃).new (o := .list ((s.prem.map fun p => ((ks.idxOf p : Nat) : Int)).map .int)) ha1
        refine Cal.tupleOf (Store.set_same _ _ _) (by simp; lia) (nmL KN (by rfl) (by rfl) ?_)
        have hrf : PyData.strOk (ruleS s.res) = true := by cases s.res <;> simp [ruleS] <;> decide +kernel
        have hrl : (ruleS s.res).length ≤ 100 := by cases s.res <;> decide
        have hrn : ruleNames.contains (ruleS s.res) = true := by cases s.res <;> decide
        have hadd : addOk (ruleS s.res) s.cl (s.prem.map fun p => ((ks.idxOf p : Nat) : Int)) ((trimS ss ks (ks.take i)).map Stp.val).length = true := by
          unfold addOk
          rw [hrn, o1, htl, Bool.true_and, Bool.true_and]
          refine List.all_eq_true.mpr fun z hz => ?_
          obtain ⟨p, hp, rfl⟩ := List.mem_map.mp hz
          have := hidx p (hpm p hp)
          simp; lia
        refine (add_spec (note := s.note) T' (by lia) (Pt.sub S4) (by rw [htl]; lia) hrl hrf (by lia) (by simp; lia) (fun z hz => ?_) (fun q => by rw [hadd] at q; cases q)).mono (fun d σ'' hd' => ?_) fun z9a z9b z9c z => z
        · obtain ⟨p, hp, rfl⟩ := List.mem_map.mp hz
          have := hidx p (hpm p hp)
          lia
        obtain ⟨_, rfl, Pa, hfr2⟩ := hd'
        rw [htl] at Pa ⊢
        have hk4 : σ'' kd = some (.idict kvs) := by rw [hfr2 kd ne3 ne2, S4 _ _ hk3]
        refine As.item' (nmC KN (by rfl) (ag.to (by decide) hplaces) (nmL KN (by rfl) (by rfl) (Sti.idict hk4 (by lia) (Ex.nil ?_))))
        have hs4 : Sub σ σ'' := fun a o h => by
          rw [hfr2 a (fun q => by subst q; rw [has'] at h; cases h) (fun q => by subst q; rw [hdd'] at h; cases h)]
          exact S4 _ _ (hsub3 _ _ h)
        refine ⟨fun a q => ?_, ag, hs4.put hkd0, kvSet kvs (k : Int) (.int (i : Int)), emptyAfter s.cl e' i, ?_, Store.set_same _ _ _, fun j hj => ?_, ?_⟩
        · cases q
          rw [Store.set_other _ _ na3, hfr2 an na1 na2]
          exact S4 _ _ (hkeep3 _ rfl)
        · have := Pa.put (o := .idict (kvSet kvs (k : Int) (.int (i : Int)))) (b := kd) ne1 ne2 ne3 ne4
          have e5 : (trimS ss ks (ks.take (i + 1))).map Stp.val = (trimS ss ks (ks.take i)).map Stp.val ++ [.tup [.str (ruleS s.res), clV s.cl, clV (s.prem.map fun p => ((ks.idxOf p : Nat) : Int)), s.note]] := by
            rw [trimS_take hki hs, List.map_append]
            congr 1
            show [Val.tup _] = _
            simp only [renum, natsV, List.map_map, Stp.note]
            rfl
          rw [e5]; exact this
        · rw [kvAt_set]
          rcases (take_mem hki).mp hj with h | rfl
          · have hjk : ¬ ((j : Int) = (k : Int)) := by
              subst hks
              have := take_lt hki h; lia
            rw [if_neg hjk]; exact hK j h
          · rw [if_pos rfl, idxOf_at hnd hki]
        · have : (kvSet kvs (k : Int) (.int (i : Int))).length ≤ kvs.length + 1 := by unfold kvSet; split <;> simp
          lia
    · rintro ρ₃ σ₃ ⟨hag3, hsub3, kvs, e', Pt, hk3, hK, hkvl⟩ hkeep3
      rw [List.length_map, List.length_map, List.take_length] at Pt
      exact Ex.cons (Ex1.ret (nmL KN (by rfl) (hag3.to (by decide) hfound) ⟨σ₃, Sub.refl _, x', dd', as', am', e', rfl, by rw [hks]; exact Pt, hsub3⟩))
end Mine
set_option tactic.hygienic false
namespace Mine
open PySem PySem.W PyProof.Rows PySem.Calls
set_option maxRecDepth 100000
noncomputable def fn199 (p : Params) : FnAt p 199 := ⟨_, _, ⟨_, rfl, rfl⟩, rfl⟩
theorem trim_spec {C : Cx} {ρ σ} (T : Tops C) (hr : 14 ≤ C.room) {X : XPost} {x dd as am : Addr} {ss : List Stp} {ts : List Int} {e : Int} (P : PAt σ x dd as am (ss.map Stp.val) ((0 :: ts).map .int) e) (hz : ss.length ≤ 60) (hts : ts.length ≤ 60) (hd : Down (prOf ss)) (hok : StpOk ss)
    (he : 0 ≤ e → ∃ last : Nat, e = (last : Int) ∧ last < ss.length) (hX : e < 0 → X 69 ρ σ) :
    Cal C ρ σ (.ref 199) [.ref x] (fun d σ' => ∃ last : Nat, A3 (e = (last : Int)) (last < ss.length) (X5 fun x' dd' as' am' e' => A3 (d = .ref x') (PAt σ' x' dd' as' am' ((trimS ss (kept (prOf ss) last) (kept (prOf ss) last)).map Stp.val) ((0 :: ts).map .int) e') (Sub σ σ'))) X := by
  refine FnAt.enter T (fn199 _) (by kernel_rfl) ["self"] (by lia) (bind1 fun z9a => by rfl) (by kernel_rfl) rfl (by kernel_rfl) fun C' T' KN hr' hw hF => ?_
  refine Ex.lq ?_; intro Q₀
  refine Ex.cons (Ex1.ite (Tst.cmp (evEmpty T'.K (nmL KN (by rfl) (by rfl) (psI P (Ev.int (Bin.lt (brB (fun h => ?_) (fun h => ?_)))))))))
  · exact Ex.cons (exRaise T' KN (by rfl) (by lia) (Evs.two (Ev.str (Ev.unop (Ev.int (Una.neg ⟨rfl, hX (of_decide_eq_true h)⟩)))) (fun z9a => by rfl) (fun z9a => by rfl)) (starS (fun z9a => by rfl) (star1 fun z9a => by rfl)))
  · have h0 : 0 ≤ e := by have := of_decide_eq_false h; lia
    obtain ⟨last, rfl, hl⟩ := he h0
    refine Ex.nil (Ex.cons (Ex1.ret (evM 192 T' (nmL KN (by rfl) (by rfl) (psI P (Evs.one (evEmpty T'.K (nmL KN (by rfl) (by rfl) (psI P ?_))) fun z9a => by rfl))) (star1 fun z9a => by rfl))))
    exact (trimmed_spec T' (by lia) P hz hts hd hok hl).mono (fun d σ' h => ⟨last, rfl, hl, h⟩) fun z9a z9b z9c z => z
/-- a store that keeps all but the places told -/
noncomputable def Off (l : List Addr) (σ σ' : Store) : Prop := ∀ b o, b ∉ l → σ b = some o → σ' b = some o
theorem Off.refl {l σ} : Off l σ σ := fun z9a z9b z9c e => e
theorem Off.trans {l σ σ' σ''} (a : Off l σ σ') (b : Off l σ' σ'') : Off l σ σ'' := fun x o h e => b _ _ h (a _ _ h e)
theorem Off.more {l l' σ σ'} (a : Off l σ σ') (h : ∀ x ∈ l, x ∈ l') : Off l' σ σ' := fun x o q e => a x o (fun z => q (h x z)) e
theorem Sub.off {l σ σ'} (h : Sub σ σ') : Off l σ σ' := fun x o z9a e => h x o e
theorem Off.set {l σ σ' a o} (h : Off l σ σ') (ha : a ∈ l) : Off l σ (σ'.set a o) := fun b ob hb e => by
  have : b ≠ a := fun q => hb (q ▸ ha)
  rw [Store.set_other _ _ this]; exact h _ _ hb e
theorem Off.new {l σ σ' a o} (h : Off l σ σ') (ha : σ' a = none) : Off l σ (σ'.set a o) := fun b ob hb e => by
  have h1 := h _ _ hb e
  have : b ≠ a := fun q => by subst q; rw [h1] at ha; cases ha
  rw [Store.set_other _ _ this]; exact h1
theorem Off.put {l σ σ' a o} (h : Off l σ σ') (ha : σ a = none) : Off l σ (σ'.set a o) := fun b ob hb e => by
  have : b ≠ a := fun q => by subst q; rw [ha] at e; cases e
  rw [Store.set_other _ _ this]; exact h _ _ hb e
theorem Tst.mono {C : Cx} {ρ : Vars} {σ : Store} {e : Expr} {B B' : Bool → Store → Prop} {X : XPost} (h : Tst C ρ σ e B X) (hb : ∀ b σ', B b σ' → B' b σ') : Tst C ρ σ e B' X :=
  Tp.mono h (fun _ _ _ _ ⟨a, q⟩ => ⟨a, hb _ _ q⟩) fun z9a z9b z9c x => x
noncomputable def chainC (cs : List (List Int)) : List Int → List (Int × Nat) → Option (List Int)
  | c, [] => some c
  | c, (v, k) :: r => (clashF c (cs.getD k []) v).bind fun c' => chainC cs c' r
theorem chainC_append (cs : List (List Int)) : ∀ (l r : List (Int × Nat)) (c : List Int), chainC cs c (l ++ r) = (chainC cs c l).bind fun c' => chainC cs c' r
  | [], r, c => rfl
  | (v, k) :: l, r, c => by
    rw [List.cons_append, chainC, chainC]
    cases h : clashF c (cs.getD k []) v with
    | none => rfl
    | some c' => exact chainC_append cs l r c'
theorem fits_pairs {l : List (Int × Nat)} : Val.fits 8 (l.map pairV) = true := by
  rw [Val.fits_all, List.all_map]
  exact List.all_eq_true.mpr fun c z9a => rfl
noncomputable def ableG (c : List Int) (k : Nat) : Val → Option Val
  | .int l => if c.contains (-l) then some (.tup [.int (l.natAbs : Int), .int (k : Int)]) else none
  | _ => none
theorem able_int {c : List Int} {k : Nat} {l : Int} : ableG c k (.int l) = if c.contains (-l) then some (.tup [.int (l.natAbs : Int), .int (k : Int)]) else none := rfl
theorem filterMap_able {c : List Int} {k : Nat} : ∀ {ls : List Int}, (ls.map Val.int).filterMap (ableG c k) = ((ls.filter fun l => c.contains (-l)).map fun l => ((l.natAbs : Int), k)).map pairV
  | [] => rfl
  | l :: ls => by
    rw [List.map_cons, List.filterMap_cons, able_int, filterMap_able, List.filter_cons]
    cases c.contains (-l) <;> rfl
theorem clashF_small {c₁ c₂ c : List Int} {v : Int} (h1 : Small c₁) (h2 : Small c₂) (h : clashF c₁ c₂ v = some c) : Small c ∧ c.length ≤ 4 := by
  unfold clashF at h
  split at h
  · refine ⟨ordF_small (fun l hl => ?_) h, ordF_len h⟩
    rcases List.mem_append.mp (List.mem_filter.mp hl).1 with q | q
    · exact h1 l q
    · exact h2 l q
  · cases h
theorem Cal.lenN {C : Cx} {ρ : Vars} {σ : Store} {Q : Val → Store → Prop} {X : XPost} {a : Addr} {xs : List Val} {n : Nat} (ha : σ a = some (.list xs)) (e : xs.length = n) (hz : n ≤ 1000) (h : Q (.int (n : Int)) σ) : Cal C ρ σ (.builtin "len") [.ref a] Q X := by
  subst e; exact Cal.len ha (by lia) h
noncomputable def fn250 (p : Params) : FnAt p 250 := ⟨_, _, ⟨_, rfl, rfl⟩, rfl⟩
theorem pairs_spec {C : Cx} {ρ σ} (T : Tops C) (hr : 10 ≤ C.room) {X : XPost} {af an ac : Addr} {m : Nat} {cs : List (List Int)} {first n : Nat} {c₀ : List Int} (F : FeedAt σ af an m) (hm : m ≤ 10 ^ 5) (hc : σ ac = some (.list (cs.map clV))) (hca : ac ≠ af) (hcs : ∀ c ∈ cs, Small c ∧ c.length ≤ 4) (hcl : cs.length ≤ 20) (hf : cs[first]? = some c₀) (hn : 1 ≤ n ∧ n ≤ 4) :
    Cal C ρ σ (.ref 250) [.ref af, .ref ac, .int (first : Int), .int (n : Int)] (fun d σ' => X2 fun ap prs => A7 (d = .tup [.ref ap, optV (chainC cs c₀ prs)]) (σ ap = none) (σ' ap = some (.list (prs.map pairV))) (prs.length ≤ 3) ((∀ p ∈ prs, 1 ≤ p.1 ∧ p.1 ≤ 4 ∧ p.2 < cs.length)) (FeedAt σ' af an (m + 10)) (Off [af] σ σ')) X := by
  refine Cal.drop (X := X) (X' := noX) ?_ (fun z9a z9b z9c h => h.elim)
  refine FnAt.enter T (fn250 _) (by kernel_rfl) ["feed", "clauses", "first", "n"] (by lia) (bind4 fun z9a z9b z9c z9d => by rfl) (by kernel_rfl) rfl (by kernel_rfl) fun C' T' KN hr' hw hF => ?_
  refine Ex.lq ?_; intro Q₀
  have hf1 : first < cs.length := (List.getElem?_eq_some_iff.mp hf).1
  have lenC : (cs.map clV).length = cs.length := by simp
  obtain ⟨hs0, hl0⟩ := hcs c₀ (List.mem_of_getElem? hf)
  have hat : ∀ k : Nat, k < cs.length → (cs.map clV)[((k : Int)).toNat]? = some (clV (cs.getD k [])) := fun k hk => by
    rw [Int.toNat_natCast, List.getElem?_map, List.getElem?_eq_getElem hk]; simp [List.getD, List.getElem?_eq_getElem hk]
  have hat0 : (cs.map clV)[((first : Int)).toNat]? = some (clV c₀) := by rw [Int.toNat_natCast, List.getElem?_map, hf]; rfl
  have hcd : ∀ k : Nat, k < cs.length → Small (cs.getD k []) ∧ (cs.getD k []).length ≤ 4 := fun k hk => hcs _ (by simp [List.getD, List.getElem?_eq_getElem hk])
  have hdip : ∀ {ρ₂ σ₂ k' many} {Q : Val → Store → Prop} {p1 p2 p4 : Pos} {a : Expr}, FeedAt σ₂ af an k' → k' ≤ 10 ^ 5 + 20 → 0 < many → ρ₂ "feed" = some (.ref af) → (∀ {Q' : Val → Store → Prop}, Q' (.int ((many : Nat) : Int)) σ₂ → Ev C' ρ₂ σ₂ a Q' noX) → Pl C' a → (∀ (v : Nat) σ₃, v < many → FeedAt σ₃ af an (k' + 1) → (∀ b, b ≠ af → σ₃ b = σ₂ b) → Q (.int (v : Int)) σ₃) →
      Ev C' ρ₂ σ₂ (.Call (.Name "_law_dip" p1) [.Name "feed" p2, a] [] p4) Q noX := fun hf hk h0 he ha hpl q =>
    evF2 228 T' KN (nmL KN (by rfl) he (ha ((dip_spec T' (by lia) hf (by lia) h0).mono (fun d σ₃ ⟨v, h1, h2, h3, h4⟩ => by subst h1; exact q v σ₃ h2 h3 h4) fun z9a z9b z9c z => z))) (hb := hpl)
  refine Ex.cons (exAssignSwap T'.quiet (Ev.sub (nmC KN (by rfl) (by rfl) (nmL KN (by rfl) (by rfl) (Bin.itemList hc (by lia) (by lia) hat0 (Ev.list (Evs.nil ⟨by simp, fun ap hap => ?_⟩)))))) (KN.at_ _ _ (by rfl)) (KN.at_ _ _ (by rfl)))
  have Fa : ∀ {b : Addr}, σ b = none → b ≠ af ∧ b ≠ an ∧ b ≠ ac := fun {b} hb => by
    obtain ⟨ns, spot, z1, z2, z3, z4⟩ := F
    exact ⟨fun q => (by rw [q, z2] at hb; cases hb), fun q => (by rw [q, z3] at hb; cases hb), fun q => (by rw [q, hc] at hb; cases hb)⟩
  obtain ⟨na1, na2, na3⟩ := Fa hap
  have F1 : FeedAt (σ.set ap (.list [])) af an m := F.sub (Sub.new (Sub.refl σ) hap)
  have hap1 : (σ.set ap (.list [])) ap = some (.list []) := Store.set_same _ _ _
  have O1 : Off [af] σ (σ.set ap (.list [])) := Off.refl.new hap
  revert F1 hap1 O1; refine gen (σ.set ap (.list [])) ?_; intro σ₁; set_option tactic.hygienic false in intros
  have hafm : ∀ {b : Addr}, b ≠ af → b ∉ [af] := fun h => by simpa using h
  refine Ex.cons (Ex1.for T'.quiet (.inl hF) (ItE.range1 (nmT T' KN (by rfl) (by kernel_rfl) (by rfl) (callI (.typ _) Keeps.type (Evs.one (hdip (many := 4) F1 (by lia) (by decide) (by rfl) (fun q => Ev.int q) (fun z9a => by rfl) fun N σ₂ hN F2 hs2 => (rg1I (by lia) (by lia) ?_)) fun z9a => by rfl))) (star1 fun z9a => by rfl)))
  have O2 : Off [af] σ₁ σ₂ := fun b o hb e => by rw [hs2 b (by simpa using hb)]; exact e
  refine forI (fun i ρ₂ σ₂ => Ag ["lap", "able", "k", "var", "stand"] ρ₂ _ ∧ X2 fun prs c => A9 (ρ₂ "stand" = some (clV c)) (chainC cs c₀ prs = some c) (Small c) (c.length ≤ 4) (prs.length = i) ((∀ p ∈ prs, 1 ≤ p.1 ∧ p.1 ≤ 4 ∧ p.2 < cs.length)) (σ₂ ap = some (.list (prs.map pairV))) (FeedAt σ₂ af an (m + 1 + 3 * i)) (Off [af] σ σ₂)) ⟨Ag.refl, [], c₀, by rfl, rfl, hs0, hl0, rfl, by simp, by rw [hs2 ap na1]; exact hap1, F2, O1.trans O2⟩ ?_ ?_
  · intro J₀ Q₁; rintro i y ρ₂ σ₃ hy ⟨hag, prs, c, hst, hch, hcS, hcL, hpl, hpb, hap3, F3, O3⟩ hkeep
    obtain ⟨hi, rfl⟩ := rangeL_at hy
    refine As.local (KN.at_ _ _ (by rfl)) ?_
    have ag := hag.set (x := "lap") (v := .int (i : Int)) (by simp)
    refine Ex.cons (Ex1.assign (Ev.list (Evs.nil ⟨by simp, fun aa haa => As.local (KN.at_ _ _ (by rfl)) ?_⟩)))
    have ag1 := ag.set (x := "able") (v := .ref aa) (by simp)
    have hst1 : ((ρ₂.set "lap" (.int (i : Int))).set "able" (.ref aa)) "stand" = some (clV c) := hst
    have hab1 : ((ρ₂.set "lap" (.int (i : Int))).set "able" (.ref aa)) "able" = some (.ref aa) := by rfl
    have hfd1 : ((ρ₂.set "lap" (.int (i : Int))).set "able" (.ref aa)) "feed" = some (.ref af) := ag1.to (by decide) (by rfl)
    have hcl1 : ((ρ₂.set "lap" (.int (i : Int))).set "able" (.ref aa)) "clauses" = some (.ref ac) := ag1.to (by decide) (by rfl)
    have hn1 : ((ρ₂.set "lap" (.int (i : Int))).set "able" (.ref aa)) "n" = some (.int (n : Int)) := ag1.to (by decide) (by rfl)
    have hpr1 : ((ρ₂.set "lap" (.int (i : Int))).set "able" (.ref aa)) "pairs" = some (.ref ap) := ag1.to (by decide) (by rfl)
    revert ag1 hst1 hab1 hfd1 hcl1 hn1 hpr1; refine genE ((ρ₂.set "lap" (.int (i : Int))).set "able" (.ref aa)) ?_; intro ρ₃ hρ₃; set_option tactic.hygienic false in intros
    have S3 : Sub σ₃ (σ₃.set aa (.list [])) := (Sub.refl _).new haa
    have haa3 : (σ₃.set aa (.list [])) aa = some (.list []) := Store.set_same _ _ _
    have haf : aa ≠ af := fun q => by obtain ⟨ns, spot, z1, z2, z3, z4⟩ := F3; rw [q, z2] at haa; cases haa
    have hac3 : σ₃ ac = some (.list (cs.map clV)) := O3 _ _ (hafm hca) hc
    revert S3 haa3; refine gen (σ₃.set aa (.list [])) ?_; intro σ₄; set_option tactic.hygienic false in intros
    refine Ex.cons (Ex1.for T'.quiet (.inl hF) (ItE.range1 (nmT T' KN (by rfl) (by kernel_rfl) (by rfl) (callI (.typ _) Keeps.type (Evs.one (evB1 T' KN (nmC KN (by rfl) hcl1 (Cal.lenN (S3 _ _ hac3) lenC (by lia) (rg1I (by lia) (by lia) ?_)))) fun z9a => by rfl))) (star1 fun z9a => by rfl)))
    refine forI (fun j ρ₄ σ₅ => A3 (Ag ["k"] ρ₄ ρ₃) (Sub σ₃ σ₅) (∃ ab : List (Int × Nat), A3 (σ₅ aa = some (.list (ab.map pairV))) (ab.length ≤ 4 * j) (∀ p ∈ ab, 1 ≤ p.1 ∧ p.1 ≤ 4 ∧ p.2 < cs.length))) ⟨Ag.refl, S3, [], haa3, by simp, by simp⟩ ?_ ?_
    · intro J₀ Q₁; rintro j y ρ₄ σ₅ hy ⟨hag4, S5, ab, hab5, habl, habp⟩ hkeep5
      obtain ⟨hj, rfl⟩ := rangeL_at hy
      refine As.cell (KN.at_ _ _ (by rfl)) ?_
      have ag4 := hag4.set (x := "k") (v := .int (j : Int)) (by simp)
      refine Ex.cons (Ex1.expr (Ev.callL PySem.F.slot_list_extend PySem.F.type_list_extend (nmL KN (by rfl) (ag4.to (by decide) hab1) ⟨aa, _, rfl, hab5, Evs.one (evCompOf KN T'.quiet (by kernel_rfl) (ItE.of_ev (nmL KN (by rfl) (ag4.to (by decide) hst1) ((ofT ⟨by simp; lia, ableG (cs.getD j []) j, fun z9a C'' hC y hy ρ₅ hcap => ?_, fun a1 ha1 => ?_⟩))))) fun z9a => by rfl⟩) (star1 fun z9a => by rfl)))
      · obtain ⟨l, hl, rfl⟩ := List.mem_map.mp hy
        have KNc := Kn.comp hC
        have Tc := T'.comp hC
        refine tgtName hC (by rfl) hcap fun ρ₆ g1 g2 => ?_
        have hk6 : ρ₆ "k" = some (.int (j : Int)) := (g2 "k" (by rfl)).trans (by rfl)
        have hcl6 : ρ₆ "clauses" = some (.ref ac) := (g2 "clauses" (by rfl)).trans (ag4.to (by decide) hcl1)
        refine Tst.cmp (Ev.unop (nmL KNc (by rfl) g1 (Una.neg (Ev.sub (nmC KNc (by rfl) hcl6 (nmC KNc (by rfl) hk6 (Bin.itemList (S5 _ _ hac3) (by lia) (by lia) (hat j hj) (Bin.inTup (by rfl) fits_ints ⟨_, rfl, rfl, ?_, fun hq => Ev.tuple (Evs.two (evB1 Tc KNc (nmL KNc (by rfl) g1 (Cal.abs (nmC KNc (by rfl) hk6 ⟨by simp, rfl, ?_⟩)))) (fun z9a => by rfl) (fun z9a => by rfl))⟩))))))))
        · rw [any_int, able_int]
          cases (cs.getD j []).contains (-l) <;> rfl
        · rw [any_int] at hq
          rw [able_int, hq, abs_nat]; rfl
      · rw [filterMap_able]
        have hne : aa ≠ a1 := fun q => by subst q; rw [hab5] at ha1; cases ha1
        have hfl := List.length_filter_le (fun l => (cs.getD j []).contains (-l)) c
        refine Cal.extend (by rw [Store.set_other _ _ hne]; exact hab5) (Store.set_same _ _ _) (by simp only [List.length_map]; lia) (by simp only [List.length_map]; lia) (Ex.nil ⟨fun a q => (nomatch q), ag4, (S5.new ha1).put haa, ab ++ (c.filter fun l => (cs.getD j []).contains (-l)).map (fun l => ((l.natAbs : Int), j)), by rw [Store.set_same, List.map_append], by simp only [List.length_append, List.length_map]; lia, fun p hp => ?_⟩)
        rcases List.mem_append.mp hp with hp | hp
        · exact habp p hp
        · obtain ⟨l, hl, rfl⟩ := List.mem_map.mp hp
          have := hcS l (List.mem_filter.mp hl).1
          exact ⟨by show (1 : Int) ≤ (l.natAbs : Int); lia, by show (l.natAbs : Int) ≤ 4; lia, hj⟩
    · rintro ρ₄ σ₅ ⟨hag4, S5, ab, hab5, habl, habp⟩ hkeep5
      rw [rangeL_len] at habl
      have O5 : Off [af] σ σ₅ := O3.trans S5.off
      have F5 := F3.sub S5
      have hap5 := S5 _ _ hap3
      have hna : aa ≠ ap := fun q => by rw [q, hap3] at haa; cases haa
      have lenA : (ab.map pairV).length = ab.length := by simp
      refine Ex.cons ((Ex1.ite (Q := fun o ρ₅ σ₆ => o = .next ∧ ∃ (v : Int) (k : Nat), ρ₅ "var" = some (.int v) ∧ ρ₅ "k" = some (.int (k : Int)) ∧ (1 ≤ v ∧ v ≤ 4 ∧ k < cs.length) ∧ Ag ["k", "var"] ρ₅ ρ₃ ∧ FeedAt σ₆ af an (m + 1 + 3 * (i + 1)) ∧ σ₆ ap = some (.list (prs.map pairV)) ∧ Off [af] σ σ₆) (Tst.mono (B := fun b σ₆ => FeedAt σ₆ af an (m + 2 + 3 * i) ∧ Off [af] σ σ₆ ∧ σ₆ ap = some (.list (prs.map pairV)) ∧ σ₆ aa = some (.list (ab.map pairV)) ∧ (b = true → ab ≠ [])) ?_ fun b σ₆ ⟨F6, O6, hap6, hab6, hne6⟩ => ⟨fun hb => ?_, fun hb => ?_⟩)).mono fun o ρ₅ σ₆ h => ?_)
      · refine Tst.boolop (Tsts.and_cons (Tst.cmp (nmL KN (by rfl) (hag4.to (by decide) hab1) (Ev.list (Evs.nil ⟨by simp, fun a2 ha2 => ?_⟩)))))
        have hne2 : aa ≠ a2 := fun q => by rw [← q, hab5] at ha2; cases ha2
        have S6 := (Sub.refl σ₅).new (o := .list []) ha2
        refine Bin.neList (S6 _ _ hab5) (Store.set_same _ _ _) fits_pairs (by rfl) ?_
        rw [eqv_nil']
        revert S6; refine gen (σ₅.set a2 (.list [])) ?_; intro σ₆; set_option tactic.hygienic false in intros
        refine (brB (fun hb => Tsts.and_cons (Tst.cmp (hdip (many := 4) (F5.sub S6) (by lia) (by decide) (hag4.to (by decide) hfd1) (fun q => Ev.int q) (fun z9a => by rfl) fun v σ₇ hv F7 hs7 => Ev.int (Bin.gt (brB (fun z9a => Tsts.and_nil ?_) (fun z9a => ?_)))))) (fun hb => ⟨(F5.sub S6).le (by lia), O5.trans S6.off, S6 _ _ hap5, S6 _ _ hab5, (fun q => nomatch q)⟩))
        · refine ⟨F7.le (by lia), (O5.trans S6.off).trans fun b o hb e => (by rw [hs7 b (by simpa using hb)]; exact e), (by rw [hs7 ap na1]; exact S6 _ _ hap5), (by rw [hs7 aa haf]; exact S6 _ _ hab5), fun z9a q => ?_⟩
          rw [q] at hb; simp at hb
        · exact ⟨F7.le (by lia), (O5.trans S6.off).trans fun b o hb e => (by rw [hs7 b (by simpa using hb)]; exact e), (by rw [hs7 ap na1]; exact S6 _ _ hap5), (by rw [hs7 aa haf]; exact S6 _ _ hab5), (fun q => nomatch q)⟩
      · have hpos : 0 < ab.length := List.length_pos_iff.mpr (hne6 hb)
        refine Ex.cons (Ex1.assign (Ev.sub (nmL KN (by rfl) (hag4.to (by decide) hab1) (hdip (many := ab.length) F6 (by lia) hpos (hag4.to (by decide) hfd1) (fun q => evB1 T' KN (nmL KN (by rfl) (hag4.to (by decide) hab1) (Cal.len hab6 (by lia) (by rw [lenA]; exact q)))) (fun z9a => by rfl) fun v σ₇ hv F7 hs7 => ?_))))
        have hab7 : σ₇ aa = some (.list (ab.map pairV)) := by rw [hs7 aa haf]; exact hab6
        obtain ⟨p1, p2, p3⟩ := habp _ (List.getElem_mem hv)
        refine Bin.itemList (d := pairV ab[v]) hab7 (by lia) (by lia) (by rw [Int.toNat_natCast, List.getElem?_map, List.getElem?_eq_getElem hv]; rfl) (As.tuple T'.quiet (Ass.cons (As.local (KN.at_ _ _ (by rfl)) (Ass.cons (As.cell (KN.at_ _ _ (by rfl)) (Ass.nil ?_)) (by rfl))) (by rfl)) (by rfl) (by rfl))
        exact Ex.nil ⟨rfl, ab[v].1, ab[v].2, by rfl, by rfl, ⟨p1, p2, p3⟩, ((hag4.mono (by simp)).set (by simp)).set (by simp), F7.le (by lia), (by rw [hs7 ap na1]; exact hap6), O6.trans fun b o hb e => (by rw [hs7 b (by simpa using hb)]; exact e)⟩
      · refine Ex.cons (Ex1.assign (Ev.tuple (Evs.two (Ev.binop (Ev.int (hdip (many := n) F6 (by lia) (by lia) (hag4.to (by decide) hfd1) (fun q => nmL KN (by rfl) (hag4.to (by decide) hn1) q) (fun z9a => by rfl) fun v σ₇ hv F7 hs7 => Bin.add ?_))) (fun z9a => by rfl) (fun z9a => by rfl))) (hw := swapped_none2 (.inr (by rw [KN.at_ _ _ (by rfl)]; simp))))
        have hac7 : σ₇ ac = some (.list (cs.map clV)) := by rw [hs7 ac hca]; exact O6 _ _ (hafm hca) hc
        refine hdip (many := cs.length) F7 (by lia) (by lia) (hag4.to (by decide) hfd1) (fun q => evB1 T' KN (nmC KN (by rfl) (hag4.to (by decide) hcl1) (Cal.len hac7 (by lia) (by rw [lenC]; exact q)))) (fun z9a => by rfl) fun w σ₈ hw8 F8 hs8 => ⟨by simp, As.tuple T'.quiet (Ass.cons (As.local (KN.at_ _ _ (by rfl)) (Ass.cons (As.cell (KN.at_ _ _ (by rfl)) (Ass.nil ?_)) (by rfl))) (by rfl)) (by rfl) (by rfl)⟩
        exact Ex.nil ⟨rfl, 1 + (v : Int), w, by rfl, by rfl, ⟨by lia, by lia, hw8⟩, ((hag4.mono (by simp)).set (by simp)).set (by simp), F8.le (by lia), (by rw [hs8 ap na1, hs7 ap na1]; exact hap6), O6.trans fun b o hb e => (by rw [hs8 b (by simpa using hb), hs7 b (by simpa using hb)]; exact e)⟩
      · obtain ⟨rfl, v, k, hv5, hk5, ⟨b1, b2, b3⟩, ag5, F6, hap6, O6⟩ := h
        have hac6 : σ₆ ac = some (.list (cs.map clV)) := O6 _ _ (hafm hca) hc
        have hpr5 : ρ₅ "pairs" = some (.ref ap) := ag5.to (by decide) hpr1
        have hst5 : ρ₅ "stand" = some (clV c) := ag5.to (by decide) hst1
        have hcl5 : ρ₅ "clauses" = some (.ref ac) := ag5.to (by decide) hcl1
        obtain ⟨kS, kL⟩ := hcd k b3
        refine Ex.cons (Ex1.expr (Ev.callL PySem.F.slot_list_append PySem.F.type_list_append (nmL KN (by rfl) hpr5 ⟨ap, _, rfl, hap6, Evs.one (Ev.tuple (Evs.two (nmL KN (by rfl) hv5 (nmC KN (by rfl) hk5 ⟨by simp, Cal.append hap6 (by simp; lia) ?_⟩)) (fun z9a => by rfl) (fun z9a => by rfl))) fun z9a => by rfl⟩) (star1 fun z9a => by rfl)))
        have hap7 : (σ₆.set ap (.list (prs.map pairV ++ [.tup [.int v, .int (k : Int)]]))) ap = some (.list ((prs ++ [(v, k)]).map pairV)) := by rw [Store.set_same, List.map_append]; rfl
        have O7 : Off [af] σ (σ₆.set ap (.list (prs.map pairV ++ [.tup [.int v, .int (k : Int)]]))) := O6.put hap
        have F7 : FeedAt (σ₆.set ap (.list (prs.map pairV ++ [.tup [.int v, .int (k : Int)]]))) af an (m + 1 + 3 * (i + 1)) := F6.same (Store.set_other _ _ (Ne.symm na1)) (Store.set_other _ _ (Ne.symm na2))
        have hac7 : (σ₆.set ap (.list (prs.map pairV ++ [.tup [.int v, .int (k : Int)]]))) ac = some (.list (cs.map clV)) := by rw [Store.set_other _ _ (Ne.symm na3)]; exact hac6
        revert hap7 O7 F7 hac7; refine gen (σ₆.set ap (.list (prs.map pairV ++ [.tup [.int v, .int (k : Int)]]))) ?_; intro σ₇; set_option tactic.hygienic false in intros
        have hpl7 : (prs ++ [(v, k)]).length = i + 1 := by simp [hpl]
        have hpb7 : ∀ p ∈ prs ++ [(v, k)], 1 ≤ p.1 ∧ p.1 ≤ 4 ∧ p.2 < cs.length := fun p hp => by
          rcases List.mem_append.mp hp with hp | hp
          · exact hpb p hp
          · rw [List.mem_singleton] at hp; subst hp; exact ⟨b1, b2, b3⟩
        have hch7 : chainC cs c₀ (prs ++ [(v, k)]) = clashF c (cs.getD k []) v := by
          rw [chainC_append, hch]
          show (clashF c (cs.getD k []) v).bind _ = _
          cases clashF c (cs.getD k []) v <;> rfl
        refine Ex.cons (Ex1.assign (evF3 238 T' KN (nmL KN (by rfl) hst5 (Ev.sub (nmC KN (by rfl) hcl5 (nmC KN (by rfl) hk5 (Bin.itemList hac7 (by lia) (by lia) (hat k b3) (nmL KN (by rfl) hv5 ((clashing_spec T' (by lia) hcS kS (by lia) (by lia)).mono (fun d σ' hd => ?_) fun z9a z9b z9c z => z)))))))))
        obtain ⟨rfl, rfl⟩ := hd
        refine As.local (KN.at_ _ _ (by rfl)) ?_
        refine Ex.cons (Ex1.ite (Tst.cmp (nmL KN (by rfl) (by rfl) (Ev.none (Bin.isNone (brB (fun hb => ?_) (fun hb => ?_)))))))
        · have hno : clashF c (cs.getD k []) v = none := by
            cases q : clashF c (cs.getD k []) v with
            | none => rfl
            | some c' => rw [q] at hb; cases hb
          refine Ex.cons (Ex1.ret (Ev.tuple (Evs.two (nmL KN (by rfl) (by exact hpr5) (Ev.none ⟨by simp, _, Sub.refl _, ap, prs ++ [(v, k)], ?_, hap, hap7, by lia, hpb7, F7.le (by lia), O7⟩)) (fun z9a => by rfl) (fun z9a => by rfl))))
          rw [hch7, hno]; rfl
        · obtain ⟨c', hc'⟩ : ∃ c', clashF c (cs.getD k []) v = some c' := by
            cases q : clashF c (cs.getD k []) v with
            | none => rw [q] at hb; cases hb
            | some c' => exact ⟨c', rfl⟩
          obtain ⟨s1, s2⟩ := clashF_small hcS kS hc'
          refine Ex.nil (Ex.nil ⟨fun a q => (nomatch q), ?_, prs ++ [(v, k)], c', ?_, hch7.trans hc', s1, s2, hpl7, hpb7, hap7, F7, O7⟩)
          · have ag6 : Ag ["lap", "able", "k", "var", "stand"] ρ₅ _ := fun y hy => (ag5 y (by simp at hy ⊢; simp [hy])).trans (ag1 y hy)
            exact ag6.set (by simp)
          · rw [Vars.set_eq, hc']; rfl
  · rintro ρ₂ σ₃ ⟨hag, prs, c, hst, hch, hcS, hcL, hpl, hpb, hap3, F3, O3⟩ hkeep
    rw [rangeL_len] at hpl F3
    exact Ex.cons (Ex1.ret (Ev.tuple (Evs.two (nmL KN (by rfl) (hag.to (by decide) (by rfl)) (nmL KN (by rfl) hst ⟨by simp, σ₃, Sub.refl _, ap, prs, by rw [hch]; rfl, hap, hap3, by lia, hpb, F3.le (by lia), O3⟩)) (fun z9a => by rfl) (fun z9a => by rfl))))
end Mine
set_option tactic.hygienic false
namespace Mine
open PySem PySem.W PyProof.Rows PySem.Calls
theorem tidy_at {c : List Int} (h : tidyB c = true) {i : Nat} (hi : i < c.length) : tidyAt c i = true := by
  unfold tidyB at h
  exact List.all_eq_true.mp h i (List.mem_range.mpr hi)
theorem tidy_lt {c : List Int} (h : tidyB c = true) : ∀ d i, i + d + 1 < c.length → (c.getD i 0).natAbs < (c.getD (i + d + 1) 0).natAbs
  | 0, i, hi => by
    have := tidy_at h hi
    unfold tidyAt at this
    simp only [Bool.and_eq_true, Bool.or_eq_true, beq_iff_eq, decide_eq_true_eq] at this
    obtain ⟨_, q | q⟩ := this
    · lia
    · simpa using q
  | d + 1, i, hi => by
    have h1 := tidy_lt h d i (by lia)
    have h2 := tidy_lt h 0 (i + d + 1) (by lia)
    have e : i + d + 1 + 0 + 1 = i + (d + 1) + 1 := by lia
    rw [e] at h2
    lia
theorem getD_get {c : List Int} {i : Nat} (hi : i < c.length) : c.getD i 0 = c[i] := by simp [List.getD, List.getElem?_eq_getElem hi]
theorem idx_mid {i j : Nat} (h : i < j) : i + (j - i - 1) + 1 = j := by lia
theorem tidy_nb {c : List Int} (h : tidyB c = true) {l : Int} (hl : l ∈ c) : l ≠ 0 ∧ -l ∉ c := by
  obtain ⟨i, hi, rfl⟩ := List.mem_iff_getElem.mp hl
  have h0 : c[i] ≠ 0 := by
    have := tidy_at h hi
    unfold tidyAt at this
    simp only [Bool.and_eq_true, bne_iff_ne, getD_get hi] at this
    exact this.1
  refine ⟨h0, fun hn => ?_⟩
  obtain ⟨j, hj, e⟩ := List.mem_iff_getElem.mp hn
  have e2 : c[j].natAbs = c[i].natAbs := by rw [e]; lia
  rcases Nat.lt_trichotomy i j with q | q | q
  · have := tidy_lt h (j - i - 1) i (by rw [idx_mid q]; exact hj)
    rw [idx_mid q, getD_get hi, getD_get hj] at this
    lia
  · subst q; lia
  · have := tidy_lt h (i - j - 1) j (by rw [idx_mid q]; exact hi)
    rw [idx_mid q, getD_get hi, getD_get hj] at this
    lia
theorem off_pos {c : List Int} {v : Int} (h : tidyB c = true) (hv : 0 < v) (hm : v ∈ c) : (c.filter fun l => (l.natAbs : Int) != v) = c.filter (· != v) := by
  refine List.filter_congr fun l hl => ?_
  rw [Bool.eq_iff_iff, bne_iff_ne, bne_iff_ne]
  constructor
  · intro q e; subst e; exact q (by lia)
  · intro q e
    have : l = -v := by lia
    subst this
    exact (tidy_nb h hm).2 hl
theorem off_neg {c : List Int} {v : Int} (h : tidyB c = true) (hv : 0 < v) (hm : -v ∈ c) : (c.filter fun l => (l.natAbs : Int) != v) = c.filter (· != -v) := by
  refine List.filter_congr fun l hl => ?_
  rw [Bool.eq_iff_iff, bne_iff_ne, bne_iff_ne]
  constructor
  · intro q e; subst e; exact q (by lia)
  · intro q e
    have : l = v := by lia
    subst this
    have := (tidy_nb h hm).2
    rw [Int.neg_neg] at this
    exact this hl
theorem clash_res {c₁ c₂ : List Int} {v : Int} (h1 : tidyB c₁ = true) (h2 : tidyB c₂ = true) (hv : 0 < v) : clashF c₁ c₂ v = (resR c₁ c₂ v).bind ordF := by
  unfold clashF resR clashOn
  by_cases q1 : (c₁.contains v && c₂.contains (-v)) = true
  · have q := q1
    simp only [Bool.and_eq_true, List.contains_iff_mem] at q
    rw [q1, Bool.true_or, if_pos rfl, if_pos rfl, List.filter_append, off_pos h1 hv q.1, off_neg h2 hv q.2]
    rfl
  · by_cases q2 : (c₁.contains (-v) && c₂.contains v) = true
    · have q := q2
      simp only [Bool.and_eq_true, List.contains_iff_mem] at q
      rw [q2, Bool.or_true, if_pos rfl, if_neg q1, if_pos rfl, List.filter_append, off_neg h1 hv q.1, off_pos h2 hv q.2]
      rfl
    · have e1 := Bool.eq_false_iff.mpr q1
      have e2 := Bool.eq_false_iff.mpr q2
      rw [e1, e2]; rfl
theorem chain_eq {cs : List (List Int)} : ∀ {prs : List (Int × Nat)} {c : List Int}, tidyB c = true → (∀ k, k < cs.length → tidyB (cs.getD k []) = true) → (∀ p ∈ prs, 1 ≤ p.1 ∧ p.2 < cs.length) → chainC cs c prs = chainR cs c prs
  | [], c, _, _, _ => rfl
  | (v, k) :: r, c, h1, h2, h3 => by
    obtain ⟨a1, a2⟩ := h3 (v, k) List.mem_cons_self
    rw [chainC, chainR, clash_res h1 (h2 k a2) (by show 0 < v; have : (1 : Int) ≤ v := a1; lia)]
    cases e1 : resR c (cs.getD k []) v with
    | none => rfl
    | some rest =>
      show (ordF rest).bind _ = _
      cases e2 : ordF rest with
      | none => simp [e2]
      | some c' =>
        simp only [Option.bind_some, e2]
        exact chain_eq (ordF_tidy e2) h2 fun p hp => h3 p (List.mem_cons_of_mem _ hp)
/-- the numbers stand within n -/
noncomputable def Lits (n : Nat) (c : List Int) : Prop := ∀ l ∈ c, 1 ≤ l.natAbs ∧ l.natAbs ≤ n
theorem resR_sub {c₁ c₂ rest : List Int} {v : Int} (h : resR c₁ c₂ v = some rest) : ∀ l ∈ rest, l ∈ c₁ ∨ l ∈ c₂ := by
  unfold resR at h
  intro l hl
  split at h
  · cases h
    rcases List.mem_append.mp hl with q | q
    · exact .inl (List.mem_filter.mp q).1
    · exact .inr (List.mem_filter.mp q).1
  · split at h
    · cases h
      rcases List.mem_append.mp hl with q | q
      · exact .inl (List.mem_filter.mp q).1
      · exact .inr (List.mem_filter.mp q).1
    · cases h
theorem ordF_sub {ls c : List Int} (hs : Small ls) (h : ordF ls = some c) : ∀ l ∈ c, l ∈ ls := by
  unfold ordF at h
  split at h
  · cases h
  · cases h; exact fun l hl => ordL_mem hs hl
theorem ordF_sup {ls c : List Int} (hs : Small ls) (h : ordF ls = some c) : ∀ l ∈ ls, l ∈ c := by
  unfold ordF at h
  split at h
  · cases h
  · rename_i q
    cases h
    intro l hl
    unfold ordL
    refine List.mem_map.mpr ⟨l.natAbs, List.mem_filter.mpr ⟨?_, ?_⟩, pick_of (by simpa using q) hs hl⟩
    · have := hs l hl; simp; lia
    · unfold has
      exact List.contains_iff_mem.mpr (List.mem_map_of_mem hl)
theorem chain_keeps {cs : List (List Int)} {n : Nat} (hn : n ≤ 4) : ∀ {prs : List (Int × Nat)} {c c' : List Int}, tidyB c = true → c.length ≤ 4 → Lits n c → (∀ k, k < cs.length → Lits n (cs.getD k [])) → (∀ p ∈ prs, p.2 < cs.length) → chainR cs c prs = some c' → tidyB c' = true ∧ c'.length ≤ 4 ∧ Lits n c'
  | [], c, c', h1, h2, h3, _, _, h => by cases h; exact ⟨h1, h2, h3⟩
  | (v, k) :: r, c, c', h1, h2, h3, h4, h5, h => by
    rw [chainR] at h
    cases e1 : resR c (cs.getD k []) v with
    | none => rw [e1] at h; cases h
    | some rest =>
      rw [e1] at h
      have sm : ∀ {d : List Int}, Lits n d → Small d := fun hd l hl => ⟨(hd l hl).1, by have := (hd l hl).2; lia⟩
      have sr := resR_small (sm h3) (sm (h4 k (h5 (v, k) List.mem_cons_self))) e1
      cases e2 : ordF rest with
      | none => simp only [e2] at h; cases h
      | some d =>
        simp only [e2] at h
        refine chain_keeps hn (ordF_tidy e2) (ordF_len e2) (fun l hl => ?_) h4 (fun p hp => h5 p (List.mem_cons_of_mem _ hp)) h
        rcases resR_sub e1 l (ordF_sub sr e2 l hl) with q | q
        · exact h3 l q
        · exact h4 k (h5 (v, k) List.mem_cons_self) l q
theorem chainR_ext {cs cs' : List (List Int)} : ∀ {prs : List (Int × Nat)} {c : List Int}, (∀ p ∈ prs, cs.getD p.2 [] = cs'.getD p.2 []) → chainR cs c prs = chainR cs' c prs
  | [], _, _ => rfl
  | (v, k) :: r, c, h => by
    rw [chainR, chainR, h (v, k) List.mem_cons_self]
    cases resR c (cs'.getD k []) v with
    | none => rfl
    | some rest =>
      simp only
      cases ordF rest with
      | none => rfl
      | some d => exact chainR_ext fun p hp => h p (List.mem_cons_of_mem _ hp)
-- worlds
theorem holds_iff {bs : List Bool} {c : List Int} : holdsB bs c = true ↔ ∃ l ∈ c, litOn bs l = true := by unfold holdsB; rw [List.any_eq_true]
theorem lit_neg {bs : List Bool} {v : Int} (hv : 0 < v) : litOn bs (-v) = !litOn bs v := by
  unfold litOn
  have e1 : decide (0 < -v) = false := by simp; lia
  have e2 : decide (0 < v) = true := by simpa using hv
  rw [Int.natAbs_neg, e1, e2]
  cases bs.getD (v.natAbs - 1) false <;> rfl
theorem res_sound {bs : List Bool} {c₁ c₂ rest : List Int} {v : Int} (hv : 0 < v) (h : resR c₁ c₂ v = some rest) (h1 : holdsB bs c₁ = true) (h2 : holdsB bs c₂ = true) : holdsB bs rest = true := by
  obtain ⟨l, hl, tl⟩ := holds_iff.mp h1
  obtain ⟨k, hk, tk⟩ := holds_iff.mp h2
  have no : ¬ (litOn bs v = true ∧ litOn bs (-v) = true) := fun ⟨a, b⟩ => by rw [lit_neg hv, a] at b; cases b
  unfold resR at h
  split at h
  · cases h
    by_cases q : l = v
    · have : k ≠ -v := fun e => no ⟨q ▸ tl, e ▸ tk⟩
      exact holds_iff.mpr ⟨k, List.mem_append_right _ (List.mem_filter.mpr ⟨hk, by simpa using this⟩), tk⟩
    · exact holds_iff.mpr ⟨l, List.mem_append_left _ (List.mem_filter.mpr ⟨hl, by simpa using q⟩), tl⟩
  · split at h
    · cases h
      by_cases q : l = -v
      · have : k ≠ v := fun e => no ⟨e ▸ tk, q ▸ tl⟩
        exact holds_iff.mpr ⟨k, List.mem_append_right _ (List.mem_filter.mpr ⟨hk, by simpa using this⟩), tk⟩
      · exact holds_iff.mpr ⟨l, List.mem_append_left _ (List.mem_filter.mpr ⟨hl, by simpa using q⟩), tl⟩
    · cases h
theorem chain_sound {bs : List Bool} {cs : List (List Int)} : ∀ {prs : List (Int × Nat)} {c c' : List Int}, Small c → (∀ p ∈ prs, 1 ≤ p.1 ∧ Small (cs.getD p.2 []) ∧ holdsB bs (cs.getD p.2 []) = true) → chainR cs c prs = some c' → holdsB bs c = true → holdsB bs c' = true
  | [], c, c', _, _, h, hc => by cases h; exact hc
  | (v, k) :: r, c, c', sc, hp, h, hc => by
    rw [chainR] at h
    obtain ⟨p1, p2, p3⟩ := hp (v, k) List.mem_cons_self
    cases e1 : resR c (cs.getD k []) v with
    | none => rw [e1] at h; cases h
    | some rest =>
      rw [e1] at h
      have sr := resR_small sc p2 e1
      cases e2 : ordF rest with
      | none => simp only [e2] at h; cases h
      | some d =>
        simp only [e2] at h
        refine chain_sound (ordF_small sr e2) (fun p hp' => hp p (List.mem_cons_of_mem _ hp')) h ?_
        have hr := res_sound (by show 0 < v; have : (1 : Int) ≤ v := p1; lia) e1 hc p3
        obtain ⟨l, hl, tl⟩ := holds_iff.mp hr
        exact holds_iff.mpr ⟨l, ordF_sup sr e2 l hl, tl⟩
end Mine
set_option tactic.hygienic false
namespace Mine
open PySem PySem.W PyProof.Rows PySem.Calls
noncomputable def clsOf (ss : List Stp) : List (List Int) := ss.map Stp.cl
structure Good (n : Nat) (ss : List Stp) : Prop where
  cl : ∀ (k : Nat) (s : Stp), ss[k]? = some s → tidyB s.cl = true ∧ s.cl.length ≤ 4 ∧ Lits n s.cl
  inp : ∀ (k : Nat) (s : Stp), ss[k]? = some s → s.res = false → s.prem = []
  res : ∀ (k : Nat) (s : Stp), ss[k]? = some s → s.res = true → X2 fun (first : Nat) (prs : List (Int × Nat)) => A7 (prs ≠ []) (prs.length ≤ 3) (s.prem = first :: prs.map (·.2)) (s.vars = prs.map (·.1)) (first < k) (∀ p ∈ prs, 1 ≤ p.1 ∧ p.1 ≤ 4 ∧ p.2 < k) (chainR (clsOf ss) ((clsOf ss).getD first []) prs = some s.cl)
  laps : LapsUp ss
theorem at_add {α : Type} {l : List α} {t s : α} {k : Nat} (h : (l ++ [t])[k]? = some s) : (k < l.length ∧ l[k]? = some s) ∨ (k = l.length ∧ s = t) := by
  by_cases q : k < l.length
  · rw [List.getElem?_append_left q] at h; exact .inl ⟨q, h⟩
  · rw [List.getElem?_append_right (by lia)] at h
    by_cases q2 : k - l.length = 0
    · rw [q2] at h; simp at h; exact .inr ⟨by lia, h.symm⟩
    · obtain ⟨m, hm⟩ : ∃ m, k - l.length = m + 1 := ⟨k - l.length - 1, (Nat.sub_add_cancel (Nat.pos_of_ne_zero q2)).symm⟩
      rw [hm] at h; simp at h
theorem at_lt {α : Type} {l : List α} {k : Nat} {s : α} (h : l[k]? = some s) : k < l.length := (List.getElem?_eq_some_iff.mp h).1
theorem at_of {α : Type} {l : List α} {k : Nat} (h : k < l.length) : ∃ s, l[k]? = some s := ⟨_, List.getElem?_eq_getElem h⟩
theorem cls_at {ss : List Stp} {k : Nat} {s : Stp} (h : ss[k]? = some s) : (clsOf ss)[k]? = some s.cl := by unfold clsOf; rw [List.getElem?_map, h]; rfl
theorem cls_getD {ss : List Stp} {k : Nat} {s : Stp} (h : ss[k]? = some s) : (clsOf ss).getD k [] = s.cl := by simp [List.getD, cls_at h]
theorem cls_len {ss : List Stp} : (clsOf ss).length = ss.length := by simp [clsOf]
theorem cls_add {ss : List Stp} {s : Stp} {k : Nat} (h : k < ss.length) : (clsOf (ss ++ [s])).getD k [] = (clsOf ss).getD k [] := by
  unfold clsOf
  rw [List.map_append]
  simp only [List.getD]
  rw [List.getElem?_append_left (by simpa using h)]
theorem Lits.small {n : Nat} {c : List Int} (h : Lits n c) (hn : n ≤ 4) : Small c := fun l hl => ⟨(h l hl).1, by have := (h l hl).2; lia⟩
theorem Good.cls {n ss} (G : Good n ss) {k : Nat} (hk : k < ss.length) : tidyB ((clsOf ss).getD k []) = true ∧ ((clsOf ss).getD k []).length ≤ 4 ∧ Lits n ((clsOf ss).getD k []) := by
  obtain ⟨s, hs⟩ := at_of hk
  rw [cls_getD hs]; exact G.cl k s hs
theorem Good.prem {n ss} (G : Good n ss) {k : Nat} {s : Stp} (h : ss[k]? = some s) : (∀ p ∈ s.prem, p < k) ∧ (s.res = true ↔ s.prem ≠ []) ∧ s.prem.length ≤ 4 := by
  cases q : s.res with
  | false => rw [G.inp k s h q]; simp
  | true =>
    obtain ⟨first, prs, h1, h2, h3, h4, h5, h6, h7⟩ := G.res k s h q
    rw [h3]
    refine ⟨fun p hp => ?_, by simp, by simp; lia⟩
    rcases List.mem_cons.mp hp with rfl | hp
    · exact h5
    · obtain ⟨y, hy, rfl⟩ := List.mem_map.mp hp; exact (h6 y hy).2.2
theorem Good.down {n ss} (G : Good n ss) : Down (prOf ss) := fun k p hp => by
  unfold prOf at hp
  cases q : ss[k]? with
  | none => rw [q] at hp; simp at hp
  | some s => rw [q] at hp; exact (G.prem q).1 p hp
theorem Good.wf {n ss} (G : Good n ss) : WfRes ss := fun k s h => ⟨(G.prem h).2.1, by have := (G.prem h).2.2; lia⟩
theorem Good.ok {n ss} (G : Good n ss) : StpOk ss := fun k s h => ⟨(G.cl k s h).1, (G.cl k s h).2.1, by have := (G.prem h).2.2; lia⟩
theorem Good.holds {n ss} (G : Good n ss) (hn : n ≤ 4) : Holds (ss.map Stp.val) (clsOf ss) := by
  refine ⟨by simp [clsOf], fun k c hc => ?_⟩
  have hk : k < ss.length := by have := at_lt hc; rwa [cls_len] at this
  obtain ⟨s, hs⟩ := at_of hk
  rw [cls_at hs] at hc; cases hc
  obtain ⟨h1, h2, h3⟩ := G.cl k s hs
  exact ⟨h3.small hn, h2, h1, _, _, _, steps_at hs⟩
theorem Good.add {n ss} (G : Good n ss) {t : Stp} (hc : tidyB t.cl = true ∧ t.cl.length ≤ 4 ∧ Lits n t.cl) (hi : t.res = false → t.prem = [] ∧ ∀ (k : Nat) (s : Stp), ss[k]? = some s → s.res = false → s.lap < t.lap)
    (hr : t.res = true → ∃ (first : Nat) (prs : List (Int × Nat)), prs ≠ [] ∧ prs.length ≤ 3 ∧ t.prem = first :: prs.map (·.2) ∧ t.vars = prs.map (·.1) ∧ first < ss.length ∧ (∀ p ∈ prs, 1 ≤ p.1 ∧ p.1 ≤ 4 ∧ p.2 < ss.length) ∧ chainR (clsOf ss) ((clsOf ss).getD first []) prs = some t.cl) : Good n (ss ++ [t]) := by
  refine ⟨fun k s h => ?_, fun k s h q => ?_, fun k s h q => ?_, fun i j s u h1 h2 q1 q2 hij => ?_⟩
  · rcases at_add h with ⟨_, h⟩ | ⟨_, rfl⟩
    · exact G.cl k s h
    · exact hc
  · rcases at_add h with ⟨_, h⟩ | ⟨_, rfl⟩
    · exact G.inp k s h q
    · exact (hi q).1
  · rcases at_add h with ⟨hk, h⟩ | ⟨rfl, rfl⟩
    · obtain ⟨first, prs, h1, h2, h3, h4, h5, h6, h7⟩ := G.res k s h q
      refine ⟨first, prs, h1, h2, h3, h4, h5, h6, ?_⟩
      rw [cls_add (by lia), ← h7]
      exact chainR_ext fun p hp => cls_add (by have := (h6 p hp).2.2; lia)
    · obtain ⟨first, prs, h1, h2, h3, h4, h5, h6, h7⟩ := hr q
      refine ⟨first, prs, h1, h2, h3, h4, h5, h6, ?_⟩
      rw [cls_add h5, ← h7]
      exact chainR_ext fun p hp => cls_add (h6 p hp).2.2
  · rcases at_add h1 with ⟨_, g1⟩ | ⟨rfl, rfl⟩
    · rcases at_add h2 with ⟨_, g2⟩ | ⟨rfl, rfl⟩
      · exact G.laps i j s u g1 g2 q1 q2 hij
      · exact (hi q2).2 i s g1 q1
    · have := at_lt h2; rw [List.length_append] at this; simp at this; lia
/-- where the first empty clause stands, or -1 -/
noncomputable def Emp (ss : List Stp) (e : Int) : Prop := (e = -1 ∧ ∀ s ∈ ss, s.cl ≠ []) ∨ ∃ j : Nat, e = (j : Int) ∧ ∃ s, ss[j]? = some s ∧ s.cl = [] ∧ ∀ (i : Nat) (t : Stp), i < j → ss[i]? = some t → t.cl ≠ []
theorem Emp.add {ss : List Stp} {e : Int} (E : Emp ss e) (s : Stp) : Emp (ss ++ [s]) (emptyAfter s.cl e ss.length) := by
  unfold emptyAfter
  rcases E with ⟨rfl, h⟩ | ⟨j, rfl, t, h1, h2, h3⟩
  · by_cases q : s.cl = []
    · rw [if_pos ⟨by simp [q], by decide⟩]
      refine .inr ⟨ss.length, rfl, s, by simp, q, fun i t hi ht => ?_⟩
      rw [List.getElem?_append_left hi] at ht
      exact h t (List.mem_of_getElem? ht)
    · rw [if_neg (fun z => q (List.length_eq_zero_iff.mp z.1))]
      refine .inl ⟨rfl, fun t ht => ?_⟩
      rcases List.mem_append.mp ht with ht | ht
      · exact h t ht
      · rw [List.mem_singleton] at ht; subst ht; exact q
  · rw [if_neg (fun z => by have := z.2; lia)]
    have hj := at_lt h1
    refine .inr ⟨j, rfl, t, by rw [List.getElem?_append_left hj]; exact h1, h2, fun i u hi hu => ?_⟩
    rw [List.getElem?_append_left (by lia)] at hu
    exact h3 i u hi hu
end Mine
set_option tactic.hygienic false
namespace Mine
open PySem PySem.W PyProof.Rows PySem.Calls
set_option maxRecDepth 100000
section
variable {C : Cx} {ρ : Vars} {σ : Store} {Q : Val → Store → Prop} {X : XPost}
theorem Bin.eqR {a b : Val} {r : Bool} (ha : a.fit 8 = true) (hb : b.fit 8 = true) (e : PyData.eqv a.py b.py = r) (h : Q (.bool r) σ) : Bin C ρ σ (compareOp .Eq) a b Q := by subst e; exact Bin.eq ha hb h
theorem Bin.eqListR {a b : Addr} {xs ys : List Val} {r : Bool} (ha : σ a = some (.list xs)) (hb : σ b = some (.list ys)) (fa : Val.fits 8 xs = true) (fb : Val.fits 8 ys = true) (e : PyData.eqvAll (Val.pys xs) (Val.pys ys) = r) (h : Q (.bool r) σ) : Bin C ρ σ (compareOp .Eq) (.ref a) (.ref b) Q := by subst e; exact Bin.eqList ha hb fa fb h
theorem Bin.isNoneR {d : Val} {r : Bool} (e : d.isNone = r) (h : Q (.bool r) σ) : Bin C ρ σ (compareOp .Is) d .none Q := by subst e; exact Bin.isNone h
theorem Evb.andT {e e' : Expr} {rest : List Expr} {pos : Pos} (h : Ev C ρ σ e (fun d σ' => d = .bool true ∧ Evb C ρ σ' pos .And (e' :: rest) Q X) X) : Evb C ρ σ pos .And (e :: e' :: rest) Q X :=
  Evb.cons (h.mono fun d σ' ⟨hd, q⟩ => ⟨true, by subst hd; exact Tru.bool, by rw [if_pos (by decide)]; exact q⟩)
theorem eqv_self {v : Val} (h : v.fit 8 = true) : PyData.eqv v.py v.py = true := by
  have := eqv_same (xs := [v]) (by simp [Val.fits, h])
  simpa [Val.pys, PyData.eqvAll] using this
end
theorem fit_opt {o : Option (List Int)} : (optV o).fit 8 = true := by
  cases o with
  | none => rfl
  | some c => exact fit_clV
noncomputable def resStep (c : List Int) (first : Nat) (prs : List (Int × Nat)) : Stp := ⟨true, c, first :: prs.map (·.2), prs.map (·.1), 0⟩
theorem resStep_val {c first prs} : (resStep c first prs).val = .tup [.str "resolve", clV c, clV ((first : Int) :: prs.map fun p => (p.2 : Int)), clV (prs.map (·.1))] := by
  simp [resStep, Stp.val, Stp.note, ruleS, natsV, List.map_map]
  rfl
/-- what stands before each turn of the law -/
structure Lw (σ : Store) (af an x dd as am ac : Addr) (n m : Nat) (ts : List Int) (ss : List Stp) (e : Int) : Prop where
  feed : FeedAt σ af an m
  P : PAt σ x dd as am (ss.map Stp.val) ((0 :: ts).map .int) e
  cls : σ ac = some (.list ((clsOf ss).map clV))
  good : Good n ss
  emp : Emp ss e
  cf : ac ≠ af
  cn : ac ≠ an
  cs : ac ≠ as
  cm : ac ≠ am
  sf : as ≠ af
  sn : as ≠ an
theorem Lw.cd {σ af an x dd as am ac n m ts ss e} (L : Lw σ af an x dd as am ac n m ts ss e) : ac ≠ dd ∧ ac ≠ x ∧ af ≠ dd ∧ an ≠ dd := by
  obtain ⟨ns, spot, z1, z2, z3, z4⟩ := L.feed
  exact ⟨fun q => (by have h := L.cls; rw [q, L.P.dict] at h; cases h), fun q => (by have h := L.cls; rw [q, L.P.obj] at h; cases h), fun q => (by rw [q, L.P.dict] at z2; cases z2), fun q => (by rw [q, L.P.dict] at z3; cases z3)⟩
/-- all but the feed stand as they stood -/
theorem Lw.off {σ σ' af an x dd as am ac n m m' ts ss e} (L : Lw σ af an x dd as am ac n m ts ss e) (h : Off [af] σ σ') (F : FeedAt σ' af an m') : Lw σ' af an x dd as am ac n m' ts ss e := by
  obtain ⟨ns, spot, z1, z2, z3, z4⟩ := L.feed
  have ne : ∀ {b o}, σ b = some o → b ≠ af → σ' b = some o := fun e q => h _ _ (by simpa using q) e
  have n1 : x ≠ af := fun q => by have h := L.P.obj; rw [q, z2] at h; cases h
  have n2 : dd ≠ af := fun q => by have h := L.P.dict; rw [q, z2] at h; cases h
  have n3 : am ≠ af := fun q => by
    have h := L.P.names; rw [q, z2] at h
    simp only [List.map_cons, Option.some.injEq, MObj.list.injEq, List.cons.injEq] at h
    cases h.1
  exact ⟨F, ⟨ne L.P.obj n1, ne L.P.dict n2, ne L.P.steps L.sf, ne L.P.names n3, L.P.ne⟩, ne L.cls L.cf, L.good, L.emp, L.cf, L.cn, L.cs, L.cm, L.sf, L.sn⟩
theorem Lw.sub {σ σ' af an x dd as am ac n m ts ss e} (L : Lw σ af an x dd as am ac n m ts ss e) (h : Sub σ σ') : Lw σ' af an x dd as am ac n m ts ss e := L.off h.off (L.feed.sub h)
/-- a step more -/
theorem Lw.add {σ σ' af an x dd as am ac n m ts ss e} (L : Lw σ af an x dd as am ac n m ts ss e) {t : Stp} (G : Good n (ss ++ [t])) (P : PAt σ' x dd as am ((ss ++ [t]).map Stp.val) ((0 :: ts).map .int) (emptyAfter t.cl e ss.length)) (hf : Off [as, dd, ac] σ σ') (hc : σ' ac = some (.list ((clsOf (ss ++ [t])).map clV))) :
    Lw σ' af an x dd as am ac n m ts (ss ++ [t]) (emptyAfter t.cl e ss.length) := by
  obtain ⟨c1, c2, c3, c4⟩ := L.cd
  have F := L.feed
  obtain ⟨ns, spot, z1, z2, z3, z4, z5⟩ := F
  exact ⟨⟨ns, spot, z1, hf _ _ (by simp [Ne.symm L.sf, c3, Ne.symm L.cf]) z2, hf _ _ (by simp [Ne.symm L.sn, c4, Ne.symm L.cn]) z3, z4, z5⟩, P, hc, G, L.emp.add t, L.cf, L.cn, L.cs, L.cm, L.sf, L.sn⟩
noncomputable def fn255 (p : Params) : FnAt p 255 := ⟨_, _, ⟨_, rfl, rfl⟩, rfl⟩
theorem chained_spec {C : Cx} {ρ σ} (T : Tops C) (hr : 30 ≤ C.room) {X : XPost} {af an x dd as am ac : Addr} {n m : Nat} {ts : List Int} {ss : List Stp} {e : Int} (L : Lw σ af an x dd as am ac n m ts ss e) (hm : m ≤ 10 ^ 4) (hn : 1 ≤ n ∧ n ≤ 4) (hne : 1 ≤ ss.length) (hz : ss.length ≤ 14) :
    Cal C ρ σ (.ref 255) [.ref af, .ref x, .ref ac, .int (n : Int)] (fun d σ' => d = .bool true ∧ ∃ ss' e', ss.length ≤ ss'.length ∧ ss'.length ≤ ss.length + 1 ∧ Lw σ' af an x dd as am ac n (m + 11) ts ss' e') X := by
  refine Cal.drop (X := X) (X' := noX) ?_ (fun z9a z9b z9c h => h.elim)
  refine FnAt.enter T (fn255 _) (by kernel_rfl) ["feed", "proof", "clauses", "n"] (by lia) (bind4 fun z9a z9b z9c z9d => by rfl) (by kernel_rfl) rfl (by kernel_rfl) fun C' T' KN hr' hw hF => ?_
  refine Ex.lq ?_; intro Q₀
  have lenC : ((clsOf ss).map clV).length = ss.length := by simp [clsOf]
  have lenS : (ss.map Stp.val).length = ss.length := by simp
  refine Ex.cons (Ex1.assign (evF2 228 T' KN (nmL KN (by rfl) (by rfl) (evB1 T' KN (nmL KN (by rfl) (by rfl) (Cal.lenN L.cls lenC (by lia) ((dip_spec T' (by lia) L.feed (by lia) (by lia)).mono (fun d σ₁ ⟨first, h1, hfl, F1, hs1⟩ => ?_) fun z9a z9b z9c z => z)))))))
  subst h1
  refine As.local (KN.at_ _ _ (by rfl)) ?_
  have L1 : Lw σ₁ af an x dd as am ac n (m + 1) ts ss e := L.off (fun b o hb e => by rw [hs1 b (by simpa using hb)]; exact e) F1
  obtain ⟨s₀, hs₀⟩ := at_of hfl
  have hf0 : (clsOf ss)[first]? = some ((clsOf ss).getD first []) := by rw [cls_at hs₀, cls_getD hs₀]
  obtain ⟨t0, l0, li0⟩ := L.good.cls hfl
  refine Ex.cons (Ex1.assign (evF4 250 T' KN (nmL KN (by rfl) (by rfl) (nmL KN (by rfl) (by rfl) (nmL KN (by rfl) (by rfl) (nmL KN (by rfl) (by rfl) ((pairs_spec T' (by lia) L1.feed (by lia) L1.cls L.cf (fun c hc => ?_) (by rw [cls_len]; lia) hf0 hn).mono (fun d σ₂ hd => ?_) fun z9a z9b z9c z => z)))))))
  · obtain ⟨k, hk⟩ := List.getElem?_of_mem hc
    have hkl := at_lt hk
    rw [cls_len] at hkl
    obtain ⟨a1, a2, a3⟩ := L.good.cls hkl
    have : (clsOf ss).getD k [] = c := by simp [List.getD, hk]
    rw [this] at a2 a3
    exact ⟨a3.small hn.2, a2⟩
  obtain ⟨ap, prs, rfl, hap, hap2, hpl, hpb, F2, O2⟩ := hd
  rw [cls_len] at hpb
  have hceq : chainC (clsOf ss) ((clsOf ss).getD first []) prs = chainR (clsOf ss) ((clsOf ss).getD first []) prs := chain_eq t0 (fun k hk => (L.good.cls (by rwa [cls_len] at hk)).1) fun p hp => ⟨(hpb p hp).1, by rw [cls_len]; exact (hpb p hp).2.2⟩
  rw [hceq]
  have L2 : Lw σ₂ af an x dd as am ac n (m + 11) ts ss e := L1.off O2 (F2.le (by lia))
  have hapas : ap ≠ as := fun q => by rw [q, L1.P.steps] at hap; cases hap
  have hapdd : ap ≠ dd := fun q => by rw [q, L1.P.dict] at hap; cases hap
  have hapac : ap ≠ ac := fun q => by rw [q, L1.cls] at hap; cases hap
  refine As.tuple T'.quiet (Ass.cons (As.local (KN.at_ _ _ (by rfl)) (Ass.cons (As.local (KN.at_ _ _ (by rfl)) (Ass.nil ?_)) (by rfl))) (by rfl)) (by rfl) (by rfl)
  refine Ex.cons (Ex1.assign (evT1 T' KN (evSteps T'.K (nmL KN (by rfl) (by rfl) (psI L2.P (Cal.listOf L2.P.steps (by lia) fun ab hab => As.local (KN.at_ _ _ (by rfl)) ?_))))))
  have S3 : Sub σ₂ (σ₂.set ab (.list (ss.map Stp.val))) := (Sub.refl _).new hab
  have hab3 : (σ₂.set ab (.list (ss.map Stp.val))) ab = some (.list (ss.map Stp.val)) := Store.set_same _ _ _
  have L3 := L2.sub S3
  have hap3 := S3 _ _ hap2
  have habas : ab ≠ as := fun q => by rw [q, L2.P.steps] at hab; cases hab
  have habdd : ab ≠ dd := fun q => by rw [q, L2.P.dict] at hab; cases hab
  have habac : ab ≠ ac := fun q => by rw [q, L2.cls] at hab; cases hab
  revert S3 hab3 L3 hap3; refine gen (σ₂.set ab (.list (ss.map Stp.val))) ?_; intro σ₃; set_option tactic.hygienic false in intros
  refine Ex.cons (exTry T' KN hF (by rfl) (Ex.cons (Ex1.assign (evM 166 T' (nmL KN (by rfl) (by rfl) (psI L3.P (Evs.two (nmL KN (by rfl) (by rfl) (nmL KN (by rfl) (by rfl) ((chain_spec T' (by lia) L3.P (by lia) (L.good.holds hn.2) hf0 hap3 (by lia) (fun p hp => ⟨by have := hpb p hp; lia, by rw [cls_len]; exact (hpb p hp).2.2⟩) fun hno => ⟨rfl, fun ev => ?hx⟩).mono (fun d σ₄ hd => ?hn) fun z9a z9b z9c z => z))) (fun z9a => by rfl) (fun z9a => by rfl)))) (starS (fun z9a => by rfl) (star1 fun z9a => by rfl))))))
  case hx =>
    have KNh := KN.hand (e := ev)
    exact Ex.cons (Ex1.ret (Ev.boolop (Evb.andT (Ev.cmp (nmL KNh (by rfl) (by rfl) (Ev.none (Bin.isNoneR (r := true) (by rw [hno]; rfl) ⟨rfl, Evb.one (Ev.cmp (evSteps (C := C'.hand ev) T'.K (nmL KNh (by rfl) (by rfl) (psI L3.P (nmL KNh (by rfl) (by rfl) (Bin.eqListR L3.P.steps hab3 fits_stps fits_stps (eqv_same fits_stps) ⟨σ₃, Sub.refl _, rfl, ss, e, Nat.le_refl _, by lia, L3⟩))))))⟩)))))))
  case hn =>
    obtain ⟨c, hch, hA, hB⟩ := hd
    refine As.local (KN.at_ _ _ (by rfl)) (Ex.nil ?_)
    rw [hch]
    refine Ex.cons (Ex1.ite (Tst.cmp (nmL KN (by rfl) (by rfl) (Ev.none (Bin.isNoneR (r := false) (by rfl) (brF (Ex.nil ?_)))))))
    have lenP : (prs.map pairV).length = prs.length := by simp
    by_cases hp : prs = []
    · obtain ⟨rfl, rfl⟩ := hA hp
      refine Ex.cons (Ex1.ite (Tst.cmp (nmL KN (by rfl) (by rfl) (Ev.list (Evs.nil ⟨by simp, fun a1 ha1 => ?_⟩)))))
      have S4 := (Sub.refl σ₄).new (o := .list []) ha1
      refine Bin.eqListR (r := true) (S4 _ _ hap3) (Store.set_same _ _ _) fits_pairs (by rfl) (eqv_nil'.trans (by rw [hp]; rfl)) (brT ?_)
      revert S4; refine gen (σ₄.set a1 (.list [])) ?_; intro σ₅; set_option tactic.hygienic false in intros
      have L5 := L3.sub S4
      exact Ex.cons (Ex1.ret (Ev.boolop (Evb.andT (Ev.cmp (nmL KN (by rfl) (by rfl) (nmL KN (by rfl) (by rfl) (Bin.eqR (r := true) (by rfl) (by rfl) (eqv_self (by rfl)) ⟨rfl, Evb.one (Ev.cmp (evSteps T'.K (nmL KN (by rfl) (by rfl) (psI L5.P (nmL KN (by rfl) (by rfl) (Bin.eqListR L5.P.steps (S4 _ _ hab3) fits_stps fits_stps (eqv_same fits_stps) ⟨σ₅, Sub.refl _, rfl, ss, e, Nat.le_refl _, by lia, L5⟩))))))⟩)))))))
    · obtain ⟨rfl, P4, hfr⟩ := hB hp
      rw [lenS] at P4 ⊢
      have hval : ss.map Stp.val ++ [Val.tup [.str "resolve", clV c, clV ((first : Int) :: prs.map fun p => (p.2 : Int)), clV (prs.map (·.1))]] = (ss ++ [resStep c first prs]).map Stp.val := by rw [List.map_append, ← resStep_val]; rfl
      rw [hval] at P4
      have O4 : Off [as, dd, ac] σ₃ σ₄ := fun b o hb eb => by
        simp only [List.mem_cons, List.not_mem_nil, or_false, not_or] at hb
        rw [hfr b hb.1 hb.2.1]; exact eb
      obtain ⟨d1, d2, d3, d4⟩ := L3.cd
      have hap4 : σ₄ ap = some (.list (prs.map pairV)) := by rw [hfr ap hapas hapdd]; exact hap3
      have hab4 : σ₄ ab = some (.list (ss.map Stp.val)) := by rw [hfr ab habas habdd]; exact hab3
      have hac4 : σ₄ ac = some (.list ((clsOf ss).map clV)) := by rw [hfr ac L3.cs d1]; exact L3.cls
      have hG : Good n (ss ++ [resStep c first prs]) := L.good.add (chain_keeps hn.2 t0 l0 li0 (fun k hk => (L.good.cls (by rwa [cls_len] at hk)).2.2) (fun p hp => by rw [cls_len]; exact (hpb p hp).2.2) hch) (fun q => by cases q) fun z9a => ⟨first, prs, hp, hpl, rfl, rfl, hfl, hpb, hch⟩
      refine Ex.cons (Ex1.ite (Tst.cmp (nmL KN (by rfl) (by rfl) (Ev.list (Evs.nil ⟨by simp, fun a1 ha1 => ?_⟩)))))
      have S5 := (Sub.refl σ₄).new (o := .list []) ha1
      refine Bin.eqListR (r := false) (S5 _ _ hap4) (Store.set_same _ _ _) fits_pairs (by rfl) (eqv_nil'.trans (by cases prs with | nil => exact absurd rfl hp | cons a r => rfl)) (brF (Ex.nil ?_))
      revert S5; refine gen (σ₄.set a1 (.list [])) ?_; intro σ₅; set_option tactic.hygienic false in intros
      have pairTurn : ∀ {C'' : Cx} {ρ₃ : Vars} {σ₁ : Store} {nm : Str} {v : Val} {nss : List (Str × NameKind)} {pp : Pos}, Kn C'' nss → nss.lookup nm = some .local → (nm == ("__debug__" : Str)) = false → ρ₃ nm = some v → Turn C' C'' ρ₃ σ₁ [] (.Name nm pp) (some v) :=
        fun K1 h1 hd h2 => ⟨rfl, rfl, fun z9a => nmL K1 h1 h2 ⟨rfl, rfl⟩ hd⟩
      refine Ex.cons (Ex1.assign (Ev.binop (Ev.tuple (Evs.one (nmL KN (by rfl) (by rfl) ⟨by simp, ?_⟩) fun z9a => by rfl))))
      refine evT1 T' KN (evCompOf KN T'.quiet (by kernel_rfl) (ItE.of_ev (nmL KN (by rfl) (by rfl) (.inl ⟨ap, _, rfl, S5 _ _ hap4, by rw [lenP]; lia, sndG, fun z9a C'' hC y hy ρ₃ hcap => ?_, fun a2 ha2 => ?_⟩))))
      · obtain ⟨p, _, rfl⟩ := List.mem_map.mp hy
        exact tgtPair T'.quiet hC (by rfl) (by rfl) (by decide) hcap fun ρ₄ h1 h2 h3 => pairTurn (Kn.comp hC) (by rfl) (by decide) h2
      rw [filterMap_pairs (f := fun p => .int (p.2 : Int)) fun p => rfl]
      have S6 := S5.new (o := .list (prs.map fun p => .int (p.2 : Int))) ha2
      refine Cal.tupleOf (Store.set_same _ _ _) (by simp; lia) (Bin.addTup (by simp) (by simp; lia) (As.local (KN.at_ _ _ (by rfl)) ?_))
      have hprem : Val.tup ([Val.int (first : Int)] ++ prs.map fun p => Val.int (p.2 : Int)) = clV ((first : Int) :: prs.map fun p => (p.2 : Int)) := by simp [clV]
      rw [hprem]
      generalize σ₅.set a2 (.list (prs.map fun p => .int (p.2 : Int))) = σ₆ at S6 ⊢
      refine Ex.cons (Ex1.expr (Ev.callL PySem.F.slot_list_append PySem.F.type_list_append (nmL KN (by rfl) (by rfl) ⟨ac, _, rfl, S6 _ _ hac4, Evs.one (nmL KN (by rfl) (by rfl) (Cal.append (S6 _ _ hac4) (by rw [lenC]; lia) ?_)) fun z9a => by rfl⟩) (star1 fun z9a => by rfl)))
      have hcls : (clsOf ss).map clV ++ [optV (some c)] = (clsOf (ss ++ [resStep c first prs])).map clV := by simp [clsOf, resStep, optV]
      rw [hcls]
      have hac7 : (σ₆.set ac (.list ((clsOf (ss ++ [resStep c first prs])).map clV))) ac = some (.list ((clsOf (ss ++ [resStep c first prs])).map clV)) := Store.set_same _ _ _
      have O7 : Off [as, dd, ac] σ₃ (σ₆.set ac (.list ((clsOf (ss ++ [resStep c first prs])).map clV))) := (O4.trans S6.off).set (by simp)
      have P7 := (P4.sub S6).put (o := .list ((clsOf (ss ++ [resStep c first prs])).map clV)) d2 d1 L3.cs L3.cm
      have hap7 : (σ₆.set ac (.list ((clsOf (ss ++ [resStep c first prs])).map clV))) ap = some (.list (prs.map pairV)) := by rw [Store.set_other _ _ hapac]; exact S6 _ _ hap4
      have hab7 : (σ₆.set ac (.list ((clsOf (ss ++ [resStep c first prs])).map clV))) ab = some (.list (ss.map Stp.val)) := by rw [Store.set_other _ _ habac]; exact S6 _ _ hab4
      revert hac7 O7 P7 hap7 hab7; refine gen (σ₆.set ac (.list ((clsOf (ss ++ [resStep c first prs])).map clV))) ?_; intro σ₇; set_option tactic.hygienic false in intros
      have L7 : Lw σ₇ af an x dd as am ac n (m + 11) ts (ss ++ [resStep c first prs]) (emptyAfter c e ss.length) := L3.add (t := resStep c first prs) hG P7 O7 hac7
      refine Ex.cons (Ex1.assign (Ev.tuple (Evs.four (Ev.str (nmL KN (by rfl) (by rfl) (nmL KN (by rfl) (by rfl) (evT1 T' KN (evCompOf KN T'.quiet (by kernel_rfl) (ItE.of_ev (nmL KN (by rfl) (by rfl) (.inl ⟨ap, _, rfl, hap7, by rw [lenP]; lia, fstG, fun z9a C'' hC y hy ρ₃ hcap => ?_, fun a3 ha3 => ?_⟩)))))))) (fun z9a => by rfl) (fun z9a => by rfl) (fun z9a => by rfl) (fun z9a => by rfl))))
      · obtain ⟨p, _, rfl⟩ := List.mem_map.mp hy
        exact tgtPair T'.quiet hC (by rfl) (by rfl) (by decide) hcap fun ρ₄ h1 h2 h3 => pairTurn (Kn.comp hC) (by rfl) (by decide) h1
      rw [filterMap_pairs (f := fun p => .int p.1) fun p => rfl]
      have S8 := (Sub.refl σ₇).new (o := .list (prs.map fun p => .int p.1)) ha3
      refine Cal.tupleOf (Store.set_same _ _ _) (by simp; lia) ⟨by simp, As.local (KN.at_ _ _ (by rfl)) ?_⟩
      have hstep : Val.tup [.str "resolve", optV (some c), clV ((first : Int) :: prs.map fun p => (p.2 : Int)), .tup (prs.map fun p => Val.int p.1)] = (resStep c first prs).val := by rw [resStep_val]; simp [clV, optV]
      rw [hstep]
      have L8 := L7.sub S8
      have hab8 := S8 _ _ hab7
      generalize σ₇.set a3 (.list (prs.map fun p => .int p.1)) = σ₈ at S8 L8 hab8 ⊢
      have hat8 : ((ss ++ [resStep c first prs]).map Stp.val)[ss.length]? = some (Val.tup [.str "resolve", clV c, clV ((first : Int) :: prs.map fun p => (p.2 : Int)), clV (prs.map (·.1))]) := by
        rw [List.getElem?_map, List.getElem?_append_right (Nat.le_refl _), Nat.sub_self, ← resStep_val]; rfl
      refine Ex.cons (Ex1.ret (Ev.boolop (Evb.andT (Ev.cmp (nmL KN (by rfl) (by rfl) (evB1 T' KN (nmL KN (by rfl) (by rfl) (Cal.lenN hab8 lenS (by lia) (Bin.eqR (r := true) (by rfl) (by rfl) (eqv_self (by rfl)) ⟨rfl, ?_⟩)))))))))
      refine Evb.andT (Ev.cmp (evSteps T'.K (nmL KN (by rfl) (by rfl) (psI L8.P (Ev.binop (nmL KN (by rfl) (by rfl) (Ev.list (Evs.one (nmL KN (by rfl) (by rfl) ⟨by simp, fun a4 ha4 => ?_⟩) fun z9a => by rfl))))))))
      have S9 := (Sub.refl σ₈).new (o := .list [(resStep c first prs).val]) ha4
      refine Bin.addList (S9 _ _ hab8) (Store.set_same _ _ _) (by lia) (by simp) fun a5 ha5 => ?_
      have S10 := S9.new (o := .list (ss.map Stp.val ++ [(resStep c first prs).val])) ha5
      have hsame : ss.map Stp.val ++ [(resStep c first prs).val] = (ss ++ [resStep c first prs]).map Stp.val := by simp
      have L10 := L8.sub S10
      refine Bin.eqListR (r := true) L10.P.steps (Store.set_same _ _ _) fits_stps (by rw [hsame]; exact fits_stps) (by rw [hsame]; exact eqv_same fits_stps) ⟨rfl, Evb.one (Ev.cmp (evM 147 T' (nmL KN (by rfl) (by rfl) (psI L10.P (Evs.one (nmL KN (by rfl) (by rfl) ((clause_spec T' (by lia) L10.P (by simp; lia) hat8).mono (fun d σ' hd => ?_) fun z9a z9b z9c z => z)) fun z9a => by rfl))) (star1 fun z9a => by rfl)))⟩
      obtain ⟨rfl, rfl⟩ := hd
      exact nmL KN (by rfl) (by rfl) (Bin.eqR (r := true) fit_clV fit_clV (eqv_self fit_clV) ⟨_, Sub.refl _, rfl, _, _, by simp, by simp, L10⟩)
end Mine
set_option tactic.hygienic false
namespace Mine
open PySem PySem.W PyProof.Rows PySem.Calls
set_option maxRecDepth 100000
theorem sorted_kept {pr : Nat → List Nat} {last : Nat} {ns' : List Int} (hp : ns'.Perm ((fnd pr last (last + 1)).map fun (n : Nat) => (n : Int))) (hs : ns'.Pairwise (· ≤ ·)) : ns' = (kept pr last).map fun (n : Nat) => (n : Int) := by
  have hp2 : ns'.Perm ((kept pr last).map fun (n : Nat) => (n : Int)) := by
    refine hp.trans (List.Perm.map _ ?_)
    unfold kept
    exact (List.reverse_perm _).symm
  have hk : ((kept pr last).map fun (n : Nat) => (n : Int)).Pairwise (· < ·) := List.pairwise_map.mpr (kept_sorted.imp fun h => by lia)
  refine sorted_same hs (hp2.nodup_iff.mpr (hk.imp fun h => by lia)) hk fun z => hp2.mem_iff
theorem ht_step {ss : List Stp} {last i k : Nat} {s : Stp} {kvs : List (Int × Val)} {h : Nat → Int} {v : Int} (hd : Down (prOf ss)) (hk : (kept (prOf ss) last)[i]? = some k) (hs : ss[k]? = some s) (hK : ∀ k ∈ (kept (prOf ss) last).take i, kvAt kvs (k : Int) = some (.int (h k)) ∧ HtAt ss h k)
    (hv1 : s.prem = [] → v = 0) (hv2 : s.prem ≠ [] → ∃ m ∈ s.prem, (∀ y ∈ s.prem, h y ≤ h m) ∧ v = h m + 1) : ∃ h' : Nat → Int, ∀ z ∈ (kept (prOf ss) last).take (i + 1), kvAt (kvSet kvs (k : Int) (.int v)) (z : Int) = some (.int (h' z)) ∧ HtAt ss h' z := by
  have hkm : k ∈ kept (prOf ss) last := List.mem_of_getElem? hk
  have hpr := prOf_at hs
  have hpm : ∀ p ∈ s.prem, p ∈ (kept (prOf ss) last).take i := fun p hp => kept_take hk (kept_closed hd hkm (by rw [hpr]; exact hp)) (hd k p (by rw [hpr]; exact hp))
  obtain ⟨h', e1, e2⟩ : ∃ h' : Nat → Int, h' k = v ∧ ∀ p, p ≠ k → h' p = h p := ⟨fun z => if z = k then v else h z, by simp, fun p hp => by simp [hp]⟩
  refine ⟨h', fun z hz' => ?_⟩
  have hne : ∀ p ∈ (kept (prOf ss) last).take i, p ≠ k := fun p hp => by have := take_lt hk hp; lia
  rw [kvAt_set]
  rcases (take_mem hk).mp hz' with h4 | rfl
  · have hzk := hne z h4
    obtain ⟨g1, g2⟩ := hK z h4
    have hzk' : ¬ ((z : Int) = (k : Int)) := by lia
    rw [if_neg hzk', e2 z hzk]
    refine ⟨g1, fun t ht => ?_⟩
    obtain ⟨g3, g4⟩ := g2 t ht
    have hzt := prOf_at ht
    have hlt := take_lt hk h4
    have low : ∀ p ∈ t.prem, p ≠ k := fun p hp => by have := hd z p (by rw [hzt]; exact hp); lia
    rw [e2 z hzk]
    refine ⟨g3, fun q => ?_⟩
    obtain ⟨m, m1, m2, m3⟩ := g4 q
    exact ⟨m, m1, fun y hy => by rw [e2 y (low y hy), e2 m (low m m1)]; exact m2 y hy, by rw [e2 m (low m m1)]; exact m3⟩
  · rw [if_pos rfl, e1]
    refine ⟨rfl, fun t ht => ?_⟩
    rw [hs] at ht; cases ht
    rw [e1]
    refine ⟨hv1, fun q => ?_⟩
    obtain ⟨m, m1, m2, m3⟩ := hv2 q
    have low : ∀ p ∈ s.prem, p ≠ z := fun p hp => hne p (hpm p hp)
    exact ⟨m, m1, fun y hy => by rw [e2 y (low y hy), e2 m (low m m1)]; exact m2 y hy, by rw [e2 m (low m m1)]; exact m3⟩
noncomputable def askG (ss : List Stp) (k : Nat) : Val → Option Val
  | .int m => if (prOf ss m.toNat).contains k then some (.int m) else none
  | _ => none
theorem ask_int {ss : List Stp} {k m : Nat} : askG ss k (.int (m : Int)) = if (prOf ss m).contains k then some (.int (m : Int)) else none := rfl
theorem filterMap_ask {ss : List Stp} {k : Nat} : ∀ {l : List Nat}, ((l.map fun (n : Nat) => (n : Int)).map Val.int).filterMap (askG ss k) = ((l.filter fun m => (prOf ss m).contains k).map fun (n : Nat) => (n : Int)).map Val.int
  | [] => rfl
  | m :: l => by
    rw [List.map_cons, List.map_cons, List.filterMap_cons, ask_int, filterMap_ask, List.filter_cons]
    cases (prOf ss m).contains k <;> rfl
theorem any_nats {l : List Nat} {k : Nat} : (((l.map fun (n : Nat) => (n : Int)).map Val.int).any fun y => PyData.eqv y.py (Val.int (k : Int)).py) = l.contains k := by
  rw [any_int, Bool.eq_iff_iff, List.contains_iff_mem, List.contains_iff_mem, List.mem_map]
  constructor
  · rintro ⟨a, h, e⟩
    have : a = k := by lia
    rw [← this]; exact h
  · intro h; exact ⟨k, h, rfl⟩
noncomputable def fn260 (p : Params) : FnAt p 260 := ⟨_, _, ⟨_, rfl, rfl⟩, rfl⟩
theorem under_spec {C : Cx} {ρ σ} (T : Tops C) (hr : 6 ≤ C.room) {X : XPost} {x dd as am : Addr} {ss : List Stp} {names : List Val} {e : Int} (P : PAt σ x dd as am (ss.map Stp.val) names e) (hz : ss.length ≤ 60) (hd : Down (prOf ss)) (hwf : WfRes ss) {last : Nat} (hl : last < ss.length) :
    Cal C ρ σ (.ref 260) [.ref x, .int (last : Int)] (fun d σ' => X2 fun (a : Addr) (h : Nat → Int) => A4 (d = .tup [.ref a, .int (h last)]) (σ' a = some (.list (((kept (prOf ss) last).map fun (n : Nat) => (n : Int)).map .int))) ((∀ k ∈ kept (prOf ss) last, HtAt ss h k)) (Sub σ σ')) X := by
  refine Cal.drop (X := X) (X' := noX) ?_ (fun z9a z9b z9c h => h.elim)
  refine FnAt.enter T (fn260 _) (by kernel_rfl) ["proof", "last"] (by lia) (bind2 fun z9a z9b => by rfl) (by kernel_rfl) rfl (by kernel_rfl) fun C' T' KN hr' hw hF => ?_
  refine Ex.lq ?_; intro Q₀
  have lenS : (ss.map Stp.val).length = ss.length := by simp
  refine Ex.cons (Ex1.assign (Ev.tuple (Evs.two (Ev.list (Evs.nil ⟨by simp, fun fd hfd => evDictI fun kd hkd => ⟨by simp, As.tuple T'.quiet (Ass.cons (As.local (KN.at_ _ _ (by rfl)) (Ass.cons (As.cell (KN.at_ _ _ (by rfl)) (Ass.nil ?_)) (by rfl))) (by rfl)) (by rfl) (by rfl)⟩⟩)) (fun z9a => by rfl) (fun z9a => by rfl))) (hw := swapped_none2 (.inr (by rw [KN.at_ _ _ (by rfl)]; simp))))
  have hkf : fd ≠ kd := fun q => by subst q; simp at hkd
  have hkd0 : σ kd = none := by rw [Store.set_other _ _ (Ne.symm hkf)] at hkd; exact hkd
  have S1 : Sub σ ((σ.set fd (.list [])).set kd (.idict [])) := ((Sub.refl σ).new hfd).new hkd
  have hfd1 : ((σ.set fd (.list [])).set kd (.idict [])) fd = some (.list []) := by rw [Store.set_other _ _ hkf, Store.set_same]
  have hkd1 : ((σ.set fd (.list [])).set kd (.idict [])) kd = some (.idict []) := Store.set_same _ _ _
  revert S1 hfd1 hkd1; refine gen ((σ.set fd (.list [])).set kd (.idict [])) ?_; intro σ₁; set_option tactic.hygienic false in intros
  refine Ex.cons (Ex1.for T'.quiet (.inl hF) (ItE.range3 (nmT T' KN (by rfl) (by kernel_rfl) (by rfl) (callI (.typ _) Keeps.type (Evs.three (nmL KN (by rfl) (by rfl) (Ev.unop (Ev.int (Una.neg (Ev.unop (Ev.int (Una.neg ⟨rfl, _, _, rfl, by lia, by lia, ?_⟩))))))) (fun z9a => by rfl) (fun z9a => by rfl) (fun z9a => by rfl)))) (starS (fun z9a => by rfl) (starS (fun z9a => by rfl) (star1 fun z9a => by rfl)))))
  refine forI (fun i ρ₂ σ₂ => A5 (i ≤ last + 1) (Ag ["number"] ρ₂ _) (Sub σ σ₂) (σ₂ kd = some (.idict [])) (σ₂ fd = some (.list (((fnd (prOf ss) last i).map fun (n : Nat) => (n : Int)).map .int)))) ⟨by lia, Ag.refl, S1, hkd1, hfd1⟩ ?_ ?_
  · intro J₀ Q₁; rintro i y ρ₂ σ₂ hy ⟨hi1, hag, hsub, hk2, hf2⟩ hkeep
    obtain ⟨hi, rfl⟩ := rangeL_down_at hy
    refine As.cell (KN.at_ _ _ (by rfl)) ?_
    have ag := hag.set (x := "number") (v := .int ((last - i : Nat) : Int)) (by simp)
    have Pk := P.sub hsub
    have hfl : (fnd (prOf ss) last i).length ≤ last + 1 := by
      have h1 : (fnd (prOf ss) last i).Nodup := (fnd_desc (by lia)).imp fun h => by lia
      have h2 : ∀ x ∈ fnd (prOf ss) last i, x ∈ List.range (last + 1) := fun x hx => by rw [List.mem_range]; have := (fnd_mem (by lia) hx).1; lia
      simpa using nodup_le h1 h2
    refine Ex.cons (Ex1.ite (Tst.mono (B := fun b σ₃ => b = want (prOf ss) last (fnd (prOf ss) last i) (last - i) ∧ Sub σ₂ σ₃) ?_ fun b σ₃ ⟨hb, S3⟩ => ⟨fun ht => ?_, fun ht => ?_⟩))
    · refine Tst.boolop (Tsts.or_cons (Tst.cmp (nmC KN (by rfl) (by rfl) (nmL KN (by rfl) (ag.to (by decide) (by rfl)) (Bin.eq (by rfl) (by rfl) (brB (fun hb => ?_) (fun hb => Tsts.or_cons ?_)))))))
      · have : last - i = last := by have : ((last - i : Nat) : Int) = (last : Int) := by simpa [PyData.eqv, Val.py] using hb
                                     lia
        exact ⟨by rw [eq_comm, want_iff]; exact .inl this, Sub.refl _⟩
      · have hno : last - i ≠ last := fun q => by rw [q] at hb; simp [PyData.eqv, Val.py] at hb
        refine Tst.cmp (evCompOf KN T'.quiet (by kernel_rfl) (ItE.of_ev (nmL KN (by rfl) (ag.to (by decide) (by rfl)) (.inl ⟨fd, _, rfl, hf2, by simp; lia, askG ss (last - i), fun z9a C'' hC y hy ρ₃ hcap => ?_, fun a1 ha1 => Ev.list (Evs.nil ⟨by simp, fun a2 ha2 => ?_⟩)⟩))))
        · obtain ⟨m', hm', rfl⟩ := List.mem_map.mp hy
          obtain ⟨m, hm, rfl⟩ := List.mem_map.mp hm'
          have hml : m < ss.length := by have := (fnd_mem (by lia) hm).1; lia
          obtain ⟨s, hs⟩ := at_of hml
          have hpr := prOf_at hs
          have KNc := Kn.comp hC
          have Tc := T'.comp hC
          refine tgtName hC (by rfl) hcap fun ρ₄ g1 g2 => ?_
          have hnum : ρ₄ "number" = some (.int ((last - i : Nat) : Int)) := (g2 "number" (by rfl)).trans (by rfl)
          have hprf : ρ₄ "proof" = some (.ref x) := (g2 "proof" (by rfl)).trans (ag.to (by decide) (by rfl))
          refine Tst.cmp (nmC KNc (by rfl) hnum (Ev.sub (Ev.sub (evSteps Tc.K (nmC KNc (by rfl) hprf (psI Pk (nmL KNc (by rfl) g1 (Bin.itemList Pk.steps (by lia) (by lia) (by rw [Int.toNat_natCast]; exact steps_at hs) (Ev.int (Bin.itemTup (d := natsV s.prem) (by lia) (by rfl) (Bin.inTup (by rfl) fits_ints ⟨_, rfl, rfl, ?_, fun hq => nmL KNc (by rfl) g1 ⟨rfl, ?_⟩⟩) (by simp)))))))))))
          · rw [any_nats, ask_int, hpr]
            cases s.prem.contains (last - i) <;> rfl
          · rw [any_nats] at hq
            rw [ask_int, hpr, hq]; rfl
        · rw [filterMap_ask] at ha2 ⊢
          have hne : a1 ≠ a2 := fun q => by subst q; simp at ha2
          refine Bin.neList (by rw [Store.set_other _ _ hne, Store.set_same]) (Store.set_same _ _ _) fits_ints (by rfl) ?_
          rw [eqv_nil']
          have fin : ∀ b, b = (!((((fnd (prOf ss) last i).filter fun m => (prOf ss m).contains (last - i)).map fun (n : Nat) => (n : Int)).map Val.int).isEmpty) → b = want (prOf ss) last (fnd (prOf ss) last i) (last - i) := fun b hb => by
            subst hb
            rw [Bool.eq_iff_iff, want_iff]
            cases q : (fnd (prOf ss) last i).filter fun m => (prOf ss m).contains (last - i) with
            | nil =>
              refine ⟨fun z => (by simp at z), fun z => ?_⟩
              rcases z with z | ⟨m, hm, z⟩
              · exact absurd z hno
              · exact absurd (List.contains_iff_mem.mpr z) (List.filter_eq_nil_iff.mp q m hm)
            | cons a r =>
              refine ⟨fun z9a => .inr ?_, fun z9a => rfl⟩
              have ha : a ∈ (fnd (prOf ss) last i).filter fun m => (prOf ss m).contains (last - i) := by rw [q]; exact List.mem_cons_self
              exact ⟨a, (List.mem_filter.mp ha).1, List.contains_iff_mem.mp (List.mem_filter.mp ha).2⟩
          exact (brB (fun hb => ⟨by rw [← hb]; exact fin _ rfl, ((Sub.refl _).new ha1).new ha2⟩) (fun hb => Tsts.or_nil ⟨by rw [← hb]; exact fin _ rfl, ((Sub.refl _).new ha1).new ha2⟩))
    · rw [ht] at hb
      have hsucc : fnd (prOf ss) last (i + 1) = fnd (prOf ss) last i ++ [last - i] := by rw [fnd_succ, if_pos hb.symm]
      refine Ex.cons (Ex1.expr (Ev.callL PySem.F.slot_list_append PySem.F.type_list_append (nmL KN (by rfl) (ag.to (by decide) (by rfl)) ⟨fd, _, rfl, S3 _ _ hf2, Evs.one (nmC KN (by rfl) (by rfl) (Cal.append (S3 _ _ hf2) (by simp; lia) (Ex.nil (Ex.nil ?_)))) fun z9a => by rfl⟩) (star1 fun z9a => by rfl)))
      refine ⟨fun a q => (nomatch q), by lia, ag, (hsub.trans S3).put hfd, by rw [Store.set_other _ _ (Ne.symm hkf)]; exact S3 _ _ hk2, ?_⟩
      rw [Store.set_same, hsucc]; simp
    · rw [ht] at hb
      have hsucc : fnd (prOf ss) last (i + 1) = fnd (prOf ss) last i := by rw [fnd_succ, if_neg (by rw [← hb]; simp)]
      exact Ex.nil (Ex.nil ⟨fun a q => (nomatch q), by lia, ag, hsub.trans S3, S3 _ _ hk2, by rw [hsucc]; exact S3 _ _ hf2⟩)
  · rintro ρ₂ σ₂ ⟨hi1, hag, hsub, hk2, hf2⟩ hkeep
    rw [rangeL_down_len] at hf2
    have hfl : (fnd (prOf ss) last (last + 1)).length ≤ last + 1 := by
      have h1 : (fnd (prOf ss) last (last + 1)).Nodup := (fnd_desc (by lia)).imp fun h => by lia
      have h2 : ∀ x ∈ fnd (prOf ss) last (last + 1), x ∈ List.range (last + 1) := fun x hx => by rw [List.mem_range]; have := (fnd_mem (by lia) hx).1; lia
      simpa using nodup_le h1 h2
    have hfound : ρ₂ "found" = some (.ref fd) := hag.to (by decide) (by rfl)
    have hheights : ρ₂ "heights" = some (.ref kd) := hag.to (by decide) (by rfl)
    have hproof : ρ₂ "proof" = some (.ref x) := hag.to (by decide) (by rfl)
    have hlast : ρ₂ "last" = some (.int (last : Int)) := hag.to (by decide) (by rfl)
    refine Ex.cons (Ex1.for T'.quiet (.inl hF) (ItE.of_ev (evB1 T' KN (nmL KN (by rfl) hfound (Cal.sortedList hf2 (by simp; lia) fun ns' an hp hs han => ?_)))))
    obtain rfl := sorted_kept hp hs
    have nfa : fd ≠ an := fun q => by subst q; rw [hf2] at han; cases han
    have nka : kd ≠ an := fun q => by subst q; rw [hk2] at han; cases han
    refine ofL (Store.set_same _ _ _) (forI (fun i ρ₃ σ₃ => Ag ["number", "beneath"] ρ₃ ρ₂ ∧ Sub σ σ₃ ∧ σ₃ fd = some (.list (((fnd (prOf ss) last (last + 1)).map fun (n : Nat) => (n : Int)).map .int)) ∧ ∃ kvs h, σ₃ kd = some (.idict kvs) ∧ (∀ k ∈ (kept (prOf ss) last).take i, kvAt kvs (k : Int) = some (.int (h k)) ∧ HtAt ss h k) ∧ kvs.length ≤ i) ⟨Ag.refl, hsub.new han, by rw [Store.set_other _ _ nfa]; exact hf2, [], fun z9a => 0, by rw [Store.set_other _ _ nka]; exact hk2, by simp, by simp⟩ ?_ ?_)
    · intro J₀ Q₁; rintro i y ρ₃ σ₃ hy ⟨hag3, hsub3, hf3, kvs, h, hk3, hK, hkl⟩ hkeep3
      obtain ⟨k, hk, rfl⟩ := nats_at hy
      have hkm : k ∈ kept (prOf ss) last := List.mem_of_getElem? hk
      have hkl2 : k < ss.length := by have := kept_le hkm; lia
      obtain ⟨s, hs⟩ := at_of hkl2
      have hil : i < last + 1 := by have h1 := at_lt hk; have h2 := kept_len (pr := prOf ss) (last := last); lia
      have hpr := prOf_at hs
      have Pk := P.sub hsub3
      have hpm : ∀ p ∈ s.prem, p ∈ (kept (prOf ss) last).take i := fun p hp => kept_take hk (kept_closed hd hkm (by rw [hpr]; exact hp)) (hd k p (by rw [hpr]; exact hp))
      obtain ⟨hw1, hw2⟩ := hwf k s hs
      have hplen : ((s.prem.map fun (n : Nat) => (n : Int)).map Val.int).length = s.prem.length := by simp
      refine As.cell (KN.at_ _ _ (by rfl)) ?_
      have ag := hag3.set (x := "number") (v := .int (k : Int)) (by simp)
      refine Ex.cons (exAssignCompOf KN T'.quiet (by kernel_rfl) (by rfl) (ItE.of_ev (Ev.sub (Ev.sub (evSteps T'.K (nmC KN (by rfl) (ag.to (by decide) hproof) (psI Pk (nmC KN (by rfl) (by rfl) (Bin.itemList Pk.steps (by lia) (by lia) (by rw [Int.toNat_natCast]; exact steps_at hs) (Ev.int (Bin.itemTup (d := natsV s.prem) (by lia) (by rfl) ((ofT ⟨by rw [hplen]; lia, lookG kvs, fun z9a C'' hC y hy ρ₄ hcap => ?_, fun a1 ha1 => ?_⟩)) (by simp))))))))))))
      · obtain ⟨p', hp', rfl⟩ := List.mem_map.mp hy
        obtain ⟨p, hp, rfl⟩ := List.mem_map.mp hp'
        refine tgtName hC (by rfl) hcap fun ρ₅ h1 h2 => ?_
        have KNc := Kn.comp hC
        have hht : ρ₅ "heights" = some (.ref kd) := (h2 "heights" (by rfl)).trans (ag.to (by decide) hheights)
        have g := (hK p (hpm p hp)).1
        have e0 : lookG kvs (.int (p : Int)) = some (.int (h p)) := g
        rw [e0]
        exact ⟨rfl, rfl, fun z9a => Ev.sub (nmC KNc (by rfl) hht (nmL KNc (by rfl) h1 (Bin.itemIdict hk3 g ⟨rfl, rfl⟩)))⟩
      · rw [look_nats (h := h) fun p hp => (hK p (hpm p hp)).1]
        have ag2 := ag.set (x := "beneath") (v := .ref a1) (by simp)
        have S4 := (Sub.refl σ₃).new (o := .list ((s.prem.map h).map .int)) ha1
        have ha4 : (σ₃.set a1 (.list ((s.prem.map h).map .int))) a1 = some (.list ((s.prem.map h).map .int)) := Store.set_same _ _ _
        revert S4 ha4; refine gen (σ₃.set a1 (.list ((s.prem.map h).map .int))) ?_; intro σ₄; set_option tactic.hygienic false in intros
        refine Ex.cons (Ex1.assign (Ev.ifexp (Tst.cmp (nmL KN (by rfl) (by rfl) (Ev.list (Evs.nil ⟨by simp, fun a2 ha2 => ?_⟩))))))
        have S5 := S4.new (o := .list []) ha2
        have h12 : a1 ≠ a2 := fun q => by subst q; rw [ha4] at ha2; cases ha2
        have ha5 : (σ₄.set a2 (.list [])) a1 = some (.list ((s.prem.map h).map .int)) := by rw [Store.set_other _ _ h12]; exact ha4
        refine Bin.neList ha5 (Store.set_same _ _ _) fits_ints (by rfl) ?_
        rw [eqv_nil']
        revert S5 ha5; refine gen (σ₄.set a2 (.list [])) ?_; intro σ₅; set_option tactic.hygienic false in intros
        have post : ∀ {v : Int}, (s.prem = [] → v = 0) → (s.prem ≠ [] → ∃ m ∈ s.prem, (∀ y ∈ s.prem, h y ≤ h m) ∧ v = h m + 1) → Keep1 (some an) (((kept (prOf ss) last).map fun (n : Nat) => (n : Int)).map .int) (σ₅.set kd (.idict (kvSet kvs (k : Int) (.int v)))) ∧ Ag ["number", "beneath"] ((ρ₃.set "number" (.int (k : Int))).set "beneath" (.ref a1)) ρ₂ ∧ Sub σ (σ₅.set kd (.idict (kvSet kvs (k : Int) (.int v)))) ∧ (σ₅.set kd (.idict (kvSet kvs (k : Int) (.int v)))) fd = some (.list (((fnd (prOf ss) last (last + 1)).map fun (n : Nat) => (n : Int)).map .int)) ∧ ∃ kvs' h', (σ₅.set kd (.idict (kvSet kvs (k : Int) (.int v)))) kd = some (.idict kvs') ∧ (∀ k ∈ (kept (prOf ss) last).take (i + 1), kvAt kvs' (k : Int) = some (.int (h' k)) ∧ HtAt ss h' k) ∧ kvs'.length ≤ i + 1 := fun {v} hv1 hv2 => by
          obtain ⟨h', hh⟩ := ht_step hd hk hs hK hv1 hv2
          refine ⟨fun a q => ?_, ag2, (hsub3.trans S5).put hkd0, ?_, _, h', Store.set_same _ _ _, hh, ?_⟩
          · cases q; rw [Store.set_other _ _ (Ne.symm nka)]; exact S5 _ _ (hkeep3 _ rfl)
          · rw [Store.set_other _ _ hkf]; exact S5 _ _ hf3
          · have : (kvSet kvs (k : Int) (.int v)).length ≤ kvs.length + 1 := by unfold kvSet; split <;> simp
            lia
        refine (brB (fun hb => ?_) (fun hb => ?_))
        · have hne : s.prem ≠ [] := fun q => by rw [q] at hb; simp at hb
          refine Ev.binop (Ev.int (evB1 T' KN (nmL KN (by rfl) (by rfl) (Cal.maxInts ha5 (by rw [List.length_map]; exact List.length_pos_iff.mpr hne) T'.quiet fun M hM1 hM2 => Bin.add ?_))))
          obtain ⟨m, m1, rfl⟩ := List.mem_map.mp hM1
          exact As.item' (nmC KN (by rfl) (ag2.to (by decide) hheights) (nmC KN (by rfl) (by rfl) (Sti.idict (S5 _ _ hk3) (by lia) (Ex.nil (post (fun q => absurd q hne) fun z9a => ⟨m, m1, fun y hy => hM2 _ (List.mem_map_of_mem hy), by lia⟩)))))
        · have hnil : s.prem = [] := by
            cases q : s.prem with
            | nil => rfl
            | cons p r => rw [q] at hb; simp at hb
          exact Ev.int (As.item' (nmC KN (by rfl) (ag2.to (by decide) hheights) (nmC KN (by rfl) (by rfl) (Sti.idict (S5 _ _ hk3) (by lia) (Ex.nil (post (fun z9a => rfl) fun q => absurd hnil q))))))
    · rintro ρ₃ σ₃ ⟨hag3, hsub3, hf3, kvs, h, hk3, hK, hkl⟩ hkeep3
      rw [List.length_map, List.length_map, List.take_length] at hK
      refine Ex.cons (Ex1.ret (Ev.tuple (Evs.two (evB1 T' KN (nmL KN (by rfl) (hag3.to (by decide) hfound) (Cal.sortedList hf3 (by simp; lia) fun ns' b hp hs hb => ?_))) (fun z9a => by rfl) (fun z9a => by rfl))))
      obtain rfl := sorted_kept hp hs
      have nkb : kd ≠ b := fun q => by subst q; rw [hk3] at hb; cases hb
      exact Ev.sub (nmC KN (by rfl) (hag3.to (by decide) hheights) (nmL KN (by rfl) (hag3.to (by decide) hlast) (Bin.itemIdict (by rw [Store.set_other _ _ nkb]; exact hk3) (hK last (kept_last hd)).1 ⟨by simp, _, Sub.refl _, b, h, rfl, Store.set_same _ _ _, fun k hk => (hK k hk).2, hsub3.new hb⟩)))
end Mine
set_option tactic.hygienic false
namespace Mine
open PySem PySem.W PyProof.Rows PySem.Calls
set_option maxRecDepth 100000
theorem Tops.wb {C : Cx} {t : Addr} (T : Tops C) : Tops (C.wb t) := ⟨T.K, T.kin, T.top, T.sys, T.quiet, T.prog⟩
theorem Kn.wb {C : Cx} {ns} {t : Addr} (KN : Kn C ns) : Kn (C.wb t) ns := ⟨KN.at_⟩
theorem Bin.neR {C : Cx} {ρ : Vars} {σ : Store} {Q : Val → Store → Prop} {a b : Val} {r : Bool} (ha : a.fit 8 = true) (hb : b.fit 8 = true) (e : PyData.eqv a.py b.py = !r) (h : Q (.bool r) σ) : Bin C ρ σ (compareOp .NotEq) a b Q :=
  Bin.ne ha hb (by rw [e]; simpa using h)
theorem Bin.neListR {C : Cx} {ρ : Vars} {σ : Store} {Q : Val → Store → Prop} {a b : Addr} {xs ys : List Val} {r : Bool} (ha : σ a = some (.list xs)) (hb : σ b = some (.list ys)) (fa : Val.fits 8 xs = true) (fb : Val.fits 8 ys = true) (e : PyData.eqvAll (Val.pys xs) (Val.pys ys) = !r) (h : Q (.bool r) σ) : Bin C ρ σ (compareOp .NotEq) (.ref a) (.ref b) Q :=
  Bin.neList ha hb fa fb (by rw [e]; simpa using h)
theorem fit_stp {s : Stp} : s.val.fit 8 = true := by
  have := fits_stps (ss := [s])
  simpa [Val.fits] using this
theorem trimS_at {ss : List Stp} {ks : List Nat} {j k : Nat} {s : Stp} (h : ∀ k ∈ ks, k < ss.length) (hj : ks[j]? = some k) (hs : ss[k]? = some s) : (trimS ss ks ks)[j]? = some (renum ks s) := by
  have e : trimS ss ks ks = trimS ss ks (ks.take (j + 1)) ++ trimS ss ks (ks.drop (j + 1)) := by
    unfold trimS
    rw [← List.filterMap_append, List.take_append_drop]
  have hl : (trimS ss ks (ks.take j)).length = j := by
    rw [trimS_len fun k hk => h k (List.mem_of_mem_take hk), List.length_take]
    have := at_lt hj; lia
  rw [e, trimS_take hj hs, List.append_assoc, List.getElem?_append_right (by lia), hl, Nat.sub_self]
  rfl
noncomputable def idxG (ks : List Nat) : Val → Option Val
  | .int p => some (.int ((ks.idxOf p.toNat : Nat) : Int))
  | _ => none
theorem filterMap_idx {ks : List Nat} : ∀ {l : List Nat}, ((l.map fun (n : Nat) => (n : Int)).map Val.int).filterMap (idxG ks) = ((l.map fun p => ((ks.idxOf p : Nat) : Int))).map Val.int
  | [] => rfl
  | m :: l => by
    rw [List.map_cons, List.map_cons, List.filterMap_cons]
    show _ :: _ = _
    rw [filterMap_idx]; rfl
theorem first_idx {ks : List Nat} {p : Nat} (hn : ks.Nodup) (hp : p ∈ ks) : firstAt ((ks.map fun (n : Nat) => (n : Int)).map .int) (.int (p : Int)) (ks.idxOf p) := by
  obtain ⟨j, hj⟩ := List.getElem?_of_mem hp
  rw [idxOf_at hn hj]
  refine ⟨⟨.int (p : Int), by rw [List.getElem?_map, List.getElem?_map, hj]; rfl, eqv_self (by rfl)⟩, fun i x hi hx => ?_⟩
  obtain ⟨q, hq, rfl⟩ := nats_at hx
  have hne : q ≠ p := fun e => by
    subst e
    have := idxOf_at hn hq
    rw [idxOf_at hn hj] at this; lia
  simp only [PyData.eqv, Val.py]
  simpa using fun e => hne (by lia)
theorem fits_nats {l : List Nat} : Val.fits 8 ((l.map fun (n : Nat) => (n : Int)).map .int) = true := fits_ints
theorem evSliceTup2 {C : Cx} {ρ : Vars} {σ : Store} {Q : Val → Store → Prop} {X : XPost} {o : Expr} {k : Nat} {cp p pos : Pos}
    (h : Ev C ρ σ o (fun d σ₁ => ∃ x xs, d = .tup (x :: xs) ∧ xs.length ≤ 1000 ∧ Q (.tup xs) σ₁) X) : Ev C ρ σ (.Subscript o (.Slice (some (.Constant (.int 1) k cp)) none none p) pos) Q X :=
  Ev.intro fun base s H => by
    refine Subscript_ (h.run H (fun v d σ₁ s₁ H₁ P₁ r₁ ⟨x, xs, e, hz, q⟩ => ?_) fun z9a z9b x => x)
    subst e
    simp only [RepV] at r₁
    obtain ⟨a, vs, rfl, htup, nb, rs⟩ := r₁
    obtain ⟨w₁, ws, rfl, rx, rs⟩ := (by simpa only [RepVs] using rs : ∃ v ws, vs = v :: ws ∧ RepV C.bad s₁.heap x v ∧ RepVs C.bad s₁.heap xs ws)
    have hlen := rs.length
    refine wpAny_Slice (evalPart_some_step (wpAny_Constant_int (evalPart_none_step (evalPart_none_step ?_))))
    refine tail_any (T := "tuple") (htup.push _).typeIs PySem.F.slot_tuple_getitem.lookup (getItem_tuple_from (a := 1) (htup.push _) (Heap.IsSliceOf.new ..) (Nat.le_refl _) (by simp) ?_ (by simp only [List.size_toArray, List.length_cons]; show _ ≤ 2 ^ 24; lia)) (by rfl)
    have k2 : ∀ b o, s₁.heap.get? b = some o → ((s₁.heap.push { cls := .type "slice", data := .fields #[.int 1 s₁.toks, .none, .none] }).push { cls := .type "tuple", data := .seq (List.toArray ws) }).get? b = some o := fun b o e => Heap.get?_push_of_some _ (Heap.get?_push_of_some _ e)
    refine ⟨.tup xs, σ₁, H₁.grow (t := s₁.toks + 1) k2, ?_, q⟩
    simp only [RepV]
    refine ⟨_, ws, rfl, ⟨_, Heap.get?_push_size _ rfl, rfl, 0, rfl⟩, H₁.notBad (Heap.get?_none_of_le ?_), rs.keep (.of_keeps k2)⟩
    show s₁.heap.objs.size ≤ (s₁.heap.push _).objs.size
    rw [Heap.size_push]; exact Nat.le_succ _
noncomputable def fn275 (p : Params) : FnAt p 275 := ⟨_, _, ⟨_, rfl, rfl⟩, rfl⟩
theorem is_trimmed_spec {C : Cx} {ρ σ} (T : Tops C) (hr : 10 ≤ C.room) {X : XPost} {x dd as am x' dd' as' am' ak : Addr} {n : Nat} {ss : List Stp} {ts : List Int} {e e' : Int} {last : Nat} (G : Good n ss) (hn4 : n ≤ 4) (hz : ss.length ≤ 60) (hts : ts.length ≤ 60) (hl : last < ss.length)
    (P : PAt σ x dd as am (ss.map Stp.val) ((0 :: ts).map .int) e) (P' : PAt σ x' dd' as' am' ((trimS ss (kept (prOf ss) last) (kept (prOf ss) last)).map Stp.val) ((0 :: ts).map .int) e') (hk : σ ak = some (.list (((kept (prOf ss) last).map fun (n : Nat) => (n : Int)).map .int))) :
    Cal C ρ σ (.ref 275) [.ref x, .ref x', .ref ak] (fun d σ' => d = .bool true ∧ σ' = σ) X := by
  refine Cal.drop (X := X) (X' := noX) ?_ (fun z9a z9b z9c h => h.elim)
  refine FnAt.enter T (fn275 _) (by kernel_rfl) ["proof", "late", "kept"] (by lia) (bind3 fun z9a z9b z9c => by rfl) (by kernel_rfl) rfl (by kernel_rfl) fun C' T' KN hr' hw hF => ?_
  refine Ex.lq ?_; intro Q₀
  have hd := G.down
  have hkm : ∀ k ∈ kept (prOf ss) last, k < ss.length := fun k hk => by have := kept_le hk; lia
  have hnd : (kept (prOf ss) last).Nodup := kept_sorted.imp fun h => by lia
  have hkl : (kept (prOf ss) last).length ≤ 60 := by have := kept_len (pr := prOf ss) (last := last); lia
  have hclo : ∀ k ∈ kept (prOf ss) last, ∀ p ∈ prOf ss k, p ∈ kept (prOf ss) last := fun k h p hp => kept_closed hd h hp
  revert P' hk hkm hnd hkl hclo; refine gen (kept (prOf ss) last) ?_; intro ks; set_option tactic.hygienic false in intros
  have lenT : ((trimS ss ks ks).map Stp.val).length = ks.length := by rw [List.length_map, trimS_len hkm]
  have lenK : ((ks.map fun (n : Nat) => (n : Int)).map Val.int).length = ks.length := by simp
  refine Ex.cons (Ex1.ite (Tst.boolop (Tsts.or_cons (Tst.cmp (evB1 T' KN (evSteps T'.K (nmL KN (by rfl) (by rfl) (psI P' (Cal.lenN P'.steps lenT (by lia) (evB1 T' KN (nmC KN (by rfl) (by rfl) (Cal.lenN hk lenK (by lia) (Bin.neR (r := false) (by rfl) (by rfl) (eqv_self (by rfl)) (brF ?_))))))))))))))
  refine Tsts.or_cons (Tst.cmp (evNamed T'.K (nmL KN (by rfl) (by rfl) (psI P' (evNamed T'.K (nmL KN (by rfl) (by rfl) (psI P (Bin.neListR (r := false) P'.names P.names fits_ints fits_ints (eqv_same fits_ints) (brF (Tsts.or_nil ⟨(fun q => nomatch q), fun z9a => Ex.nil ?_⟩))))))))))
  refine Ex.cons (Ex1.for T'.quiet (.inl hF) (ItE.range1 (nmT T' KN (by rfl) (by kernel_rfl) (by rfl) (callI (.typ _) Keeps.type (Evs.one (evB1 T' KN (nmC KN (by rfl) (by rfl) (Cal.lenN hk lenK (by lia) (rg1I (by lia) (by lia) ?_)))) fun z9a => by rfl))) (star1 fun z9a => by rfl)))
  refine forI (fun i ρ₂ σ₂ => Ag ["place", "rule", "clause", "premises", "note", "stand", "var", "k"] ρ₂ _ ∧ Sub σ σ₂) ⟨Ag.refl, Sub.refl _⟩ ?_ ?_
  · intro J₀ Q₁; rintro i y ρ₂ σ₂ hy ⟨hag, hsub⟩ hkeep
    obtain ⟨hi, rfl⟩ := rangeL_at hy
    obtain ⟨k, hki⟩ := at_of hi
    have hkk : k ∈ ks := List.mem_of_getElem? hki
    obtain ⟨s, hs⟩ := at_of (hkm k hkk)
    have hpr := prOf_at hs
    obtain ⟨g1, g2, g3⟩ := G.cl k s hs
    obtain ⟨g4, g5, g6⟩ := G.prem hs
    have hpm : ∀ p ∈ s.prem, p ∈ ks := fun p hp => hclo k hkk p (by rw [hpr]; exact hp)
    have P2 := P.sub hsub
    have P2' := P'.sub hsub
    have hk2 := hsub _ _ hk
    refine As.local (KN.at_ _ _ (by rfl)) ?_
    refine Ex.lq ?_; intro Q₅
    have hproof : ∀ {ρ₃ : Vars}, Ag ["place", "rule", "clause", "premises", "note", "stand", "var", "k"] ρ₃ (fun x_1 => List.lookup x_1 ((["proof", "late", "kept"] : List Str).zip [Val.ref x, Val.ref x', Val.ref ak])) → ρ₃ "proof" = some (.ref x) := fun h => h.to (by decide) (by rfl)
    have hlate : ∀ {ρ₃ : Vars}, Ag ["place", "rule", "clause", "premises", "note", "stand", "var", "k"] ρ₃ (fun x_1 => List.lookup x_1 ((["proof", "late", "kept"] : List Str).zip [Val.ref x, Val.ref x', Val.ref ak])) → ρ₃ "late" = some (.ref x') := fun h => h.to (by decide) (by rfl)
    have hkept : ∀ {ρ₃ : Vars}, Ag ["place", "rule", "clause", "premises", "note", "stand", "var", "k"] ρ₃ (fun x_1 => List.lookup x_1 ((["proof", "late", "kept"] : List Str).zip [Val.ref x, Val.ref x', Val.ref ak])) → ρ₃ "kept" = some (.ref ak) := fun h => h.to (by decide) (by rfl)
    have ag0 := hag.set (x := "place") (v := .int (i : Int)) (by simp)
    have hatk : ((ks.map fun (n : Nat) => (n : Int)).map Val.int)[((i : Int)).toNat]? = some (.int (k : Int)) := by rw [Int.toNat_natCast, List.getElem?_map, List.getElem?_map, hki]; rfl
    have hats : (ss.map Stp.val)[((k : Int)).toNat]? = some s.val := by rw [Int.toNat_natCast]; exact steps_at hs
    have hatT : ((trimS ss ks ks).map Stp.val)[((i : Int)).toNat]? = some (renum ks s).val := by rw [Int.toNat_natCast]; exact steps_at (trimS_at hkm hki hs)
    have hkb := hkm k hkk
    refine Ex.cons (Ex1.assign (Ev.sub (evSteps T'.K (nmL KN (by rfl) (hproof ag0) (psI P2 (Ev.sub (nmC KN (by rfl) (hkept ag0) (nmL KN (by rfl) (by rfl) (Bin.itemList hk2 (by lia) (by lia) hatk (Bin.itemList P2.steps (by lia) (by lia) hats ?_))))))))))
    refine As.tuple T'.quiet (Ass.cons (As.local (KN.at_ _ _ (by rfl)) (Ass.cons (As.local (KN.at_ _ _ (by rfl)) (Ass.cons (As.local (KN.at_ _ _ (by rfl)) (Ass.cons (As.local (KN.at_ _ _ (by rfl)) (Ass.nil ?_)) (by rfl))) (by rfl))) (by rfl))) (by rfl)) (by rfl) (by rfl)
    have ag := (((ag0.set (x := "rule") (v := .str (ruleS s.res)) (by simp)).set (x := "clause") (v := clV s.cl) (by simp)).set (x := "premises") (v := natsV s.prem) (by simp)).set (x := "note") (v := s.note) (by simp)
    have hplen : ((s.prem.map fun (n : Nat) => (n : Int)).map Val.int).length = s.prem.length := by simp
    have hval : Val.tup [.str (ruleS s.res), clV s.cl, .tup ((s.prem.map fun p => ((ks.idxOf p : Nat) : Int)).map Val.int), s.note] = (renum ks s).val := by
      show _ = Val.tup _
      simp only [renum, natsV, clV, List.map_map, Stp.note]
      rfl
    refine Ex.cons (Ex1.ite (Tst.cmp (Ev.sub (evSteps T'.K (nmL KN (by rfl) (hlate ag) (psI P2' (nmL KN (by rfl) (by rfl) (Bin.itemList P2'.steps (by lia) (by lia) hatT (Ev.tuple (Evs.four (nmL KN (by rfl) (by rfl) (nmL KN (by rfl) (by rfl) (evT1 T' KN (evCompOf KN T'.quiet (by kernel_rfl) (ItE.of_ev (nmL KN (by rfl) (by rfl) ((ofT ⟨by rw [hplen]; lia, idxG ks, fun z9a C'' hC y hy ρ₃ hcap => ?_, fun a1 ha1 => ?_⟩)))))))) (fun z9a => by rfl) (fun z9a => by rfl) (fun z9a => by rfl) (fun z9a => by rfl)))))))))))
    · obtain ⟨p', hp', rfl⟩ := List.mem_map.mp hy
      obtain ⟨p, hp, rfl⟩ := List.mem_map.mp hp'
      have KNc := Kn.comp hC
      refine tgtName hC (by rfl) hcap fun ρ₄ h1 h2 => ?_
      have hk4 : ρ₄ "kept" = some (.ref ak) := (h2 "kept" (by rfl)).trans (hkept ag)
      exact ⟨rfl, rfl, fun z9a => Ev.callL PySem.F.slot_list_index PySem.F.type_list_index (nmC KNc (by rfl) hk4 ⟨ak, _, rfl, hk2, Evs.one (nmL KNc (by rfl) h1 (Cal.index hk2 (by rfl) fits_nats (by rw [lenK]; lia) (first_idx hnd (hpm p hp)) ⟨rfl, rfl⟩)) fun z9a => by rfl⟩) (star1 fun z9a => by rfl)⟩
    rw [filterMap_idx]
    have S3 := hsub.new (o := .list ((s.prem.map fun p => ((ks.idxOf p : Nat) : Int)).map .int)) ha1
    refine Cal.tupleOf (Store.set_same _ _ _) (by simp; lia) (nmL KN (by rfl) (by rfl) ⟨by simp, ?_⟩)
    rw [hval]
    refine Bin.neR (r := false) fit_stp fit_stp (eqv_self fit_stp) (brF (Ex.nil ?_))
    generalize σ₂.set a1 (.list ((s.prem.map fun p => ((ks.idxOf p : Nat) : Int)).map .int)) = σ₃ at S3 ⊢
    have P3 := P'.sub S3
    refine Ex.cons (Ex1.ite (Tst.cmp (nmL KN (by rfl) (by rfl) (Ev.str (Bin.eq (by cases s.res <;> simp [Val.fit, ruleS] <;> decide +kernel) (by simp [Val.fit]; decide +kernel) (brB (fun hb => ?_) (fun hb => Ex.nil (Ex.nil ⟨fun a q => (nomatch q), ag, S3⟩))))))))
    have hres : s.res = true := by
      cases q : s.res with
      | true => rfl
      | false => rw [q] at hb; exact absurd hb (by simp [ruleS, PyData.eqv, Val.py]; decide)
    obtain ⟨first, prs, q1, q2, q3, q4, q5, q6, q7⟩ := G.res k s hs hres
    have hkss : k < ss.length := hkm k hkk
    -- a premise under its new number
    have hnew : ∀ p, p ∈ s.prem → p < ss.length ∧ ∃ t, ss[p]? = some t ∧ ((trimS ss ks ks).map Stp.val)[ks.idxOf p]? = some (.tup [.str (ruleS t.res), clV ((clsOf ss).getD p []), natsV (renum ks t).prem, (renum ks t).note]) ∧ ks.idxOf p < ks.length := fun p hp => by
      obtain ⟨j, hj⟩ := List.getElem?_of_mem (hpm p hp)
      have hpl := hkm p (hpm p hp)
      obtain ⟨t, ht⟩ := at_of hpl
      rw [idxOf_at hnd hj]
      refine ⟨hpl, t, ht, ?_, at_lt hj⟩
      rw [steps_at (trimS_at hkm hj ht), cls_getD ht]; rfl
    obtain ⟨f1, t₀, f2, f3, f4⟩ := hnew first (by rw [q3]; exact List.mem_cons_self)
    obtain ⟨c01, c02, c03⟩ := G.cls f1
    have hprem' : (renum ks s).prem = ks.idxOf first :: prs.map fun p => ks.idxOf p.2 := by
      simp [renum, q3, List.map_map]
    have hnote : s.note = .tup ((prs.map (·.1)).map .int) := by unfold Stp.note; rw [hres, q4]; rfl
    have hev2 : ∀ {C₁ : Cx} {ρ₃ : Vars} {σ₄ : Store} {Q : Val → Store → Prop} {p1 p2 p3 p4 p5 p6 : Pos} {kk}, Tops C₁ → Kn C₁ (fn275 C.w.params).fd.scope.names → Sub σ σ₄ → ρ₃ "late" = some (.ref x') → ρ₃ "place" = some (.int (i : Int)) → Q (natsV (ks.idxOf first :: prs.map fun p => ks.idxOf p.2)) σ₄ →
        Ev C₁ ρ₃ σ₄ (.Subscript (.Subscript (.Attribute (.Name "late" p1) "steps" p2) (.Name "place" p3) p4) (.Constant (.int 2) kk p5) p6) Q noX := fun T₁ K₁ h1 h2 h3 q =>
      Ev.sub (Ev.sub (evSteps T₁.K (nmL K₁ (by rfl) h2 (psI (P'.sub h1) (nmL K₁ (by rfl) h3 (Bin.itemList (P'.sub h1).steps (by lia) (by lia) hatT (Ev.int (Bin.itemTup (d := natsV (renum ks s).prem) (by lia) (by rfl) (by rw [hprem']; exact q) (by simp)))))))))
    have hq6 : ∀ p ∈ prs, 1 ≤ p.1 ∧ p.1 ≤ 4 ∧ p.2 < ss.length := fun p hp => by have := q6 p hp; lia
    have hchain : chainC (clsOf ss) ((clsOf ss).getD first []) prs = some s.cl := by
      rw [← q7]
      exact chain_eq c01 (fun k hk => (G.cls (by rwa [cls_len] at hk)).1) fun p hp => ⟨(hq6 p hp).1, by rw [cls_len]; exact (hq6 p hp).2.2⟩
    refine Ex.cons (Ex1.assign (evM 147 T' (nmL KN (by rfl) (hlate ag) (psI P3 (Evs.one (Ev.sub (hev2 T' KN S3 (hlate ag) (by rfl) (Ev.int (Bin.itemTup (d := .int ((ks.idxOf first : Nat) : Int)) (by lia) (by rfl) ((clause_spec T' (by lia) P3 (by rw [lenT]; lia) f3).mono (fun d σ' hd => ?_) fun z9a z9b z9c z => z) (by simp; lia))))) fun z9a => by rfl))) (star1 fun z9a => by rfl)))
    obtain ⟨rfl, rfl⟩ := hd
    refine As.local (KN.at_ _ _ (by rfl)) ?_
    have ag5 := ag.set (x := "stand") (v := clV ((clsOf ss).getD first [])) (by simp)
    have hlate5 := hlate ag5
    have hnote5 : ((((((ρ₂.set "place" (.int (i : Int))).set "rule" (.str (ruleS s.res))).set "clause" (clV s.cl)).set "premises" (natsV s.prem)).set "note" s.note).set "stand" (clV ((clsOf ss).getD first []))) "note" = some (.tup ((prs.map (·.1)).map .int)) := by rw [← hnote]; rfl
    refine Ex.cons (Ex1.forZip T'.quiet (nmT T' KN (by rfl) (by kernel_rfl) (by rfl) ⟨rfl, Evs.two (nmL KN (by rfl) hnote5 (evSliceTup2 (hev2 T' KN S3 hlate5 (by rfl) ⟨_, ((prs.map fun p => ks.idxOf p.2).map fun (n : Nat) => (n : Int)).map .int, rfl, by simp; lia, _, _, rfl, by simp, ?_⟩))) (fun z9a => by rfl) (fun z9a => by rfl)⟩) (starS (fun z9a => by rfl) (star1 fun z9a => by rfl)))
    refine ⟨fun j ρ₆ σ₆ => Ag ["var", "k", "stand"] ρ₆ ((((((ρ₂.set "place" (.int (i : Int))).set "rule" (.str (ruleS s.res))).set "clause" (clV s.cl)).set "premises" (natsV s.prem)).set "note" s.note).set "stand" (clV ((clsOf ss).getD first []))) ∧ σ₆ = σ' ∧ ∃ c, ρ₆ "stand" = some (clV c) ∧ chainC (clsOf ss) ((clsOf ss).getD first []) (prs.take j) = some c ∧ Small c ∧ c.length ≤ 4, ⟨Ag.refl, rfl, (clsOf ss).getD first [], by rfl, rfl, c03.small hn4, c02⟩, ?_, ?_⟩
    · rintro t j u v ρ₆ σ₆ hu hv ⟨hag6, rfl, c, hst6, hch6, hcS, hcL⟩
      have hjl : j < prs.length := by have := at_lt hu; simpa using this
      obtain ⟨p, hp⟩ := at_of hjl
      obtain rfl : u = .int p.1 := by rw [List.getElem?_map, List.getElem?_map, hp] at hu; simpa using hu.symm
      obtain rfl : v = .int ((ks.idxOf p.2 : Nat) : Int) := by rw [List.getElem?_map, List.getElem?_map, List.getElem?_map, hp] at hv; simpa using hv.symm
      have hpmem : p ∈ prs := List.mem_of_getElem? hp
      obtain ⟨b1, b2, b3⟩ := hq6 p hpmem
      obtain ⟨e1, t₁, e2, e3, e4⟩ := hnew p.2 (by rw [q3]; exact List.mem_cons_of_mem _ (List.mem_map_of_mem hpmem))
      obtain ⟨d01, d02, d03⟩ := G.cls e1
      have KW := KN.wb (t := t)
      have TW := T'.wb (t := t)
      refine As.tuple TW.quiet (Ass.cons (As.local (KW.at_ _ _ (by rfl)) (Ass.cons (As.local (KW.at_ _ _ (by rfl)) (Ass.nil ?_)) (by rfl))) (by rfl)) (by rfl) (by rfl)
      refine Ex.lq ?_; intro Q₆
      have ag7 := (hag6.set (x := "var") (v := .int p.1) (by simp)).set (x := "k") (v := .int ((ks.idxOf p.2 : Nat) : Int)) (by simp)
      have hrW : (C'.wb t).room = C'.room := rfl
      refine Ex.cons (Ex1.assign (evF3 238 TW KW (nmL KW (by rfl) (by exact hst6) (evM 147 TW (nmL KW (by rfl) (ag7.to (by decide) hlate5) (psI P3 (Evs.one (nmL KW (by rfl) (by rfl) ((clause_spec TW (by lia) P3 (by rw [lenT]; lia) e3).mono (fun d σd hd => ?_) fun z9a z9b z9c z => z)) fun z9a => by rfl))) (star1 fun z9a => by rfl)))))
      obtain ⟨rfl, rfl⟩ := hd
      refine nmL KW (by rfl) (by rfl) ((clashing_spec TW (by lia) hcS (d03.small hn4) (by lia) (by lia)).mono (fun d σe hd => ?_) fun z9a z9b z9c z => z)
      obtain ⟨rfl, rfl⟩ := hd
      refine As.local (KW.at_ _ _ (by rfl)) ?_
      have htk : prs.take (j + 1) = prs.take j ++ [p] := by rw [List.take_add_one, hp]; rfl
      have hch7 : chainC (clsOf ss) ((clsOf ss).getD first []) (prs.take (j + 1)) = clashF c ((clsOf ss).getD p.2 []) p.1 := by
        rw [htk, chainC_append, hch6]
        show (clashF c ((clsOf ss).getD p.2 []) p.1).bind _ = _
        cases clashF c ((clsOf ss).getD p.2 []) p.1 <;> rfl
      obtain ⟨c', hc'⟩ : ∃ c', clashF c ((clsOf ss).getD p.2 []) p.1 = some c' := by
        have := hchain
        rw [← List.take_append_drop (j + 1) prs, chainC_append, hch7] at this
        cases q : clashF c ((clsOf ss).getD p.2 []) p.1 with
        | none => rw [q] at this; cases this
        | some c' => exact ⟨c', rfl⟩
      obtain ⟨s1, s2⟩ := clashF_small hcS (d03.small hn4) hc'
      have ag8 := ag7.set (x := "stand") (v := optV (clashF c ((clsOf ss).getD p.2 []) p.1)) (by simp)
      refine Ex.cons (Ex1.ite (Tst.cmp (nmL KW (by rfl) (by rfl) (Ev.none (Bin.isNoneR (r := false) (by rw [hc']; rfl) (brF (Ex.nil (Ex.nil ⟨ag8, rfl, c', ?_, hch7.trans hc', s1, s2⟩))))))))
      rw [Vars.set_eq, hc']; rfl
    · rintro ρ₆ σ₆ ⟨hag6, rfl, c, hst6, hch6, hcS, hcL⟩
      rw [List.length_map, List.length_map, List.take_length, hchain] at hch6
      cases hch6
      refine Ex.cons (Ex1.ite (Tst.cmp (nmL KN (by rfl) hst6 (nmL KN (by rfl) (hag6.to (by decide) (by rfl)) (Bin.neR (r := false) fit_clV fit_clV (eqv_self fit_clV) (brF (Ex.nil (Ex.nil (Ex.nil ⟨fun a q => (nomatch q), fun y hy => ?_, S3⟩)))))))))
      exact (hag6 y (by simp at hy ⊢; simp [hy])).trans (ag5 y hy)
  · rintro ρ₂ σ₂ ⟨hag, hsub⟩ hkeep
    exact Ex.cons (Ex1.ret (Ev.bool ⟨σ, hsub, rfl, rfl⟩))
end Mine
set_option tactic.hygienic false
namespace Mine
open PySem PySem.W PyProof.Rows PySem.Calls
set_option maxRecDepth 100000
noncomputable def fn280 (p : Params) : FnAt p 280 := ⟨_, _, ⟨_, rfl, rfl⟩, rfl⟩
noncomputable def LQ : Out → Vars → Store → Prop := fun o z9a z9b => o = .ret (.bool true)
structure E4 (ρ : Vars) (af x ac : Addr) (n : Nat) : Prop where
  feed : ρ "feed" = some (.ref af)
  proof : ρ "proof" = some (.ref x)
  clauses : ρ "clauses" = some (.ref ac)
  n : ρ "n" = some (.int (n : Int))
theorem E4.ag {l : List Str} {ρ ρ' : Vars} {af x ac : Addr} {n : Nat} (h : E4 ρ' af x ac n) (a : Ag l ρ ρ') (h1 : ("feed" : Str) ∉ l := by decide) (h2 : ("proof" : Str) ∉ l := by decide) (h3 : ("clauses" : Str) ∉ l := by decide) (h4 : ("n" : Str) ∉ l := by decide) : E4 ρ af x ac n :=
  ⟨a.to h1 h.feed, a.to h2 h.proof, a.to h3 h.clauses, a.to h4 h.n⟩
theorem E4.set {ρ : Vars} {af x ac : Addr} {n : Nat} {y : Str} {v : Val} (h : E4 ρ af x ac n) (hy : y ∉ (["feed", "proof", "clauses", "n"] : List Str) := by decide) : E4 (ρ.set y v) af x ac n := by
  simp only [List.mem_cons, List.not_mem_nil, or_false, not_or] at hy
  exact ⟨(Vars.set_ne (Ne.symm hy.1)).trans h.feed, (Vars.set_ne (Ne.symm hy.2.1)).trans h.proof, (Vars.set_ne (Ne.symm hy.2.2.1)).trans h.clauses, (Vars.set_ne (Ne.symm hy.2.2.2)).trans h.n⟩
section
variable {C : Cx} {ρ : Vars} {σ : Store} {Q : Val → Store → Prop} {X : XPost} {pos : Pos}
theorem evStepsE {o : Expr} (hK : C.K = hd.heap_39 C.w.params) (h : Ev C ρ σ o (fun u σ' => ∃ y dd as am steps names e, u = .ref y ∧ PAt σ' y dd as am steps names e ∧ Q (.ref as) σ') X) (hb : attributeBase o "steps" C.env (eval o C.env) = eval o C.env := by rfl) : Ev C ρ σ (.Attribute o "steps" pos) Q X :=
  Ev.attr (h.mono fun u σ' z => by
    obtain ⟨y, dd, as, am, steps, names, e, hu, P, q⟩ := z
    exact ⟨y, 219, dd, _, _, hu, P.obj, P.dict, by rw [hK]; exact PAt.attrS _, rfl, fun i h => (nomatch h), q⟩) hb
end
theorem eqv_tup0 {c : List Int} : PyData.eqv (clV c).py (Val.tup []).py = c.isEmpty := by
  show PyData.eqvAll (Val.pys (c.map Val.int)) (Val.pys []) = _
  exact eqv_nil
theorem cnt_all {ss : List Stp} : cntR ss false + cntR ss true = ss.length := by
  unfold cntR
  induction ss with
  | nil => rfl
  | cons s ss ih =>
    simp only [List.filter_cons, List.length_cons]
    cases s.res <;> simp at ih ⊢ <;> lia
noncomputable def inpG : Val → Option Val
  | .tup (.str r :: xs) => if r = ("input" : Str) then some (.tup (.str r :: xs)) else none
  | _ => none
theorem inp_val {s : Stp} : inpG s.val = if s.res then none else some s.val := by
  show (if ruleS s.res = ("input" : Str) then some _ else none) = _
  cases h : s.res with
  | true => rw [if_neg (by show ¬ (("resolve" : Str) = "input"); decide)]; rfl
  | false => rw [if_pos (by rfl)]; simp [Stp.val, h]
theorem filterMap_inp : ∀ {ss : List Stp}, (ss.map Stp.val).filterMap inpG = (ss.filter fun s => s.res == false).map Stp.val
  | [] => rfl
  | s :: ss => by
    rw [List.map_cons, List.filterMap_cons, inp_val, filterMap_inp, List.filter_cons]
    cases s.res <;> rfl
end Mine
set_option tactic.hygienic false
namespace Mine
open PySem PySem.W PyProof.Rows PySem.Calls
set_option maxRecDepth 100000
theorem law_E {C : Cx} {ρ : Vars} {σ : Store} (T : Tops C) (KN : Kn C (fn280 C.w.params).fd.scope.names) (hF : C.Fn) (hr : 40 ≤ C.room) {af an x dd as am ac : Addr} {n m : Nat} {ts : List Int} {ss : List Stp} {e : Int} (E : E4 ρ af x ac n) (hmany : ρ "many" = some (.int (ss.length : Int))) (L : Lw σ af an x dd as am ac n m ts ss e) (hz : ss.length ≤ 20) (hts : ts.length ≤ 60) (hn : n ≤ 4) :
    Ex C ρ σ ((fn280 C.w.params).body.drop 15) LQ noX := by
  refine Ex.cons (Ex1.assign (evM 211 T (nmC KN (by rfl) E.proof (psI L.P (Evs.nil ((counts_spec T (by lia) L.P (by lia)).mono (fun d σ₁ hd => ?_) fun z9a z9b z9c z => z)))) star0))
  obtain ⟨ad, kvs, had, rfl, rfl, hkv⟩ := hd
  refine As.local (KN.at_ _ _ (by rfl)) ?_
  have E1 := E.set (y := "counts") (v := .ref ad)
  have hmany1 : (ρ.set "counts" (.ref ad)) "many" = some (.int (ss.length : Int)) := (Vars.set_ne (by decide)).trans hmany
  have hcn : (ρ.set "counts" (.ref ad)) "counts" = some (.ref ad) := Vars.set_eq
  have L1 := L.sub (Sub.new (Sub.refl σ) (o := .sdict kvs) had)
  have had1 : (σ.set ad (.sdict kvs)) ad = some (.sdict kvs) := Store.set_same _ _ _
  revert E1 hmany1 hcn; refine gen (ρ.set "counts" (.ref ad)) ?_; intro ρ₁; set_option tactic.hygienic false in intros
  revert L1 had1; refine gen (σ.set ad (.sdict kvs)) ?_; intro σ₁; set_option tactic.hygienic false in intros
  have lenS : (ss.map Stp.val).length = ss.length := by simp
  have hg : ∀ {b : Bool} {Q : Val → Store → Prop} {σ' : Store} {k : Str} {p1 p2 p3 : Pos} {kk}, k = ruleS b → σ' ad = some (.sdict kvs) → Q (.int (cntR ss b : Int)) σ' → Ev C ρ₁ σ' (.Subscript (.Name "counts" p1) (.Constant (.str k) kk p2) p3) Q noX := fun hk h q => by
    subst hk
    exact Ev.sub (nmL KN (by rfl) hcn (Ev.str (Bin.itemSdict h (hkv _) q)))
  have hall := cnt_all (ss := ss)
  have hcl : (ss.filter fun s => s.res == false).length = cntR ss false := rfl
  refine Ex.cons (Ex1.ite (Tst.boolop (Tsts.or_cons (Tst.cmp (Ev.binop (hg (b := false) (by rfl) had1 (hg (b := true) (by rfl) had1 (Bin.add (nmL KN (by rfl) hmany1 (Bin.neR (r := false) (by rfl) (by rfl) ?_ (brF ?_)))))))))))
  · have : (cntR ss false : Int) + (cntR ss true : Int) = (ss.length : Int) := by lia
    rw [this]; exact eqv_self (by rfl)
  refine Tsts.or_cons (Tst.cmp (hg (b := false) (by rfl) had1 (evB1 T KN (evCompOf KN T.quiet (by kernel_rfl) (ItE.of_ev (evSteps T.K (nmC KN (by rfl) E1.proof (psI L1.P (.inl ⟨as, _, rfl, L1.P.steps, by rw [lenS]; lia, inpG, fun z9a C'' hC y hy ρ₃ hcap => ?_, fun a1 ha1 => ?_⟩)))))))))
  · obtain ⟨s, hs, rfl⟩ := List.mem_map.mp hy
    have KNc := Kn.comp hC
    refine tgtName hC (by rfl) hcap fun ρ₄ g1 g2 => ?_
    refine Tst.cmp (Ev.sub (nmL KNc (by rfl) g1 (Ev.int (Bin.itemTup (d := .str (ruleS s.res)) (by lia) (by rfl) (Ev.str (Bin.eq (by cases s.res <;> simp [Val.fit, ruleS] <;> decide +kernel) (by simp [Val.fit]; decide +kernel) ⟨_, rfl, rfl, ?_, fun hq => nmL KNc (by rfl) g1 ⟨rfl, ?_⟩⟩)) (by simp)))))
    · rw [inp_val]
      cases s.res <;> simp [ruleS, PyData.eqv, Val.py] <;> decide
    · rw [inp_val]
      cases h : s.res with
      | false => rfl
      | true => rw [h] at hq; exact absurd hq (by simp [ruleS, PyData.eqv, Val.py]; decide)
  rw [filterMap_inp]
  have S2 := (Sub.refl σ₁).new (o := .list ((ss.filter fun s => s.res == false).map Stp.val)) ha1
  refine Cal.lenN (n := cntR ss false) (Store.set_same _ _ _) (by rw [List.length_map, hcl]) (by lia) (Bin.neR (r := false) (by rfl) (by rfl) (eqv_self (by rfl)) (brF (Tsts.or_nil ⟨(fun q => nomatch q), fun z9a => Ex.nil ?_⟩)))
  have L2 := L1.sub S2
  generalize σ₁.set a1 (.list ((ss.filter fun s => s.res == false).map Stp.val)) = σ₂ at S2 L2 ⊢
  have G := L.good
  have hanyE : ((clsOf ss).map clV).any (fun y => PyData.eqv y.py (Val.tup []).py) = (clsOf ss).any List.isEmpty := by
    rw [List.any_map]
    congr 1
    funext c; exact eqv_tup0
  refine Ex.cons (Ex1.ite (Tst.cmp (Ev.tuple (Evs.nil ⟨by simp, nmC KN (by rfl) E1.clauses (Bin.notInList L2.cls (by rfl) fits_cls (brB (fun hb => ?_) (fun hb => Ex.nil ?_)))⟩))))
  · rw [hanyE] at hb
    have hneg : e = -1 := by
      rcases L.emp with ⟨h, _⟩ | ⟨j, _, s, h1, h2, _⟩
      · exact h
      · have : (clsOf ss).any List.isEmpty = true := List.any_eq_true.mpr ⟨s.cl, List.mem_map_of_mem (List.mem_of_getElem? h1), by rw [h2]; rfl⟩
        rw [this] at hb; cases hb
    subst hneg
    refine Ex.cons (exTry T KN hF (by rfl) (Ex.cons (Ex1.expr (evM 199 T (nmC KN (by rfl) E1.proof (psI L2.P (Evs.nil ((trim_spec T (by lia) L2.P (by lia) hts G.down G.ok (fun q => by lia) fun z9a => ⟨rfl, fun ev => ?hx⟩).mono (fun d σ₄ hd => ?hn) fun z9a z9b z9c z => z)))) star0))))
    case hx =>
      have KNh := KN.hand (e := ev)
      exact Ex.cons (Ex1.ret (Ev.cmp (evEmpty (C := C.hand ev) T.K (nmC KNh (by rfl) E1.proof (psI L2.P (Ev.unop (Ev.int (Una.neg (Bin.eqR (r := true) (by rfl) (by rfl) (eqv_self (by rfl)) rfl)))))))))
    case hn =>
      obtain ⟨last, h, _⟩ := hd
      lia
  · rw [hanyE] at hb
    obtain ⟨j, rfl, s, h1, h2, h3⟩ : ∃ j : Nat, e = (j : Int) ∧ ∃ s, ss[j]? = some s ∧ s.cl = [] ∧ ∀ (i : Nat) (t : Stp), i < j → ss[i]? = some t → t.cl ≠ [] := by
      rcases L.emp with ⟨_, h⟩ | h
      · have : (clsOf ss).any List.isEmpty = false := List.any_eq_false.mpr fun c hc => by
          obtain ⟨s, hs, rfl⟩ := List.mem_map.mp hc
          have := h s hs
          simpa [List.isEmpty_iff] using this
        rw [this] at hb; cases hb
      · exact h
    have hjl := at_lt h1
    have hfirst : firstAt ((clsOf ss).map clV) (.tup []) j := by
      refine ⟨⟨clV s.cl, by rw [List.getElem?_map, cls_at h1]; rfl, by rw [eqv_tup0, h2]; rfl⟩, fun i y hi hy => ?_⟩
      obtain ⟨t, ht⟩ := at_of (show i < ss.length by lia)
      rw [List.getElem?_map, cls_at ht] at hy
      cases hy
      rw [eqv_tup0]
      have := h3 i t hi ht
      cases q : t.cl with
      | nil => exact absurd q this
      | cons _ _ => rfl
    have hidx : ∀ {σ' : Store} {Q : Val → Store → Prop} {p1 p2 p3 p4 : Pos} {kk : Nat}, Sub σ₂ σ' → (p2.endLine == p4.line) = true → Q (.int (j : Int)) σ' → Ev C ρ₁ σ' (.Call (.Attribute (.Name "clauses" p1) "index" p2) [.Tuple [] kk p3] [] p4) Q noX := fun h hp q =>
      Ev.callL PySem.F.slot_list_index PySem.F.type_list_index (nmC KN (by rfl) E1.clauses ⟨ac, _, rfl, h _ _ L2.cls, Evs.one (Ev.tuple (Evs.nil ⟨by simp, Cal.index (h _ _ L2.cls) (by rfl) fits_cls (by simp [clsOf]; lia) hfirst q⟩)) fun z9a => by rfl⟩) (star1 fun z9a => by rfl) (hn := by simp) (hline := hp)
    refine Ex.cons (Ex1.ret (Ev.boolop (Evb.andT (Ev.cmp (evEmpty T.K (nmC KN (by rfl) E1.proof (psI L2.P (hidx (Sub.refl _) (by rfl) (Bin.eqR (r := true) (by rfl) (by rfl) (eqv_self (by rfl)) ⟨rfl, ?_⟩)))))))))
    refine Evb.one (Ev.cmp (evStepsE T.K (evM 199 T (nmC KN (by rfl) E1.proof (psI L2.P (Evs.nil ((trim_spec T (by lia) L2.P (by lia) hts G.down G.ok (fun q => ⟨j, rfl, hjl⟩) fun q => by lia).mono (fun d σ₄ hd => ?_) fun z9a z9b z9c z => z)))) star0)))
    obtain ⟨last, hlast, _, x', dd', as', am', e', rfl, P', S4⟩ := hd
    obtain rfl : last = j := by lia
    refine ⟨_, _, _, _, _, _, _, rfl, P', ?_⟩
    have P4 := L2.P.sub S4
    refine evStepsE T.K (evM 192 T (nmC KN (by rfl) E1.proof (psI P4 (Evs.one (hidx S4 (by rfl) ((trimmed_spec T (by lia) P4 (by lia) hts G.down G.ok hjl).mono (fun d σ₅ hd => ?_) fun z9a z9b z9c z => z)) fun z9a => by rfl))) (star1 fun z9a => by rfl))
    obtain ⟨x2, dd2, as2, am2, e2, rfl, P2, S5⟩ := hd
    exact ⟨_, _, _, _, _, _, _, rfl, P2, Bin.eqListR (r := true) (S5 _ _ P'.steps) P2.steps fits_stps fits_stps (eqv_same fits_stps) rfl⟩
end Mine
set_option tactic.hygienic false
namespace Mine
open PySem PySem.W PyProof.Rows PySem.Calls
set_option maxRecDepth 100000
theorem kept_sound {n : Nat} {ss : List Stp} (G : Good n ss) (hn : n ≤ 4) {last : Nat} (hl : last < ss.length) {bs : List Bool} (h : ∀ k ∈ inputsOf ss (kept (prOf ss) last), holdsB bs ((clsOf ss).getD k []) = true) : ∀ m k, k < m → k ∈ kept (prOf ss) last → holdsB bs ((clsOf ss).getD k []) = true
  | 0, k, hk, _ => absurd hk (Nat.not_lt_zero _)
  | m + 1, k, hk, hm => by
    have hkl : k < ss.length := by have := kept_le hm; lia
    obtain ⟨s, hs⟩ := at_of hkl
    have hpr := prOf_at hs
    cases q : s.res with
    | false => exact h k (List.mem_filter.mpr ⟨hm, by rw [hs]; simp [q]⟩)
    | true =>
      obtain ⟨first, prs, q1, q2, q3, q4, q5, q6, q7⟩ := G.res k s hs q
      have ih : ∀ p ∈ s.prem, holdsB bs ((clsOf ss).getD p []) = true := fun p hp => kept_sound G hn hl h m p (by have := (G.prem hs).1 p hp; lia) (kept_closed G.down hm (by rw [hpr]; exact hp))
      rw [cls_getD hs]
      refine chain_sound ((G.cls (by lia)).2.2.small hn) (fun p hp => ⟨(q6 p hp).1, (G.cls (by have := (q6 p hp).2.2; lia)).2.2.small hn, ih _ (by rw [q3]; exact List.mem_cons_of_mem _ (List.mem_map_of_mem hp))⟩) q7 (ih _ (by rw [q3]; exact List.mem_cons_self))
noncomputable def keepG (ss : List Stp) : Val → Option Val
  | .int k => if (ss[k.toNat]?.map fun s => !s.res).getD false then some (.int k) else none
  | _ => none
theorem keep_int {ss : List Stp} {k : Nat} : keepG ss (.int (k : Int)) = if (ss[k]?.map fun s => !s.res).getD false then some (.int (k : Int)) else none := rfl
theorem keep_at {ss : List Stp} {k : Nat} {s : Stp} (h : ss[k]? = some s) : keepG ss (.int (k : Int)) = if s.res then none else some (.int (k : Int)) := by
  rw [keep_int, h]
  cases q : s.res <;> simp [q]
theorem filterMap_keep {ss : List Stp} : ∀ {l : List Nat}, ((l.map fun (n : Nat) => (n : Int)).map Val.int).filterMap (keepG ss) = ((inputsOf ss l).map fun (n : Nat) => (n : Int)).map Val.int
  | [] => rfl
  | k :: l => by
    unfold inputsOf
    rw [List.map_cons, List.map_cons, List.filterMap_cons, keep_int, filterMap_keep, List.filter_cons]
    cases (ss[k]?.map fun s => !s.res).getD false <;> rfl
noncomputable def natG (f : Nat → Val) : Val → Option Val
  | .int k => some (f k.toNat)
  | _ => none
theorem filterMap_nat {f : Nat → Val} : ∀ {l : List Nat}, ((l.map fun (n : Nat) => (n : Int)).map Val.int).filterMap (natG f) = l.map f
  | [] => rfl
  | k :: l => by
    rw [List.map_cons, List.map_cons, List.filterMap_cons]
    show _ :: _ = _
    rw [filterMap_nat]; rfl
theorem laps_sorted {ss : List Stp} (hL : LapsUp ss) {l : List Nat} (hl : l.Pairwise (· < ·)) : ((inputsOf ss l).map (lapOf ss)).Pairwise (· < ·) := by
  refine List.pairwise_map.mpr ?_
  have h1 : (inputsOf ss l).Pairwise (· < ·) := hl.filter _
  refine h1.imp_of_mem fun {i j} hi hj hij => ?_
  have a1 := (List.mem_filter.mp hi).2
  have a2 := (List.mem_filter.mp hj).2
  cases q1 : ss[i]? with
  | none => rw [q1] at a1; simp at a1
  | some s =>
    cases q2 : ss[j]? with
    | none => rw [q2] at a2; simp at a2
    | some t =>
      rw [q1] at a1; rw [q2] at a2
      simp at a1 a2
      unfold lapOf
      rw [q1, q2]
      exact hL i j s t q1 q2 a1 a2 hij
theorem inputs_mem {ss : List Stp} {l : List Nat} {k : Nat} (h : k ∈ inputsOf ss l) : k ∈ l ∧ ∃ s, ss[k]? = some s ∧ s.res = false := by
  obtain ⟨h1, h2⟩ := List.mem_filter.mp h
  cases q : ss[k]? with
  | none => rw [q] at h2; simp at h2
  | some s => rw [q] at h2; exact ⟨h1, s, rfl, by simpa using h2⟩
theorem law_D {C : Cx} {ρ : Vars} {σ : Store} (T : Tops C) (KN : Kn C (fn280 C.w.params).fd.scope.names) (hF : C.Fn) (hr : 40 ≤ C.room) {af an x dd as am ac : Addr} {n m : Nat} {ts : List Int} {ss : List Stp} {e : Int} (E : E4 ρ af x ac n) (hmany : ρ "many" = some (.int (ss.length : Int))) (L : Lw σ af an x dd as am ac n m ts ss e) (hm : m ≤ 10 ^ 4) (hz : ss.length ≤ 20) (h1 : 1 ≤ ss.length) (hts : ts.length ≤ 60) (hn : n ≤ 4) :
    Ex C ρ σ ((fn280 C.w.params).body.drop 9) LQ noX := by
  refine Ex.cons (Ex1.assign (evF2 228 T KN (nmC KN (by rfl) E.feed (nmL KN (by rfl) hmany ((dip_spec T (by lia) L.feed (by lia) h1).mono (fun d σ₁ hd => ?_) fun z9a z9b z9c z => z)))))
  obtain ⟨last, rfl, hl, F1, hs1⟩ := hd
  have L1 : Lw σ₁ af an x dd as am ac n (m + 1) ts ss e := L.off (fun b o hb e => by rw [hs1 b (by simpa using hb)]; exact e) F1
  have G := L.good
  refine As.local (KN.at_ _ _ (by rfl)) ?_
  have E1 := E.set (y := "last") (v := .int (last : Int))
  have hmany1 : (ρ.set "last" (.int (last : Int))) "many" = some (.int (ss.length : Int)) := (Vars.set_ne (by decide)).trans hmany
  have hlast1 : (ρ.set "last" (.int (last : Int))) "last" = some (.int (last : Int)) := Vars.set_eq
  revert E1 hmany1 hlast1; refine gen (ρ.set "last" (.int (last : Int))) ?_; intro ρ₁; set_option tactic.hygienic false in intros
  refine Ex.cons (Ex1.assign (evF2 260 T KN (nmC KN (by rfl) E1.proof (nmL KN (by rfl) hlast1 ((under_spec T (by lia) L1.P (by lia) G.down G.wf hl).mono (fun d σ₂ hd => ?_) fun z9a z9b z9c z => z)))))
  obtain ⟨ak, h', rfl, hak, hht, S2⟩ := hd
  have L2 := L1.sub S2
  refine As.tuple T.quiet (Ass.cons (As.local (KN.at_ _ _ (by rfl)) (Ass.cons (As.local (KN.at_ _ _ (by rfl)) (Ass.nil ?_)) (by rfl))) (by rfl)) (by rfl) (by rfl)
  have E2 := (E1.set (y := "kept") (v := .ref ak)).set (y := "height") (v := .int (h' last))
  have hmany2 : ((ρ₁.set "kept" (.ref ak)).set "height" (.int (h' last))) "many" = some (.int (ss.length : Int)) := (Vars.set_ne (by decide)).trans ((Vars.set_ne (by decide)).trans hmany1)
  have hlast2 : ((ρ₁.set "kept" (.ref ak)).set "height" (.int (h' last))) "last" = some (.int (last : Int)) := (Vars.set_ne (by decide)).trans ((Vars.set_ne (by decide)).trans hlast1)
  have hkept2 : ((ρ₁.set "kept" (.ref ak)).set "height" (.int (h' last))) "kept" = some (.ref ak) := (Vars.set_ne (by decide)).trans Vars.set_eq
  have hhei2 : ((ρ₁.set "kept" (.ref ak)).set "height" (.int (h' last))) "height" = some (.int (h' last)) := Vars.set_eq
  revert E2 hmany2 hlast2 hkept2 hhei2; refine gen ((ρ₁.set "kept" (.ref ak)).set "height" (.int (h' last))) ?_; intro ρ₂; set_option tactic.hygienic false in intros
  have hkl : (kept (prOf ss) last).length ≤ 20 := by have := kept_len (pr := prOf ss) (last := last); lia
  have hkm : ∀ k ∈ kept (prOf ss) last, k < ss.length := fun k hk => by have := kept_le hk; lia
  refine Ex.cons (exAssignCompOf KN T.quiet (by kernel_rfl) (by rfl) (ItE.of_ev (nmL KN (by rfl) hkept2 (.inl ⟨ak, _, rfl, hak, by simp; lia, keepG ss, fun z9a C'' hC y hy ρ₃ hcap => ?_, fun ag hag => ?_⟩))))
  · obtain ⟨k', hk', rfl⟩ := List.mem_map.mp hy
    obtain ⟨k, hk, rfl⟩ := List.mem_map.mp hk'
    obtain ⟨s, hs⟩ := at_of (hkm k hk)
    have KNc := Kn.comp hC
    have Tc := T.comp hC
    have hrc := hC.room
    refine tgtName hC (by rfl) hcap fun ρ₄ g1 g2 => ?_
    have hpf : ρ₄ "proof" = some (.ref x) := (g2 "proof" (by rfl)).trans E2.proof
    refine Tst.cmp (evM 154 Tc (nmC KNc (by rfl) hpf (psI L2.P (Evs.one (nmL KNc (by rfl) g1 ((rule_spec Tc (by lia) L2.P (by simp; lia) (steps_at hs)).mono (fun d σd hd => ?_) fun z9a z9b z9c z => z)) fun z9a => by rfl))) (star1 fun z9a => by rfl))
    obtain ⟨rfl, rfl⟩ := hd
    refine Ev.str (Bin.eq (by cases s.res <;> simp [Val.fit, ruleS] <;> decide +kernel) (by simp [Val.fit]; decide +kernel) ⟨_, rfl, rfl, ?_, fun hq => nmL KNc (by rfl) g1 ⟨rfl, ?_⟩⟩)
    · rw [keep_at hs]
      cases s.res <;> simp [ruleS, PyData.eqv, Val.py] <;> decide
    · rw [keep_at hs]
      cases h : s.res with
      | false => rfl
      | true => rw [h] at hq; exact absurd hq (by simp [ruleS, PyData.eqv, Val.py]; decide)
  rw [filterMap_keep]
  have S3 := (Sub.refl σ₂).new (o := .list (((inputsOf ss (kept (prOf ss) last)).map fun (n : Nat) => (n : Int)).map .int)) hag
  have hag3 : (σ₂.set ag (.list (((inputsOf ss (kept (prOf ss) last)).map fun (n : Nat) => (n : Int)).map .int))) ag = some (.list (((inputsOf ss (kept (prOf ss) last)).map fun (n : Nat) => (n : Int)).map .int)) := Store.set_same _ _ _
  have L3 := L2.sub S3
  have hak3 := S3 _ _ hak
  generalize σ₂.set ag (.list (((inputsOf ss (kept (prOf ss) last)).map fun (n : Nat) => (n : Int)).map .int)) = σ₃ at S3 hag3 L3 hak3 ⊢
  have E3 := E2.set (y := "given") (v := .ref ag)
  have hmany3 : (ρ₂.set "given" (.ref ag)) "many" = some (.int (ss.length : Int)) := (Vars.set_ne (by decide)).trans hmany2
  have hlast3 : (ρ₂.set "given" (.ref ag)) "last" = some (.int (last : Int)) := (Vars.set_ne (by decide)).trans hlast2
  have hkept3 : (ρ₂.set "given" (.ref ag)) "kept" = some (.ref ak) := (Vars.set_ne (by decide)).trans hkept2
  have hhei3 : (ρ₂.set "given" (.ref ag)) "height" = some (.int (h' last)) := (Vars.set_ne (by decide)).trans hhei2
  have hgiv3 : (ρ₂.set "given" (.ref ag)) "given" = some (.ref ag) := Vars.set_eq
  revert E3 hmany3 hlast3 hkept3 hhei3 hgiv3; refine gen (ρ₂.set "given" (.ref ag)) ?_; intro ρ₃; set_option tactic.hygienic false in intros
  have hil0 : (inputsOf ss (kept (prOf ss) last)).length ≤ (kept (prOf ss) last).length := List.length_filter_le _ _
  have hil : (inputsOf ss (kept (prOf ss) last)).length ≤ 20 := by lia
  -- 12
  refine Ex.cons (Ex1.ite (Tst.boolop (Tsts.or_cons (Tst.cmp (evM 187 T (nmC KN (by rfl) E3.proof (psI L3.P (Evs.one (nmL KN (by rfl) hlast3 ((needed_spec T (by lia) L3.P (by lia) G.down hl).mono (fun d σ₄ hd => ?_) fun z9a z9b z9c z => z)) fun z9a => by rfl))) (star1 fun z9a => by rfl))))))
  obtain ⟨a4, ha4, rfl, rfl⟩ := hd
  have S4 := (Sub.refl σ₃).new (o := .list (((kept (prOf ss) last).map fun (n : Nat) => (n : Int)).map .int)) ha4
  refine nmL KN (by rfl) hkept3 (Bin.neListR (r := false) (Store.set_same _ _ _) (S4 _ _ hak3) fits_nats fits_nats (eqv_same fits_nats) (brF (Tsts.or_cons ?_)))
  have L4 := L3.sub S4
  have hag4 := S4 _ _ hag3
  have hak4 := S4 _ _ hak3
  generalize σ₃.set a4 (.list (((kept (prOf ss) last).map fun (n : Nat) => (n : Int)).map .int)) = σ₄ at S4 L4 hag4 hak4 ⊢
  refine Tst.cmp (evM 216 T (nmC KN (by rfl) E3.proof (psI L4.P (Evs.one (nmL KN (by rfl) hlast3 ((depth_spec T (by lia) L4.P (by lia) G.down G.wf hl).mono (fun d σ₅ hd => ?_) fun z9a z9b z9c z => z)) fun z9a => by rfl))) (star1 fun z9a => by rfl))
  obtain ⟨h, hh, rfl, rfl⟩ := hd
  have hsame : h last = h' last := ht_unique G.down (fun k hk => ⟨hkm k hk, hh k hk⟩) hht (last + 1) last (by lia) (kept_last G.down)
  rw [hsame]
  refine nmL KN (by rfl) hhei3 (Bin.neR (r := false) (by rfl) (by rfl) (eqv_self (by rfl)) (brF (Tsts.or_nil ⟨(fun q => nomatch q), fun z9a => Ex.nil ?_⟩)))
  -- 13
  refine Ex.cons (Ex1.ite (Tst.cmp (evM 206 T (nmC KN (by rfl) E3.proof (psI L4.P (Evs.one (nmL KN (by rfl) hlast3 ((used_spec T (by lia) L4.P (by lia) G.down G.laps hl).mono (fun d σ₆ hd => ?_) fun z9a z9b z9c z => z)) fun z9a => by rfl))) (star1 fun z9a => by rfl))))
  obtain ⟨a6, ha6, rfl, rfl⟩ := hd
  have S6 := (Sub.refl σ₅).new (o := .list (((inputsOf ss (kept (prOf ss) last)).map (lapOf ss)).map .int)) ha6
  have ha6' : (σ₅.set a6 (.list (((inputsOf ss (kept (prOf ss) last)).map (lapOf ss)).map .int))) a6 = some (.list (((inputsOf ss (kept (prOf ss) last)).map (lapOf ss)).map .int)) := Store.set_same _ _ _
  have L6 := L4.sub S6
  have hag6 := S6 _ _ hag4
  have hak6 := S6 _ _ hak4
  revert S6 ha6' L6 hag6 hak6; refine gen (σ₅.set a6 (.list (((inputsOf ss (kept (prOf ss) last)).map (lapOf ss)).map .int))) ?_; intro σ₆; set_option tactic.hygienic false in intros
  refine evB1 T KN (evCompOf KN T.quiet (by kernel_rfl) (ItE.of_ev (nmL KN (by rfl) hgiv3 (.inl ⟨ag, _, rfl, hag6, by simp; lia, natG fun k => .int (lapOf ss k), fun z9a C'' hC y hy ρ₄ hcap => ?_, fun a7 ha7 => ?_⟩))))
  · obtain ⟨k', hk', rfl⟩ := List.mem_map.mp hy
    obtain ⟨k, hk, rfl⟩ := List.mem_map.mp hk'
    obtain ⟨hk1, s, hs, hres⟩ := inputs_mem hk
    have KNc := Kn.comp hC
    have Tc := T.comp hC
    refine tgtName hC (by rfl) hcap fun ρ₅ g1 g2 => ?_
    have hpf : ρ₅ "proof" = some (.ref x) := (g2 "proof" (by rfl)).trans E3.proof
    have hkb := hkm k hk1
    have hlap : natG (fun k => Val.int (lapOf ss k)) (.int (k : Int)) = some (.int s.lap) := by
      show some (Val.int (lapOf ss k)) = _
      unfold lapOf; rw [hs]; rfl
    rw [hlap]
    exact ⟨rfl, rfl, fun z9a => Ev.sub (Ev.sub (evSteps Tc.K (nmC KNc (by rfl) hpf (psI L6.P (nmL KNc (by rfl) g1 (Bin.itemList L6.P.steps (by lia) (by lia) (by rw [Int.toNat_natCast]; exact steps_at hs) (Ev.int (Bin.itemTup (d := .int s.lap) (by lia) (by show some s.note = _; unfold Stp.note; rw [hres]; rfl) ⟨rfl, rfl⟩ (by simp)))))))))⟩
  rw [filterMap_nat]
  have hmm : (inputsOf ss (kept (prOf ss) last)).map (fun k => Val.int (lapOf ss k)) = ((inputsOf ss (kept (prOf ss) last)).map (lapOf ss)).map .int := by rw [List.map_map]; rfl
  rw [hmm]
  have S7 := (Sub.refl σ₆).new (o := .list (((inputsOf ss (kept (prOf ss) last)).map (lapOf ss)).map .int)) ha7
  refine Cal.sortedList (Store.set_same _ _ _) (by simp; lia) fun ns' a8 hp hs8 ha8 => ?_
  have hsrt := laps_sorted G.laps (kept_sorted (pr := prOf ss) (last := last))
  obtain rfl : ns' = (inputsOf ss (kept (prOf ss) last)).map (lapOf ss) := sorted_same hs8 (hp.nodup_iff.mpr (hsrt.imp fun h => by lia)) hsrt fun z => hp.mem_iff
  have S8 := S7.new (o := .list (((inputsOf ss (kept (prOf ss) last)).map (lapOf ss)).map .int)) ha8
  refine Bin.neListR (r := false) (S8 _ _ ha6') (Store.set_same _ _ _) fits_ints fits_ints (eqv_same fits_ints) (brF (Ex.nil ?_))
  have L8 := L6.sub S8
  have hag8 := S8 _ _ hag6
  have hak8 := S8 _ _ hak6
  revert S8 L8 hag8 hak8; refine gen (Store.set (σ₆.set a7 (.list (((inputsOf ss (kept (prOf ss) last)).map (lapOf ss)).map .int))) a8 (.list (((inputsOf ss (kept (prOf ss) last)).map (lapOf ss)).map .int))) ?_; intro σ₈; set_option tactic.hygienic false in intros
  -- 14
  have hatc : ∀ k : Nat, k < ss.length → ((clsOf ss).map clV)[((k : Int)).toNat]? = some (clV ((clsOf ss).getD k [])) := fun k hk => by
    obtain ⟨s, hs⟩ := at_of hk
    rw [Int.toNat_natCast, List.getElem?_map, cls_at hs, cls_getD hs]; rfl
  refine Ex.cons (Ex1.ite (Tst.boolop (Tsts.or_cons (Tst.not (Tst.val (evF3 270 T KN (Ev.sub (nmC KN (by rfl) E3.clauses (nmL KN (by rfl) hlast3 (Bin.itemList L8.cls (by lia) (by lia) (hatc last hl) (evCompOf KN T.quiet (by kernel_rfl) (ItE.of_ev (nmL KN (by rfl) hgiv3 (.inl ⟨ag, _, rfl, hag8, by simp; lia, natG fun k => clV ((clsOf ss).getD k []), fun z9a C'' hC y hy ρ₄ hcap => ?_, fun a9 ha9 => ?_⟩))))))))))))))
  · obtain ⟨k', hk', rfl⟩ := List.mem_map.mp hy
    obtain ⟨k, hk, rfl⟩ := List.mem_map.mp hk'
    obtain ⟨hk1, s, hs, hres⟩ := inputs_mem hk
    have KNc := Kn.comp hC
    have Tc := T.comp hC
    refine tgtName hC (by rfl) hcap fun ρ₅ g1 g2 => ?_
    have hcf : ρ₅ "clauses" = some (.ref ac) := (g2 "clauses" (by rfl)).trans E3.clauses
    have hkb := hkm k hk1
    exact ⟨rfl, rfl, fun z9a => Ev.sub (nmC KNc (by rfl) hcf (nmL KNc (by rfl) g1 (Bin.itemList L8.cls (by lia) (by lia) (hatc k hkb) ⟨rfl, rfl⟩)))⟩
  rw [filterMap_nat]
  have hmm : (inputsOf ss (kept (prOf ss) last)).map (fun k => clV ((clsOf ss).getD k [])) = ((inputsOf ss (kept (prOf ss) last)).map fun k => (clsOf ss).getD k []).map clV := by rw [List.map_map]; rfl
  rw [hmm]
  have S9 := (Sub.refl σ₈).new (o := .list (((inputsOf ss (kept (prOf ss) last)).map fun k => (clsOf ss).getD k []).map clV)) ha9
  have L9 := L8.sub S9
  have hak9 := S9 _ _ hak8
  have ha9' : (σ₈.set a9 (.list (((inputsOf ss (kept (prOf ss) last)).map fun k => (clsOf ss).getD k []).map clV))) a9 = some (.list (((inputsOf ss (kept (prOf ss) last)).map fun k => (clsOf ss).getD k []).map clV)) := Store.set_same _ _ _
  generalize σ₈.set a9 (.list (((inputsOf ss (kept (prOf ss) last)).map fun k => (clsOf ss).getD k []).map clV)) = σ₉ at S9 L9 hak9 ha9' ⊢
  refine nmC KN (by rfl) E3.n ((follows_spec T (by lia) ha9' hn (by simp; lia) (fun d hd => ?_) ?_ (fun bs hbs hall => ?_)).mono (fun d σd hd => ?_) fun z9a z9b z9c z => z)
  · obtain ⟨k, hk, rfl⟩ := List.mem_map.mp hd
    obtain ⟨a1, a2, a3⟩ := G.cls (hkm k (inputs_mem hk).1)
    exact ⟨a3, by lia⟩
  · obtain ⟨a1, a2, a3⟩ := G.cls hl
    exact ⟨a3, by lia⟩
  · exact kept_sound G hn hl (fun k hk => hall _ (List.mem_map_of_mem hk)) (last + 1) last (by lia) (kept_last G.down)
  obtain ⟨rfl, rfl⟩ := hd
  refine ⟨_, Tru.bool, (fun q => nomatch q), fun z9a => Tsts.or_cons (Tst.not (Tst.val (evF3 275 T KN (nmC KN (by rfl) E3.proof (evM 192 T (nmC KN (by rfl) E3.proof (psI L9.P (Evs.one (nmL KN (by rfl) hlast3 ((trimmed_spec T (by lia) L9.P (by lia) hts G.down G.ok hl).mono (fun d σ₁₀ hd => ?_) fun z9a z9b z9c z => z)) fun z9a => by rfl))) (star1 fun z9a => by rfl))))))⟩
  obtain ⟨x', dd', as', am', e', rfl, P', S10⟩ := hd
  have L10 := L9.sub S10
  refine nmL KN (by rfl) hkept3 ((is_trimmed_spec T (by lia) G hn (by lia) hts hl L10.P P' (S10 _ _ hak9)).mono (fun d σd hd => ?_) fun z9a z9b z9c z => z)
  obtain ⟨rfl, rfl⟩ := hd
  refine ⟨_, Tru.bool, (fun q => nomatch q), fun z9a => Tsts.or_nil ⟨(fun q => nomatch q), fun z9a => Ex.nil ?_⟩⟩
  exact law_E T KN hF hr E3 hmany3 L10 hz hts hn
end Mine
set_option tactic.hygienic false
namespace Mine
open PySem PySem.W PyProof.Rows PySem.Calls
set_option maxRecDepth 100000
theorem Evs.val {C : Cx} {ρ : Vars} {σ : Store} {X : XPost} {e : Expr} {rest : List Expr} {v : Val} {L : List Val → Store → Prop} (h : Ev C ρ σ e (fun d σ' => d = v ∧ σ' = σ) X) (k : Evs C ρ σ rest (fun ds σ' => L (v :: ds) σ') X)
    (he : starEach (e :: rest) C.env = (false, eval e C.env) :: starEach rest C.env := by rfl) : Evs C ρ σ (e :: rest) L X :=
  Evs.cons (h.mono fun d σ' ⟨e1, e2⟩ => by subst e1 e2; exact k) he
theorem filterMap_no : ∀ {l : List Val}, l.filterMap (fun z9a => (none : Option Val)) = []
  | [] => rfl
  | _ :: l => by rw [List.filterMap_cons]; exact filterMap_no
set_option maxHeartbeats 4000000 in
theorem law_C {C : Cx} {ρ : Vars} {σ : Store} (T : Tops C) (KN : Kn C (fn280 C.w.params).fd.scope.names) (hF : C.Fn) (hr : 40 ≤ C.room) {af an x dd as am ac : Addr} {n m : Nat} {ts : List Int} {ss : List Stp} {e : Int} (E : E4 ρ af x ac n) (L : Lw σ af an x dd as am ac n m ts ss e) (hm : m ≤ 10 ^ 4) (hz : ss.length ≤ 20) (h1 : 1 ≤ ss.length) (hts : ts.length ≤ 60) (hn : n ≤ 4) :
    Ex C ρ σ ((fn280 C.w.params).body.drop 6) LQ noX := by
  have lenC : ((clsOf ss).map clV).length = ss.length := by simp [clsOf]
  refine Ex.cons (Ex1.assign (evB1 T KN (nmC KN (by rfl) E.clauses (Cal.lenN L.cls lenC (by lia) (As.local (KN.at_ _ _ (by rfl)) ?_)))))
  have E1 := E.set (y := "many") (v := .int (ss.length : Int))
  have hmany1 : (ρ.set "many" (.int (ss.length : Int))) "many" = some (.int (ss.length : Int)) := Vars.set_eq
  revert E1 hmany1; refine gen (ρ.set "many" (.int (ss.length : Int))) ?_; intro ρ₁; set_option tactic.hygienic false in intros
  refine Ex.cons ?_
  refine Ex1.assign ?_ ?_ ?_ ?_
  rotate_left
  · rfl
  · rfl
  · rfl
  refine Ev.list (Evs.val (v := .tup [.str "input", clV [2, 1], clV []]) ?o1 (Evs.val (v := .tup [.str "input", clV [-1, 1], clV []]) ?o2 (Evs.val (v := .tup [.str "input", clV [1, 1], clV []]) ?o3 (Evs.val (v := .tup [.str "resolve", clV [1], clV [(ss.length : Int)]]) ?o4 (Evs.val (v := .tup [.str "none", clV [1], clV []]) ?o5 (Evs.nil ⟨by simp, fun ao hao => As.local (KN.at_ _ _ (by rfl)) ?main⟩))))))
  case o1 => exact Ev.tuple (Evs.val (Ev.str ⟨rfl, rfl⟩) (Evs.val (Ev.tuple (Evs.val (Ev.int ⟨rfl, rfl⟩) (Evs.val (Ev.int ⟨rfl, rfl⟩) (Evs.nil ⟨by simp, rfl, rfl⟩)))) (Evs.val (Ev.tuple (Evs.nil ⟨by simp, rfl, rfl⟩)) (Evs.nil ⟨by simp, rfl, rfl⟩))))
  case o2 => exact Ev.tuple (Evs.val (Ev.str ⟨rfl, rfl⟩) (Evs.val (Ev.tuple (Evs.val (Ev.unop (Ev.int (Una.neg ⟨rfl, rfl⟩))) (Evs.val (Ev.int ⟨rfl, rfl⟩) (Evs.nil ⟨by simp, rfl, rfl⟩)))) (Evs.val (Ev.tuple (Evs.nil ⟨by simp, rfl, rfl⟩)) (Evs.nil ⟨by simp, rfl, rfl⟩))))
  case o3 => exact Ev.tuple (Evs.val (Ev.str ⟨rfl, rfl⟩) (Evs.val (Ev.tuple (Evs.val (Ev.int ⟨rfl, rfl⟩) (Evs.val (Ev.int ⟨rfl, rfl⟩) (Evs.nil ⟨by simp, rfl, rfl⟩)))) (Evs.val (Ev.tuple (Evs.nil ⟨by simp, rfl, rfl⟩)) (Evs.nil ⟨by simp, rfl, rfl⟩))))
  case o4 => exact Ev.tuple (Evs.val (Ev.str ⟨rfl, rfl⟩) (Evs.val (Ev.tuple (Evs.val (Ev.int ⟨rfl, rfl⟩) (Evs.nil ⟨by simp, rfl, rfl⟩))) (Evs.val (Ev.tuple (Evs.val (nmL KN (by rfl) hmany1 ⟨rfl, rfl⟩) (Evs.nil ⟨by simp, rfl, rfl⟩))) (Evs.nil ⟨by simp, rfl, rfl⟩))))
  case o5 => exact Ev.tuple (Evs.val (Ev.str ⟨rfl, rfl⟩) (Evs.val (Ev.tuple (Evs.val (Ev.int ⟨rfl, rfl⟩) (Evs.nil ⟨by simp, rfl, rfl⟩))) (Evs.val (Ev.tuple (Evs.nil ⟨by simp, rfl, rfl⟩)) (Evs.nil ⟨by simp, rfl, rfl⟩))))
  case main =>
    revert hao; refine genE (([Val.tup [.str "input", clV [2, 1], clV []], Val.tup [.str "input", clV [-1, 1], clV []], Val.tup [.str "input", clV [1, 1], clV []], Val.tup [.str "resolve", clV [1], clV [(ss.length : Int)]], Val.tup [.str "none", clV [1], clV []]] : List Val)) ?_; intro O hO; set_option tactic.hygienic false in intros
    have hOl : O.length = 5 := by subst hO; rfl
    have hOk : ∀ y ∈ O, ∃ (r : Str) (c ps : List Int), y = .tup [.str r, clV c, clV ps] ∧ r.length ≤ 100 ∧ PyData.strOk r = true ∧ c.length ≤ 400 ∧ ps.length ≤ 400 ∧ (∀ p ∈ ps, p.natAbs < 10 ^ 6) ∧ addOk r c ps ss.length = false := by
      subst hO
      intro y hy
      simp only [List.mem_cons, List.not_mem_nil, or_false] at hy
      rcases hy with rfl | rfl | rfl | rfl | rfl
      · exact ⟨_, _, _, rfl, by decide, by decide +kernel, by decide, by decide, by simp, by simp [addOk, show tidyB [2, 1] = false by decide]⟩
      · exact ⟨_, _, _, rfl, by decide, by decide +kernel, by decide, by decide, by simp, by simp [addOk, show tidyB [-1, 1] = false by decide]⟩
      · exact ⟨_, _, _, rfl, by decide, by decide +kernel, by decide, by decide, by simp, by simp [addOk, show tidyB [1, 1] = false by decide]⟩
      · exact ⟨_, _, _, rfl, by decide, by decide +kernel, by decide, by simp, by simp; lia, by simp [addOk]⟩
      · exact ⟨_, _, _, rfl, by decide, by decide +kernel, by decide, by decide, by simp, by unfold addOk; rw [show ruleNames.contains ("none" : Str) = false by decide]; rfl⟩
    have S2 := (Sub.refl σ).new (o := .list O) hao
    have hao2 : (σ.set ao (.list O)) ao = some (.list O) := Store.set_same _ _ _
    have L2 := L.sub S2
    revert S2 hao2 L2; refine gen (σ.set ao (.list O)) ?_; intro σ₂; set_option tactic.hygienic false in intros
    have E2 := E1.set (y := "odd") (v := .ref ao)
    have hmany2 : (ρ₁.set "odd" (.ref ao)) "many" = some (.int (ss.length : Int)) := (Vars.set_ne (by decide)).trans hmany1
    have hodd2 : (ρ₁.set "odd" (.ref ao)) "odd" = some (.ref ao) := Vars.set_eq
    revert E2 hmany2 hodd2; refine gen (ρ₁.set "odd" (.ref ao)) ?_; intro ρ₂; set_option tactic.hygienic false in intros
    refine Ex.cons (Ex1.ite (Tst.cmp (evCompOf KN T.quiet (by kernel_rfl) (ItE.of_ev (nmL KN (by rfl) hodd2 (.inl ⟨ao, _, rfl, hao2, by lia, fun z9a => none, fun z9a C'' hC y hy ρ₃ hcap => ?_, fun a1 ha1 => Ev.list (Evs.nil ⟨by simp, fun a2 ha2 => ?_⟩)⟩))))))
    · obtain ⟨r, c, ps, rfl, g1, g2, g3, g4, g5, g6⟩ := hOk y hy
      have KNc := Kn.comp hC
      have Tc := T.comp hC
      have hrc := hC.room
      refine tgtName hC (by rfl) hcap fun ρ₄ h3 h4 => ?_
      have hpf : ρ₄ "proof" = some (.ref x) := (h4 "proof" (by rfl)).trans E2.proof
      refine Tst.not (Tst.val (evF4 245 Tc KNc (nmC KNc (by rfl) hpf (Ev.sub (nmL KNc (by rfl) h3 (Ev.int (Bin.itemTup (d := .str r) (by lia) (by rfl) (Ev.sub (nmL KNc (by rfl) h3 (Ev.int (Bin.itemTup (d := clV c) (by lia) (by rfl) (Ev.sub (nmL KNc (by rfl) h3 (Ev.int (Bin.itemTup (d := clV ps) (by lia) (by rfl) ((refused_spec Tc (by lia) L2.P (by lia) g1 g2 g3 g4 g5 g6).mono (fun d σd hd => ?_) fun z9a z9b z9c z => z) (by simp))))) (by simp))))) (by simp))))))))
      obtain ⟨rfl, rfl⟩ := hd
      exact ⟨_, Tru.bool, rfl, rfl, (fun q => nomatch q)⟩
    · rw [filterMap_no] at ha2 ⊢
      have hne : a1 ≠ a2 := fun q => by subst q; simp at ha2
      have S4 := ((Sub.refl σ₂).new (o := .list []) ha1).new (o := .list []) ha2
      refine Bin.neListR (r := false) (by rw [Store.set_other _ _ hne, Store.set_same]) (Store.set_same _ _ _) (by rfl) (by rfl) (by rfl) (brF (Ex.nil ?_))
      exact law_D T KN hF hr E2 hmany2 (L2.sub S4) hm hz h1 hts hn
end Mine
set_option tactic.hygienic false
namespace Mine
open PySem PySem.W PyProof.Rows PySem.Calls
set_option maxRecDepth 100000
theorem law_B {C : Cx} {ρ : Vars} {σ : Store} (T : Tops C) (KN : Kn C (fn280 C.w.params).fd.scope.names) (hF : C.Fn) (hr : 40 ≤ C.room) {af an x dd as am ac : Addr} {n m : Nat} {ts : List Int} {ss : List Stp} {e : Int} (E : E4 ρ af x ac n) (L : Lw σ af an x dd as am ac n m ts ss e) (hm : m ≤ 10 ^ 3) (hz : ss.length ≤ 7) (hts : ts.length = n) (hn : 1 ≤ n ∧ n ≤ 4) :
    Ex C ρ σ ((fn280 C.w.params).body.drop 4) LQ noX := by
  have lenS : (ss.map Stp.val).length = ss.length := by simp
  refine Ex.cons (Ex1.ite (Tst.cmp (nmC KN (by rfl) E.clauses (Ev.list (Evs.nil ⟨by simp, fun a1 ha1 => ?_⟩)))))
  have S1 := (Sub.refl σ).new (o := .list []) ha1
  refine Bin.eqListR (r := ss.isEmpty) (S1 _ _ L.cls) (Store.set_same _ _ _) fits_cls (by rfl) (eqv_nil'.trans (by cases ss <;> rfl)) (brB (fun hb => ?_) (fun hb => Ex.nil ?_))
  · have hs0 : ss = [] := List.isEmpty_iff.mp hb
    have P1 := L.P.sub S1
    refine Ex.cons (Ex1.ret (Ev.boolop (Evb.andT (Ev.cmp (evM 140 T (nmC KN (by rfl) E.proof (psI P1 (Evs.nil ((size_spec T (by lia) P1 (by lia)).mono (fun d σd hd => ?_) fun z9a z9b z9c z => z)))) star0)))))
    obtain ⟨rfl, rfl⟩ := hd
    refine Ev.int (Bin.eqR (r := true) (by rfl) (by rfl) (by rw [lenS, hs0]; exact eqv_self (v := .int 0) (by rfl)) ⟨rfl, Evb.one (Ev.cmp (evM 133 T (nmC KN (by rfl) E.proof (psI P1 (Evs.nil ((var_count_spec T (by lia) P1 (by simp; lia)).mono (fun d σd hd => ?_) fun z9a z9b z9c z => z)))) star0))⟩)
    obtain ⟨rfl, rfl⟩ := hd
    have : ((((0 :: ts).map Val.int).length : Nat) : Int) - 1 = (n : Int) := by simp; lia
    rw [this]
    exact nmC KN (by rfl) E.n (Bin.eqR (r := true) (by rfl) (by rfl) (eqv_self (by rfl)) rfl)
  · have h1 : 1 ≤ ss.length := by cases ss with
      | nil => cases hb
      | cons a r => simp
    have L1 := L.sub S1
    revert S1 L1; refine gen (σ.set a1 (.list [])) ?_; intro σ₁; set_option tactic.hygienic false in intros
    refine Ex.cons (Ex1.for T.quiet (.inl hF) (ItE.range1 (nmT T KN (by rfl) (by kernel_rfl) (by rfl) (callI (.typ _) Keeps.type (Evs.one (Ev.binop (Ev.int (evF2 228 T KN (nmC KN (by rfl) E.feed (Ev.int ((dip_spec (many := 6) T (by lia) L1.feed (by lia) (by decide)).mono (fun d σ₂ hd => ?_) fun z9a z9b z9c z => z)))))) fun z9a => by rfl))) (star1 fun z9a => by rfl)))
    obtain ⟨v, rfl, hv, F2, hs2⟩ := hd
    have L2 : Lw σ₂ af an x dd as am ac n (m + 1) ts ss e := L1.off (fun b o hb e => by rw [hs2 b (by simpa using hb)]; exact e) F2
    refine Bin.add (rg1I (by lia) (by lia) ?_)
    rw [show (1 : Int) + (v : Int) = ((1 + v : Nat) : Int) by lia]
    refine forI (fun i ρ₂ σ₂ => Ag ["lap"] ρ₂ ρ ∧ X2 fun ss e => A3 (Lw σ₂ af an x dd as am ac n (m + 1 + 11 * i) ts ss e) (1 ≤ ss.length) (ss.length ≤ 7 + i)) ⟨Ag.refl, ss, e, L2, h1, by lia⟩ ?_ ?_
    · intro J₀ Q₁; rintro i y ρ₂ σ₃ hy ⟨hag, ss₃, e₃, L3, hl3, hz3⟩ hkeep
      obtain ⟨hi, rfl⟩ := rangeL_at hy
      refine As.local (KN.at_ _ _ (by rfl)) ?_
      have ag := hag.set (x := "lap") (v := .int (i : Int)) (by simp)
      have E3 := E.ag ag
      refine Ex.cons (Ex1.ite (Tst.not (Tst.val (evF4 255 T KN (nmC KN (by rfl) E3.feed (nmC KN (by rfl) E3.proof (nmC KN (by rfl) E3.clauses (nmC KN (by rfl) E3.n ((chained_spec T (by lia) L3 (by lia) hn hl3 (by lia)).mono (fun d σ₄ hd => ?_) fun z9a z9b z9c z => z)))))))))
      obtain ⟨rfl, ss₄, e₄, h4, h5, L4⟩ := hd
      exact ⟨_, Tru.bool, (fun q => nomatch q), fun z9a => Ex.nil (Ex.nil ⟨fun a q => (nomatch q), ag, ss₄, e₄, by rw [show m + 1 + 11 * (i + 1) = m + 1 + 11 * i + 11 by lia]; exact L4, by lia, by lia⟩)⟩
    · rintro ρ₂ σ₃ ⟨hag, ss₃, e₃, L3, hl3, hz3⟩ hkeep
      rw [rangeL_len] at hz3 L3
      exact law_C T KN hF hr (E.ag hag) L3 (by lia) (by lia) hl3 (by lia) hn.2
end Mine
set_option tactic.hygienic false
namespace Mine
open PySem PySem.W PyProof.Rows PySem.Calls
set_option maxRecDepth 100000
theorem ints_reps {B : List Addr} {h : Heap} {vs : List Value} {ns : List Int} (x : IntsAre vs ns) : RepVs B h (ns.map .int) vs := by
  induction x with
  | nil => exact RepVs.nil
  | cons n t _ ih => exact RepVs.cons (by simp [RepV]) ih
/-- the slice of a list of ints that the top holds -/
theorem evSliceTop {C : Cx} {ρ : Vars} {σ : Store} {Q : Val → Store → Prop} {X : XPost} {o : Expr} {u : Int} {k : Nat} {cp p pos : Pos} {a : Addr} {vs : List Value} {ns : List Int} (hL : C.h₁.IsList a (List.toArray vs)) (hI : IntsAre vs ns) (hz : ns.length ≤ 1000) (h0 : 0 ≤ u)
    (h : Ev C ρ σ o (fun d σ₁ => d = .ref a ∧ ∀ b, σ₁ b = none → Q (.ref b) (σ₁.set b (.list ((ns.take u.toNat).map .int)))) X)
    (ht : ∀ v r, letTemporaryGo o v r = pure () := by intro _ _; rfl) : Ev C ρ σ (.Subscript o (.Slice none (some (.Constant (.int u) k cp)) none p) pos) Q X :=
  Ev.intro fun base s H => by
    refine wpAny_Subscript_list_slice (h.run H (fun v d σ₁ s₁ H₁ P₁ r₁ ⟨e, q⟩ => ?_) fun z9a z9b x => x) ht
    subst e
    simp only [RepV] at r₁; subst r₁
    have hl : s₁.heap.IsList a (List.toArray vs) := by obtain ⟨ob, ho, r⟩ := hL; exact ⟨ob, H₁.b2 _ _ (H₁.b1 _ _ ho), r⟩
    have rs : RepVs C.bad s₁.heap (ns.map .int) vs := ints_reps hI
    have hlen := rs.length
    rw [List.length_map] at hlen
    refine evalPart_none_step (evalPart_some_step (wpAny_Constant_int ⟨a, List.toArray vs, none, some u, rfl, hl, by rw [List.size_toArray]; show _ ≤ 2 ^ 24; lia, .none, .int u _, ?_⟩))
    have e1 : (slicePick (List.toArray vs) none (some u) none) = List.toArray (vs.take u.toNat) := by
      rw [kms_pick_eq]
      show List.toArray (kms_pick vs none (some u)) = _
      unfold kms_pick kms_lo kms_hi
      simp only [List.drop_zero, Nat.sub_zero, if_neg (show ¬ u < 0 by lia), kmk_take_min]
    rw [e1]
    have k2 : ∀ b o, s₁.heap.get? b = some o → ((s₁.heap.push { cls := .type "slice", data := .fields #[.none, .int u s₁.toks, .none] }).push { cls := .type "list", data := .seq (List.toArray (vs.take u.toNat)) }).get? b = some o := fun b o e => Heap.get?_push_of_some _ (Heap.get?_push_of_some _ e)
    have hf : s₁.heap.get? (s₁.heap.objs.size + 1) = none := Heap.get?_none_of_le (Nat.le_succ _)
    have hσ : σ₁ (s₁.heap.objs.size + 1) = none := by
      cases q : σ₁ (s₁.heap.objs.size + 1) with
      | none => rfl
      | some o => obtain ⟨ob, ho, _⟩ := (H₁.store _ _ q).1.there; rw [hf] at ho; cases ho
    have rt : RepVs C.bad s₁.heap ((ns.take u.toNat).map .int) (vs.take u.toNat) := by rw [List.map_take]; exact rs.take _
    refine ⟨.ref (s₁.heap.objs.size + 1), _, (H₁.grow (t := s₁.toks + 1) k2).track (o := .list ((ns.take u.toNat).map .int)) hσ ⟨vs.take u.toNat, ⟨0, ?_⟩, rt.keep (.of_keeps k2)⟩ (H₁.newAddr hf), by simp [RepV], q _ hσ⟩
    have := Heap.get?_push_size (s₁.heap.push { cls := .type "slice", data := .fields #[.none, .int u s₁.toks, .none] }) (o := { cls := .type "list", data := .seq (List.toArray (vs.take u.toNat)) }) rfl
    rwa [Heap.size_push] at this
noncomputable def nmOf (i : Nat) : Int := 10 + 3 * ((i : Int) + 1)
noncomputable def litOf (c : Nat) : Int := if c % 2 = 0 then ((c / 2 : Nat) : Int) + 1 else -(((c / 2 : Nat) : Int) + 1)
noncomputable def litG : Val → Option Val
  | .int c => some (.int (litOf c.toNat))
  | _ => none
theorem filterMap_lit : ∀ {l : List Nat}, ((l.map fun (n : Nat) => (n : Int)).map Val.int).filterMap litG = (l.map litOf).map .int
  | [] => rfl
  | k :: l => by
    rw [List.map_cons, List.map_cons, List.filterMap_cons]
    show _ :: _ = _
    rw [filterMap_lit]; rfl
theorem litOf_abs (c : Nat) : (litOf c).natAbs = c / 2 + 1 := by unfold litOf; split <;> lia
noncomputable def inpStep (c : List Int) (lap : Int) : Stp := ⟨false, c, [], [], lap⟩
theorem inpStep_val {c lap} : (inpStep c lap).val = .tup [.str "input", clV c, clV [], .int lap] := rfl
theorem law_A {C : Cx} (T : Tops C) (KN : Kn C (fn280 C.w.params).fd.scope.names) (hF : C.Fn) (hr : 40 ≤ C.room) {a : Addr} {vs : List Value} {ns : List Int} (hL : C.h₁.IsList a (List.toArray vs)) (hI : IntsAre vs ns) (hz : ns.length ≤ 63) :
    Ex C (fun y => ((["script"] : List Str).zip [Val.ref a]).lookup y) (fun z9a => none) (fn280 C.w.params).body LQ noX := by
  refine Ex.cons ?_
  refine Ex1.assign ?_ ?_ ?_ ?_
  rotate_left
  · rfl
  · exact swapped_none3 (by rw [KN.at_ _ _ (by rfl)]; simp)
  · rfl
  refine Ev.tuple (Evs.three (Ev.list (Evs.two (evT1 T KN (evSliceTop hL hI (by lia) (by lia) (nmL KN (by rfl) (by rfl) ⟨rfl, fun b hb => ?_⟩))) (fun z9a => by rfl) (fun z9a => by rfl))) (fun z9a => by rfl) (fun z9a => by rfl) (fun z9a => by rfl))
  refine Cal.listOf (Store.set_same _ _ _) (by simp; lia) fun an han => Ev.int ⟨by simp, fun af haf => ?_⟩
  have hfa : an ≠ af := fun q => by subst q; simp at haf
  have Fe : FeedAt (Store.set (Store.set (Store.set (fun z9a => none) b (.list ((ns.take (40 : Int).toNat).map .int))) an (.list ((ns.take (40 : Int).toNat).map .int))) af (.list [.ref an, .int 0])) af an 0 :=
    ⟨ns.take (40 : Int).toNat, 0, hfa, Store.set_same _ _ _, by rw [Store.set_other _ _ hfa, Store.set_same], by simp; lia, Nat.le_refl _⟩
  generalize Store.set (Store.set (Store.set (fun z9a => none) b (.list ((ns.take (40 : Int).toNat).map .int))) an (.list ((ns.take (40 : Int).toNat).map .int))) af (.list [.ref an, .int 0]) = σ₃ at Fe ⊢
  refine evF (a := 219) T KN (by rfl) (by kernel_rfl) (by kernel_rfl) (Evs.nil ((proof_spec T (by lia)).mono (fun d σ₄ hd => ?_) fun z9a z9b z9c z => z)) star0
  obtain ⟨x, dd, as, am, rfl, hx, hdd, has, ham, P, hfr⟩ := hd
  have S4 : Sub σ₃ σ₄ := fun c o h => by
    rw [hfr c (fun q => by subst q; rw [hx] at h; cases h) (fun q => by subst q; rw [hdd] at h; cases h) (fun q => by subst q; rw [has] at h; cases h) (fun q => by subst q; rw [ham] at h; cases h)]; exact h
  have dist : ∀ {c : Addr}, σ₃ c = none → c ≠ af ∧ c ≠ an := fun {c} hc => by
    obtain ⟨ns', spot, z1, z2, z3, z4⟩ := Fe
    exact ⟨fun q => (by rw [q, z2] at hc; cases hc), fun q => (by rw [q, z3] at hc; cases hc)⟩
  refine Ev.list (Evs.nil ⟨by simp, fun ac hac => ⟨by simp, As.tuple T.quiet (Ass.cons (As.cell (KN.at_ _ _ (by rfl)) (Ass.cons (As.cell (KN.at_ _ _ (by rfl)) (Ass.cons (As.cell (KN.at_ _ _ (by rfl)) (Ass.nil ?_)) (by rfl))) (by rfl))) (by rfl)) (by rfl) (by rfl)⟩⟩)
  obtain ⟨cf, cn⟩ := dist (S4.none hac)
  obtain ⟨sf, sn⟩ := dist has
  obtain ⟨mf, mn⟩ := dist ham
  have cs' : ac ≠ as := fun q => by rw [q, P.steps] at hac; cases hac
  have cm : ac ≠ am := fun q => by rw [q, P.names] at hac; cases hac
  have S5 := (Sub.refl σ₄).new (o := .list []) hac
  have P5 := P.sub S5
  have F5 := (Fe.sub S4).sub S5
  have hac5 : (σ₄.set ac (.list [])) ac = some (.list []) := Store.set_same _ _ _
  revert S5 P5 F5 hac5; refine gen (σ₄.set ac (.list [])) ?_; intro σ₅; set_option tactic.hygienic false in intros
  have hfe : Vars.set (Vars.set (Vars.set (fun y => ((["script"] : List Str).zip [Val.ref a]).lookup y) "feed" (.ref af)) "proof" (.ref x)) "clauses" (.ref ac) "feed" = some (.ref af) := by rfl
  have hpe : Vars.set (Vars.set (Vars.set (fun y => ((["script"] : List Str).zip [Val.ref a]).lookup y) "feed" (.ref af)) "proof" (.ref x)) "clauses" (.ref ac) "proof" = some (.ref x) := by rfl
  have hce : Vars.set (Vars.set (Vars.set (fun y => ((["script"] : List Str).zip [Val.ref a]).lookup y) "feed" (.ref af)) "proof" (.ref x)) "clauses" (.ref ac) "clauses" = some (.ref ac) := by rfl
  generalize Vars.set (Vars.set (Vars.set (fun y => ((["script"] : List Str).zip [Val.ref a]).lookup y) "feed" (.ref af)) "proof" (.ref x)) "clauses" (.ref ac) = ρ₁ at hfe hpe hce ⊢
  -- n
  refine Ex.cons (Ex1.assign (Ev.binop (Ev.int (evF2 228 T KN (nmC KN (by rfl) hfe (Ev.int ((dip_spec (many := 3) T (by lia) F5 (by lia) (by decide)).mono (fun d σ₆ hd => ?_) fun z9a z9b z9c z => z)))))))
  obtain ⟨v, rfl, hv, F6, hs6⟩ := hd
  refine Bin.add (As.cell (KN.at_ _ _ (by rfl)) ?_)
  rw [show (2 : Int) + (v : Int) = ((2 + v : Nat) : Int) by lia]
  refine genE (2 + v) ?_; intro n hn'
  have hn : 2 ≤ n ∧ n ≤ 4 := by lia
  have O6 : Off [af] σ₅ σ₆ := fun b o hb e => by rw [hs6 b (by simpa using hb)]; exact e
  have ne6 : ∀ {b : Addr} {o}, σ₅ b = some o → b ≠ af → σ₆ b = some o := fun h q => O6 _ _ (by simpa using q) h
  have xf : x ≠ af := fun q => by obtain ⟨ns', spot, z1, z2, z3, z4⟩ := F5; rw [← q, P5.obj] at z2; cases z2
  have df : dd ≠ af := fun q => by obtain ⟨ns', spot, z1, z2, z3, z4⟩ := F5; rw [← q, P5.dict] at z2; cases z2
  have P6 : PAt σ₆ x dd as am [] [.int 0] (-1) := ⟨ne6 P5.obj xf, ne6 P5.dict df, ne6 P5.steps sf, ne6 P5.names mf, P5.ne⟩
  have hac6 := ne6 hac5 cf
  have E6 : E4 (ρ₁.set "n" (.int (n : Int))) af x ac n := ⟨(Vars.set_ne (by decide)).trans hfe, (Vars.set_ne (by decide)).trans hpe, (Vars.set_ne (by decide)).trans hce, Vars.set_eq⟩
  revert E6; refine gen (ρ₁.set "n" (.int (n : Int))) ?_; intro ρ₂; set_option tactic.hygienic false in intros
  -- names
  refine Ex.cons (Ex1.for T.quiet (.inl hF) (ItE.range2 (nmT T KN (by rfl) (by kernel_rfl) (by rfl) (callI (.typ _) Keeps.type (Evs.two (Ev.int (Ev.binop (nmC KN (by rfl) E6.n (Ev.int (Bin.add ⟨rfl, _, _, rfl, by lia, by lia, ?_⟩))))) (fun z9a => by rfl) fun z9a => by rfl))) (starS (fun z9a => by rfl) (star1 fun z9a => by rfl))))
  refine forI (fun i ρ₃ σ₇ => A4 (i ≤ n) (Ag ["var"] ρ₃ ρ₂) (PAt σ₇ x dd as am [] ((0 :: (List.range i).map nmOf).map .int) (-1)) (∀ b, b ≠ am → σ₇ b = σ₆ b)) ⟨by lia, Ag.refl, P6, fun z9a z9b => rfl⟩ ?_ ?_
  · intro J₀ Q₁; rintro i y ρ₃ σ₇ hy ⟨hi0, hag, P7, hs7⟩ hkeep
    obtain ⟨hi, rfl⟩ := range1_at hy
    refine As.local (KN.at_ _ _ (by rfl)) ?_
    have ag := hag.set (x := "var") (v := .int ((i : Int) + 1)) (by simp)
    have E7 := E6.ag ag
    refine Ex.cons (Ex1.expr (evM 119 T (nmC KN (by rfl) E7.proof (psI P7 (Evs.two (nmL KN (by rfl) (by rfl) (Ev.binop (Ev.int (Ev.binop (Ev.int (nmL KN (by rfl) (by rfl) (Bin.mul (by lia) (Bin.add ?_)))))))) (fun z9a => by rfl) (fun z9a => by rfl)))) (starS (fun z9a => by rfl) (star1 fun z9a => by rfl))))
    have hln : ((0 :: (List.range i).map nmOf).map Val.int).length = i + 1 := by simp
    have key := name_spec (ρ := ρ₃.set "var" (.int ((i : Int) + 1))) (X := noX) T (by lia) P7 (by lia) (t := nmOf i)
    rw [hln] at key
    refine key.mono (fun d σ₈ hd => ?_) fun z9a z9b z9c z => z
    obtain ⟨rfl, rfl⟩ := hd
    refine Ex.nil ⟨fun a q => (nomatch q), by lia, ag, ?_, fun b hb => by rw [Store.set_other _ _ hb]; exact hs7 b hb⟩
    have e1 : (0 :: (List.range (i + 1)).map nmOf).map Val.int = (0 :: (List.range i).map nmOf).map Val.int ++ [Val.int (nmOf i)] := by rw [List.range_succ]; simp
    rw [e1]
    exact P7.reName
  · rintro ρ₃ σ₇ ⟨hi0, hag, P7, hs7⟩ hkeep
    rw [range1_len] at P7
    have E7 := E6.ag hag
    have L7 : Lw σ₇ af an x dd as am ac n 1 ((List.range n).map nmOf) [] (-1) := by
      refine ⟨F6.same (hs7 af (Ne.symm mf)) (hs7 an (Ne.symm mn)), P7, by rw [hs7 ac cm]; exact hac6, ⟨by simp, by simp, by simp, fun i j s t h => by simp at h⟩, .inl ⟨rfl, by simp⟩, cf, cn, cs', cm, sf, sn⟩
    revert L7; refine genE ((List.range n).map nmOf) ?_; intro ts hts; set_option tactic.hygienic false in intros
    have htl : ts.length = n := by rw [← hts]; simp
    -- clauses
    refine Ex.cons (Ex1.for T.quiet (.inl hF) (ItE.range1 (nmT T KN (by rfl) (by kernel_rfl) (by rfl) (callI (.typ _) Keeps.type (Evs.one (Ev.binop (Ev.int (evF2 228 T KN (nmC KN (by rfl) E7.feed (Ev.int ((dip_spec (many := 6) T (by lia) L7.feed (by lia) (by decide)).mono (fun d σ₈ hd => ?_) fun z9a z9b z9c z => z)))))) fun z9a => by rfl))) (star1 fun z9a => by rfl)))
    obtain ⟨w, rfl, hw, F8, hs8⟩ := hd
    have offD : ∀ {σ' σ'' : Store}, (∀ b, b ≠ af → σ'' b = σ' b) → Off [af] σ' σ'' := fun h b o hb e => by rw [h b (by simpa using hb)]; exact e
    have L8 : Lw σ₈ af an x dd as am ac n 2 ts [] (-1) := L7.off (offD hs8) F8
    refine Bin.add (rg1I (by lia) (by lia) ?_)
    rw [show (2 : Int) + (w : Int) = ((2 + w : Nat) : Int) by lia]
    refine forI (fun i ρ₄ σ₄ => Ag ["lap", "codes", "clause"] ρ₄ ρ₃ ∧ X2 fun ss e => A3 (Lw σ₄ af an x dd as am ac n (2 + 4 * i) ts ss e) (ss.length ≤ i) (∀ (k : Nat) (s : Stp), ss[k]? = some s → s.lap < (i : Int))) ⟨Ag.refl, [], -1, L8, by simp, by simp⟩ ?_ ?_
    · intro J₀ Q₁; rintro i y ρ₄ σ₉ hy ⟨hag4, ss, e, L9, hsl, hlaps⟩ hkeep9
      obtain ⟨hi, rfl⟩ := rangeL_at hy
      refine As.local (KN.at_ _ _ (by rfl)) ?_
      have ag4 := hag4.set (x := "lap") (v := .int (i : Int)) (by simp)
      have E9 := E7.ag ag4
      have hlap : (ρ₄.set "lap" (.int (i : Int))) "lap" = some (.int (i : Int)) := Vars.set_eq
      revert ag4 E9 hlap; refine gen (ρ₄.set "lap" (.int (i : Int))) ?_; intro ρ₅; set_option tactic.hygienic false in intros
      refine Ex.cons (exAssignComp (compOk KN (by kernel_rfl)) T.quiet (ItE.range1 (nmT T KN (by rfl) (by kernel_rfl) (by rfl) (callI (.typ _) Keeps.type (Evs.one (Ev.binop (Ev.int (evF2 228 T KN (nmC KN (by rfl) E9.feed (Ev.int ((dip_spec (many := 3) T (by lia) L9.feed (by lia) (by decide)).mono (fun d σ₁₀ hd => ?_) fun z9a z9b z9c z => z)))))) fun z9a => by rfl))) (star1 fun z9a => by rfl)) (KN.at_ _ _ (by rfl)))
      obtain ⟨u, rfl, hu, F10, hs10⟩ := hd
      have L10 : Lw σ₁₀ af an x dd as am ac n (2 + 4 * i + 1) ts ss e := L9.off (offD hs10) F10
      refine Bin.add (rg1I (by lia) (by lia) ?_)
      rw [show (1 : Int) + (u : Int) = ((1 + u : Nat) : Int) by lia]
      refine ⟨by rw [rangeL_len]; lia, fun j ys σ' => j ≤ 1 + u ∧ ∃ cd : List Nat, ys = (cd.map fun (n : Nat) => (n : Int)).map .int ∧ cd.length = j ∧ (∀ c ∈ cd, c < 2 * n) ∧ Lw σ' af an x dd as am ac n (2 + 4 * i + 1 + j) ts ss e, ⟨by lia, [], rfl, rfl, by simp, L10⟩, ?_, ?_⟩
      · rintro C'' hC j y ys ρ₆ σ₁₁ hy ⟨hj0, cd, rfl, hcl, hcd, L11⟩ hkeep11 hcap
        obtain ⟨hj, rfl⟩ := rangeL_at hy
        have KNc := Kn.comp hC
        have Tc := T.comp hC
        have hrc := hC.room
        refine As.local (KNc.at_ _ _ (freed_local (x := "k") (by rfl))) ⟨hcap.set (by rfl), ?_⟩
        show Ev C'' _ σ₁₁ _ _ noX
        have hc6 : Capt _ ρ₅ (ρ₆.set "k" (.int (j : Int))) := hcap.set (by rfl)
        have hf6 : (ρ₆.set "k" (.int (j : Int))) "feed" = some (.ref af) := (hc6 "feed" (by rfl)).trans E9.feed
        have hn6 : (ρ₆.set "k" (.int (j : Int))) "n" = some (.int (n : Int)) := (hc6 "n" (by rfl)).trans E9.n
        refine evF2 228 Tc KNc (nmC KNc (by rfl) hf6 (Ev.binop (Ev.int (nmC KNc (by rfl) hn6 (Bin.mul (by lia) ?_)))))
        rw [show (2 : Int) * (n : Int) = ((2 * n : Nat) : Int) by lia]
        refine (dip_spec Tc (by lia) L11.feed (by lia) (by lia)).mono (fun d σ₁₂ hd => ?_) fun z9a z9b z9c z => z
        obtain ⟨c, rfl, hc, F12, hs12⟩ := hd
        refine ⟨fun a q => (nomatch q), by lia, cd ++ [c], by simp, by simp [hcl], fun c' hc' => ?_, L11.off (offD hs12) F12⟩
        rcases List.mem_append.mp hc' with h | h
        · exact hcd c' h
        · rw [List.mem_singleton] at h; subst h; exact hc
      · rintro ys σ₁₁ acd ⟨_, cd, rfl, hcl, hcd, L11⟩ _ hacd
        rw [rangeL_len] at hcl L11
        have S12 := (Sub.refl σ₁₁).new (o := .list ((cd.map fun (n : Nat) => (n : Int)).map .int)) hacd
        have hcd12 : (σ₁₁.set acd (.list ((cd.map fun (n : Nat) => (n : Int)).map .int))) acd = some (.list ((cd.map fun (n : Nat) => (n : Int)).map .int)) := Store.set_same _ _ _
        have L12 := L11.sub S12
        generalize σ₁₁.set acd (.list ((cd.map fun (n : Nat) => (n : Int)).map .int)) = σ₁₂ at S12 hcd12 L12 ⊢
        have ag5 := ag4.set (x := "codes") (v := .ref acd) (by simp)
        have E10 := E9.set (y := "codes") (v := .ref acd)
        have hlap10 : (ρ₅.set "codes" (.ref acd)) "lap" = some (.int (i : Int)) := (Vars.set_ne (by decide)).trans hlap
        have hcodes : (ρ₅.set "codes" (.ref acd)) "codes" = some (.ref acd) := Vars.set_eq
        revert ag5 E10 hlap10 hcodes; refine gen (ρ₅.set "codes" (.ref acd)) ?_; intro ρ₆; set_option tactic.hygienic false in intros
        have hlits : Lits n (cd.map litOf) := fun l hl => by
          obtain ⟨c, hc, rfl⟩ := List.mem_map.mp hl
          have := hcd c hc
          rw [litOf_abs]; lia
        refine Ex.cons (Ex1.assign (evF1 233 T KN (evCompOf KN T.quiet (by kernel_rfl) (ItE.of_ev (nmL KN (by rfl) hcodes (.inl ⟨acd, _, rfl, hcd12, by simp; lia, litG, fun z9a C'' hC y hy ρ₇ hcap => ?_, fun a13 ha13 => ?_⟩))))))
        · obtain ⟨c', hc', rfl⟩ := List.mem_map.mp hy
          obtain ⟨c, hc, rfl⟩ := List.mem_map.mp hc'
          have hcb := hcd c hc
          have KNc := Kn.comp hC
          refine tgtName hC (by rfl) hcap fun ρ₈ g1 g2 => ?_
          have hfm : (c : Int).fmod 2 = ((c % 2 : Nat) : Int) := by rw [Int.fmod_eq_emod_of_nonneg _ (by lia)]; lia
          have hfd : (c : Int).fdiv 2 = ((c / 2 : Nat) : Int) := by rw [Int.fdiv_eq_ediv_of_nonneg _ (by lia)]; lia
          refine ⟨rfl, rfl, fun z9a => Ev.ifexp (Tst.cmp (Ev.binop (nmL KNc (by rfl) g1 (Ev.int (Bin.mod (by lia) (Ev.int (Bin.eq (by rfl) (by rfl) (brB (fun hb => ?_) (fun hb => ?_)))))))))⟩
          · rw [hfm] at hb
            have h0 : c % 2 = 0 := by
              have : ((c % 2 : Nat) : Int) = 0 := by simpa [PyData.eqv, Val.py] using hb
              lia
            refine Ev.binop (Ev.binop (nmL KNc (by rfl) g1 (Ev.int (Bin.floordiv (by lia) (PyProof.noPylong_small (by lia)) (Ev.int (Bin.add ⟨rfl, ?_⟩))))))
            rw [hfd]
            show some (Val.int (litOf c)) = _
            unfold litOf; rw [if_pos h0]
          · rw [hfm] at hb
            have h0 : ¬ c % 2 = 0 := fun q => by rw [q] at hb; simp [PyData.eqv, Val.py] at hb
            refine Ev.unop (Ev.binop (Ev.binop (nmL KNc (by rfl) g1 (Ev.int (Bin.floordiv (by lia) (PyProof.noPylong_small (by lia)) (Ev.int (Bin.add (Una.neg ⟨rfl, ?_⟩))))))))
            rw [hfd]
            show some (Val.int (litOf c)) = _
            unfold litOf; rw [if_neg h0]
        rw [filterMap_lit]
        have S13 := (Sub.refl σ₁₂).new (o := .list ((cd.map litOf).map .int)) ha13
        refine (ordered_spec T (by lia) (Store.set_same _ _ _) (hlits.small hn.2) (by simp; lia)).mono (fun d σ₁₃ hd => ?_) fun z9a z9b z9c z => z
        obtain ⟨rfl, rfl⟩ := hd
        have L13 := L12.sub S13
        revert S13 L13; refine gen (σ₁₂.set a13 (.list ((cd.map litOf).map .int))) ?_; intro σ₁₃; set_option tactic.hygienic false in intros
        refine As.local (KN.at_ _ _ (by rfl)) ?_
        have ag6 := ag5.set (x := "clause") (v := optV (ordF (cd.map litOf))) (by simp)
        have E11 := E10.set (y := "clause") (v := optV (ordF (cd.map litOf)))
        have hlap11 : (ρ₆.set "clause" (optV (ordF (cd.map litOf)))) "lap" = some (.int (i : Int)) := (Vars.set_ne (by decide)).trans hlap10
        have hcls11 : (ρ₆.set "clause" (optV (ordF (cd.map litOf)))) "clause" = some (optV (ordF (cd.map litOf))) := Vars.set_eq
        revert ag6 E11 hlap11 hcls11; refine gen (ρ₆.set "clause" (optV (ordF (cd.map litOf)))) ?_; intro ρ₇; set_option tactic.hygienic false in intros
        refine Ex.cons (Ex1.ite (Tst.cmp (nmL KN (by rfl) hcls11 (Ev.none (Bin.isNotNone (brB (fun hb => ?_) (fun hb => ?_)))))))
        · cases ho : ordF (cd.map litOf) with
          | none => rw [ho] at hb; cases hb
          | some c =>
            rw [ho] at hcls11
            have htc := ordF_tidy ho
            have hlc := ordF_len ho
            have hLc : Lits n c := fun l hl => hlits l (ordF_sub (hlits.small hn.2) ho l hl)
            have lenS : (ss.map Stp.val).length = ss.length := by simp
            have lenC : ((clsOf ss).map clV).length = ss.length := by simp [clsOf]
            have hadd : addOk "input" c [] (ss.map Stp.val).length = true := by unfold addOk; rw [htc]; rfl
            refine Ex.cons (Ex1.ite (Tst.cmp (evM 161 T (nmC KN (by rfl) E11.proof (psI L13.P (Evs.four (Ev.str (nmL KN (by rfl) hcls11 (Ev.tuple (Evs.nil ⟨by simp, nmL KN (by rfl) hlap11 ((add_spec (c := c) (ps := []) T (by lia) L13.P (by lia) (by decide) (by decide +kernel) (by lia) (by simp) (by simp) (fun q => by rw [hadd] at q; cases q)).mono (fun d σ₁₄ hd => ?_) fun z9a z9b z9c z => z)⟩)))) (fun z9a => by rfl) (fun z9a => by rfl) (fun z9a => by rfl) (fun z9a => by rfl)))) (starS (fun z9a => by rfl) (starS (fun z9a => by rfl) (starS (fun z9a => by rfl) (star1 fun z9a => by rfl)))))))
            obtain ⟨_, rfl, P14, hfr14⟩ := hd
            obtain ⟨d1, d2, d3, d4⟩ := L13.cd
            rw [lenS] at P14 ⊢
            have hac14 : σ₁₄ ac = some (.list ((clsOf ss).map clV)) := by rw [hfr14 ac L13.cs d1]; exact L13.cls
            refine evB1 T KN (nmC KN (by rfl) E11.clauses (Cal.lenN hac14 lenC (by lia) (Bin.neR (r := false) (by rfl) (by rfl) (eqv_self (by rfl)) (brF (Ex.nil ?_)))))
            refine Ex.cons (Ex1.expr (Ev.callL PySem.F.slot_list_append PySem.F.type_list_append (nmC KN (by rfl) E11.clauses ⟨ac, _, rfl, hac14, Evs.one (nmL KN (by rfl) hcls11 (Cal.append hac14 (by lia) (Ex.nil (Ex.nil ?_)))) fun z9a => by rfl⟩) (star1 fun z9a => by rfl)))
            have hcls' : (clsOf ss).map clV ++ [optV (some c)] = (clsOf (ss ++ [inpStep c (i : Int)])).map clV := by simp [clsOf, inpStep, optV]
            rw [hcls']
            have hval : ss.map Stp.val ++ [Val.tup [.str "input", clV c, clV [], .int (i : Int)]] = (ss ++ [inpStep c (i : Int)]).map Stp.val := by rw [List.map_append, ← inpStep_val]; rfl
            rw [hval] at P14
            have hG : Good n (ss ++ [inpStep c (i : Int)]) := L13.good.add ⟨htc, hlc, hLc⟩ (fun z9a => ⟨rfl, fun k s hs z9a => hlaps k s hs⟩) (fun q => by cases q)
            have O14 : Off [as, dd, ac] σ₁₃ (σ₁₄.set ac (.list ((clsOf (ss ++ [inpStep c (i : Int)])).map clV))) := by
              refine Off.set (fun b o hb eb => ?_) (by simp)
              simp only [List.mem_cons, List.not_mem_nil, or_false, not_or] at hb
              rw [hfr14 b hb.1 hb.2.1]; exact eb
            have L14 := L13.add (t := inpStep c (i : Int)) hG (P14.put (o := .list ((clsOf (ss ++ [inpStep c (i : Int)])).map clV)) d2 d1 L13.cs L13.cm) O14 (Store.set_same _ _ _)
            refine ⟨fun a q => (nomatch q), ag6, _, _, L14.off Off.refl (L14.feed.le (by lia)), by simp; lia, fun k s hs => ?_⟩
            rcases at_add hs with ⟨_, h⟩ | ⟨_, rfl⟩
            · have := hlaps k s h; lia
            · show (i : Int) < _; lia
        · refine Ex.nil (Ex.nil ⟨fun a q => (nomatch q), ag6, ss, e, L13.off Off.refl (L13.feed.le (by lia)), by lia, fun k s hs => ?_⟩)
          have := hlaps k s hs; lia
    · rintro ρ₄ σ₉ ⟨hag4, ss, e, L9, hsl, hlaps⟩ hkeep9
      rw [rangeL_len] at hsl L9
      exact law_B T KN hF hr (E7.ag hag4) L9 (by lia) (by lia) htl (by lia)
end Mine
set_option tactic.hygienic false
namespace Mine
open PySem PySem.W PyProof.Rows PySem.Calls
set_option maxRecDepth 100000
theorem law_head {w : World} {env : Env} {s₁ : Shared} {h₁ : Heap} {tk : Nat} {m : Str → Option Value} {p : Program} {loose : List Str} {mean : ExcName → Option Value} {mg mb : Str → Option Value} {a : Addr} {vs : List Value} {ns : List Int} {E : Value → Shared → Prop}
    (KX : (hd.heap_39 w.params).In s₁.heap) (T : Top p loose mean mg mb s₁.heap) (hs : s₁.heap.NoSeer) (hg : s₁.gens = #[]) (hL : s₁.heap.IsList a (List.toArray vs)) (hI : IntsAre vs ns) (hz : ns.length ≤ 63)
    (hk : env.scope.kind = .function) (hgl : env.globals = mainGlobals) (hbl : env.builtins = builtinsNs) (hfr : env.frame = some env.locals) (hloc : s₁.heap.get? env.locals = none)
    (hnames : ∀ x k, (fn280 w.params).fd.scope.names.lookup x = some k → env.kindOf x = some k) (hscr : env.kindOf "script" = some .local)
    (F : Fr s₁.heap env.locals h₁ m) (hm : m "script" = some (.ref a)) (hc : ∀ x c, env.cells.lookup x = some c → (∃ u, h₁.IsCell c u) ∧ s₁.heap.get? c = none) (hall : ∀ x, (env.kindOf x = some .cell ∨ env.kindOf x = some .free) → (env.cells.lookup x).isSome = true)
    (hap : env.cells.Pairwise fun x y => x.2 ≠ y.2) :
    wpAny (model PySem.Challenge.rw_no0006_01.row.prog w) (callerA.deeper env) (execs (fn280 w.params).body env) (fun f s' => f = .ret (.bool true) ∧ (∀ b o, s₁.heap.get? b = some o → s'.heap.get? b = some o) ∧ s'.os = s₁.os ∧ s'.gens = #[]) E { heap := h₁, gens := s₁.gens, drawn := s₁.drawn, toks := tk, os := s₁.os } := by
  let C : Cx := { prog := PySem.Challenge.rw_no0006_01.row.prog, w := w, A := callerA.deeper env, env := env, h₁ := s₁.heap, os := s₁.os, frs := [], room := 60, quiet := true, bad := [], K := hd.heap_39 w.params }
  have ok : C.Ok := by
    refine ⟨by show 1 + claimMargin + 1 + 60 < recursionLimit; decide, by show 4 + 3 + 20 * 60 + 20 < cLine; decide, fun z9a => rfl, hk, hgl, hbl, KX, ⟨[env], rfl⟩, T.nolimit, hap, fun l hl e he => ?_⟩
    have : l = [env] := by
      have h : some [env] = some l := hl
      exact (Option.some.inj h).symm
    subst this
    rw [List.mem_singleton] at he; subst he
    exact ⟨by rw [hk]; decide, _, hfr, .inl rfl⟩
  have Tt : Tops C := ⟨rfl, KX, ⟨p, loose, mg, mb, topRead_of T⟩, by
    obtain ⟨mm, ⟨o, es, ep, ho, _⟩, _⟩ := hs.mods
    show (s₁.heap.get? sysModules).isSome = true
    rw [ho]; rfl, rfl, rfl⟩
  have Kk : Kn C (fn280 C.w.params).fd.scope.names := ⟨hnames⟩
  have Fn : C.Fn := ⟨hfr, [], rfl⟩
  have H : St C s₁.heap (fun y => ((["script"] : List Str).zip [Val.ref a]).lookup y) (fun z9a => none) { heap := h₁, gens := s₁.gens, drawn := s₁.drawn, toks := tk, os := s₁.os } := by
    have only : ∀ {x : Str} {v : Val}, ((["script"] : List Str).zip [Val.ref a]).lookup x = some v → x = "script" ∧ v = .ref a := fun {x v} h => by
      simp only [List.zip_cons_cons, List.zip_nil_right, List.lookup_cons, List.lookup_nil] at h
      split at h
      · rename_i q; cases h; exact ⟨by simpa using q, rfl⟩
      · cases h
    refine ⟨ok, hg, rfl, fun z9a z9b e => e, F.keep, ⟨m, F.ns, fun x v hx z9a => ?_⟩, fun x c hx => ?_, hall, (fun z9a h => nomatch h), hloc, fun x c hx z9a => (hc x c hx).2, (fun z9a h => nomatch h), (fun z9a z9b h => nomatch h)⟩
    · obtain ⟨rfl, rfl⟩ := only hx
      exact ⟨_, hm, by simp [RepV]⟩
    · obtain ⟨u, hu⟩ := (hc x c hx).1
      refine ⟨u, hu, fun v hv hkd => ?_⟩
      obtain ⟨rfl, rfl⟩ := only hv
      have : C.env.kindOf "script" = some .local := hscr
      rw [this] at hkd; rcases hkd with h | h <;> cases h
  have key := law_A Tt Kk Fn (by show 40 ≤ 60; decide) (a := a) hL hI hz
  refine wpAny_mono (key _ _ H) ?_ ?_
  · rintro f s' ⟨ρ', σ', H', o, rf, q⟩
    have q : o = .ret (.bool true) := q
    subst q
    simp only [RepF, RepV] at rf
    obtain ⟨v, rfl, rfl⟩ := rf
    exact ⟨rfl, H'.b2, H'.os, H'.gens⟩
  · rintro e s' ⟨c, ρ', σ', x, H', q⟩
    exact q.elim
end Mine
set_option tactic.hygienic true
namespace Mine
open PySem PySem.W PyProof.Rows PySem.Calls
theorem cells_news {cm : Str → Option Value} {h₀ h : Heap} {L : Addr} {cs : List (Str × Addr)} {cells : List (Addr × Obj)} (X : CellsAre cm cs cells) (N : News h₀ L h cells) : ∀ x c, cs.lookup x = some c → (∃ u, h.IsCell c u) ∧ h₀.get? c = none := by
  induction X with
  | nil => intro x c hx; cases hx
  | cons hd _ ih =>
    intro x c hx
    rw [List.lookup_cons] at hx
    split at hx
    · cases hx
      obtain ⟨h1, h2, h3⟩ := N _ List.mem_cons_self
      exact ⟨⟨_, _, h1, hd⟩, h3⟩
    · exact ih (fun p hp => N p (List.mem_cons_of_mem _ hp)) x c hx
theorem all_lookup {names : List (Str × NameKind)} {cells : List (Str × Addr)} (h : (names.all fun y => !(y.2 == .cell || y.2 == .free) || (cells.lookup y.1).isSome) = true) : ∀ x, (names.lookup x = some .cell ∨ names.lookup x = some .free) → (cells.lookup x).isSome = true := fun x hx => by
  rcases hx with hx | hx
  · have := List.all_eq_true.mp h _ (mem_of_lookup hx)
    simpa using this
  · have := List.all_eq_true.mp h _ (mem_of_lookup hx)
    simpa using this
theorem apart4 {a b c d : Str} {L : Nat} : [(a, L + 1 + 1 + 1), (b, L + 1 + 1), (c, L + 1), (d, L)].Pairwise fun x y => x.2 ≠ y.2 := by
  simp; lia
end Mine
open PySem PySem.W PyProof.Rows PySem.Calls Mine
set_option maxRecDepth 100000 in
set_option maxHeartbeats 8000000 in
theorem PySem.Challenge.cw_no0006_01_holds : PySem.Challenge.rw_no0006_01.Holds := by
  refine holds_law hdSaid fun said => ?_
  refine holds_open (q := hdView) (loose := []) (Xt := fun s => xlAt hdView [] s && recOk PySem.Challenge.rw_no0006_01.row.records s) (XP := XL hdView []) (Yf := hdHook.obs) (Ya := hdHook.val) (YP := hdHook.says) (N := 3936)
    hdLeft hdHook.of hdHook.keeps (fun s e => xl_of s (Bool.and_eq_true_iff.mp e).1) XL.keeps (by rfl) (by rfl) (by rfl) (fun s e => recFacts_of (Bool.and_eq_true_iff.mp e).2) (by rfl) said (by kernel_rfl) ⟨rfl, rfl, rfl, rfl, rfl, by kernel_rfl⟩
    ⟨[.list []], by decide +kernel, by decide +kernel⟩ ?_
  k_fill
  intro w s₀ s₁ mg mb G Y fa o pm cd doc dV kV ho hd hcd hD hmg hg args vals as hpre hlay hrd hwl hlo
  have KX := kIn_of Y
  have X := (Ground.X G).1
  have V := (Ground.X G).2
  have GL := glob_more (Ground.glob G (by decide +kernel) (by decide +kernel)) V
  refine Ground.open G ?_
  intro T B D TE TW
  obtain ⟨_, _, M⟩ := bmod_of_top T
  clear hmg
  wrow_args hpre hlay hrd hwl hlo
  refine enter_call ?_
  w_top on
  refine codeAny_mono ?_ (fun z9a z9b g => GoodW.toG g)
  w_call any ho hd hcd hD T F
  rename_i hs hlay0 hL1 hr1 hl2 _ _ _ _ _ hL ra w1 r0 hI hr hcond hcond2 _ _ _ _ _ _ left2 left1 left0 right0 N0 X0
  refine wpAny_mono (law_head (E := fun z9a z9b => False) KX T GL.seer (by assumption) hL hI (by lia) rfl rfl rfl rfl ?hloc ?hnames rfl F ?hm ?hc ?hall ?hap) ?ok ?err
  case hloc => exact Heap.get?_none_of_le (Nat.le_refl _)
  case hnames => exact fun x k h => h
  case hm => rfl
  case hc => exact cells_news X0 N0
  case hall => exact all_lookup (by rfl)
  case hap => exact apart4
  case err => exact fun z9a z9b h => h.elim
  case ok =>
    rintro f s' ⟨rfl, hk, hos, hgs⟩
    exact ⟨.inl ⟨_, _, [], rfl, fun z9a => rfl, ReadsW.bool true, by wrow_post, fun z9a => ⟨List.nodup_nil, (fun z9a h => nomatch h)⟩⟩, hk, hos, hgs⟩
