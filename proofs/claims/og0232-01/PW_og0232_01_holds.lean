import PyProof.Rows.All
import Wide.All
import OpenK.AllK
import Wide.FinOn
import PySem.Challenge.RW_og0232_01
open PySem PySem.W PyProof.Rows PySem.Calls
set_option Elab.async false
set_option maxRecDepth 100000
set_option maxHeartbeats 0
set_option linter.unusedVariables false
set_option linter.unusedSimpArgs false
set_option linter.deprecated false
set_option compiler.extract_closed false
set_option genInjectivity false
set_option genSizeOfSpec false
namespace Mine
section -- Core
theorem len0 : ∀ {vs : List Value}, vs.length = 0 → vs = [] := List.eq_nil_of_length_eq_zero
theorem lenS {n : Nat} {vs : List Value} (h : vs.length = n + 1) : ∃ v r, vs = v :: r ∧ r.length = n := by
  cases vs with
  | nil => cases h
  | cons v r => exact ⟨v, r, rfl, Nat.succ.inj h⟩
theorem len1 {vs : List Value} (h : vs.length = 1) : ∃ v, vs = [v] := by
  obtain ⟨v, r, rfl, hr⟩ := lenS h; rw [len0 hr]; exact ⟨v, rfl⟩
theorem len2 {vs : List Value} (h : vs.length = 2) : ∃ v u, vs = [v, u] := by
  obtain ⟨v, r, rfl, hr⟩ := lenS h; obtain ⟨u, rfl⟩ := len1 hr; exact ⟨v, u, rfl⟩
theorem len3 {vs : List Value} (h : vs.length = 3) : ∃ v u t, vs = [v, u, t] := by
  obtain ⟨v, r, rfl, hr⟩ := lenS h; obtain ⟨u, t, rfl⟩ := len2 hr; exact ⟨v, u, t, rfl⟩
theorem len4 {vs : List Value} (h : vs.length = 4) : ∃ v u t s, vs = [v, u, t, s] := by
  obtain ⟨v, r, rfl, hr⟩ := lenS h; obtain ⟨u, t, s, rfl⟩ := len3 hr; exact ⟨v, u, t, s, rfl⟩
theorem len5 {vs : List Value} (h : vs.length = 5) : ∃ v u t s q, vs = [v, u, t, s, q] := by
  obtain ⟨v, r, rfl, hr⟩ := lenS h; obtain ⟨u, t, s, q, rfl⟩ := len4 hr; exact ⟨v, u, t, s, q, rfl⟩
set_option genInjectivity true in
/-- what is known of a name's value -/
inductive Ent where
  | dat (d : PyData)
  | lst (own : Bool) (xs : List PyData)
  | cost (dx : Addr) (ps ds : List Int)
/-- of which road a list comes -/
inductive Fl where
  | fresh
  | safe
  | ownd
  deriving DecidableEq
/-- what is known of a tree's value -/
inductive Res where
  | dat (d : PyData)
  | lst (fl : Fl) (xs : List PyData)
  | deck (l : Addr) (c : List Int) (t : Int)
  | cost (fr : Bool) (dx : Addr) (ps ds : List Int)
noncomputable abbrev Sto := Str → Option Ent
noncomputable abbrev Vals := Str → Option Value
noncomputable abbrev Dk := Option (Addr × List Int × Int)
noncomputable def Sto.set (σ : Sto) (x : Str) (e : Ent) : Sto := fun y => if y = x then some e else σ y
theorem Sto.set_same (σ : Sto) (x : Str) (e : Ent) : σ.set x e x = some e := if_pos rfl
theorem Sto.set_ne (σ : Sto) {x y : Str} (e : Ent) (h : y ≠ x) : σ.set x e y = σ y := if_neg h
noncomputable def Lst (h : Heap) (a : Addr) (xs : List PyData) : Prop := ∃ vs : Array Value, h.PlainList a vs ∧ ReadsAll h vs.toList xs []
noncomputable def deckName : Str := Str.ofString "deck"
/-- all objects stay -/
noncomputable def Stays (h h' : Heap) : Prop := ∀ b o, h.get? b = some o → h'.get? b = some o
structure Okay (k : Nat) (A : Around) : Prop where
  hd : A.handled = none
  dep : A.depth + k < 900
  un : A.units + 3 * k + 300 < 9000
theorem Okay.deeper {k : Nat} {A : Around} (h : Okay (k + 1) A) (env : Env) : Okay k (A.deeper env) :=
  ⟨h.hd, by have := h.dep; show A.depth + 1 + k < 900; omega, by have := h.un; show A.units + 3 + 3 * k + 300 < 9000; omega⟩
theorem Okay.room {k : Nat} {A : Around} (h : Okay k A) : A.depth < recursionLimit := by
  have := h.dep; show A.depth < 1000; omega
theorem Okay.units {k : Nat} {A : Around} (h : Okay k A) : A.units + 64 < cLine := by
  have := h.un; show A.units + 64 < 9900; omega
structure EnvOk (env : Env) : Prop where
  fn : env.scope.kind = .function
  gl : env.globals = mainGlobals
  bl : env.builtins = builtinsNs
  inj : ∀ x y c, env.cells.lookup x = some c → env.cells.lookup y = some c → x = y
theorem EnvOk.plain {env : Env} (h : EnvOk env) : (env.scope.kind == .class || (env.scope.kind == .module && env.locals != env.globals)) = false := by
  rw [h.fn]; rfl
structure Frm (env : Env) (h : Heap) (m : Vals) : Prop where
  ns : ∃ mL, h.Ns env.locals mL ∧ ∀ x, env.kindOf x = some .local → mL x = m x
  cl : ∀ x c, env.kindOf x = some .cell → env.cells.lookup x = some c → h.IsCell c (m x)
theorem Frm.stays {env : Env} {h h' : Heap} {m : Vals} (F : Frm env h m) (k : Stays h h') : Frm env h' m where
  ns := let ⟨mL, a, b⟩ := F.ns; ⟨mL, a.keeps k, b⟩
  cl := fun x c hk hc => (F.cl x c hk hc).keeps k
theorem lst_stays {h h' : Heap} {a : Addr} {xs : List PyData} (x : Lst h a xs) (k : Stays h h') : Lst h' a xs  := by
  obtain ⟨vs, ⟨n, p⟩, r⟩ := x; exact ⟨vs, ⟨n, k _ _ p⟩, ReadsAll.keeps k r⟩
theorem Lst.isList {h : Heap} {a : Addr} {xs : List PyData} (x : Lst h a xs) : ∃ vs : Array Value, h.IsList a vs ∧ ReadsAll h vs.toList xs []  := by
  obtain ⟨vs, p, r⟩ := x; exact ⟨vs, p.isList, r⟩
theorem Lst.lt {h : Heap} {a : Addr} {xs : List PyData} (x : Lst h a xs) : a < h.objs.size  := by
  obtain ⟨_, ⟨_, p⟩, _⟩ := x; exact Heap.lt_size p
theorem readsAll_length {h : Heap} : ∀ {vs : List Value} {ds : List PyData} {as : List Addr}, ReadsAll h vs ds as → vs.length = ds.length
  | _, _, _, .nil => rfl
  | _, _, _, .cons _ r => by rw [List.length_cons, List.length_cons, readsAll_length r]
section
variable (prog : Program) (w : World)
noncomputable def DeckAt (h : Heap) (a l : Addr) (c : List Int) (t : Int) : Prop :=
  ∃ tok, h.DictOf (PySem.strKind prog w) a [(Str.ofString "cells", .ref l), (Str.ofString "at", .int t tok)] ∧ Lst h l (c.map .int)
/-- how the costs' object and its table are made -/
noncomputable def CostRest (o : Obj) (dx : Addr) (es : List DictEntry) (l : Addr) (ps : List Int) : Prop := o = { cls := .ref 45, dict := some dx, data := .plain } ∧ ∃ (h0 h1 h2 h3 h4 : Int) (k0 k1 k2 k3 k4 t0 t1 t2 t3 : Tok) (p0 p1 p2 p3 : Int), ps = [p0, p1, p2, p3] ∧
  es = [⟨h0, .str (Str.ofString "delete_first") k0, .int p0 t0⟩, ⟨h1, .str (Str.ofString "delete_more") k1, .int p1 t1⟩, ⟨h2, .str (Str.ofString "insert_first") k2, .int p2 t2⟩, ⟨h3, .str (Str.ofString "insert_more") k3, .int p3 t3⟩, ⟨h4, .str (Str.ofString "draws") k4, .ref l⟩]
/-- the costs' object -/
noncomputable def CostAt (h : Heap) (a : Addr) (dx : Addr) (ps ds : List Int) : Prop :=
  ∃ o es n l, h.get? a = some o ∧ o.data = .plain ∧ h.get? dx = some ({ cls := .type "dict", data := .dict (List.toArray es) n } : Obj) ∧ es.length = 5 ∧ CostRest o dx es l ps ∧ Lst h l (ds.map .int)
variable {prog w}
theorem deckAt_stays {h h' : Heap} {a l : Addr} {c : List Int} {t : Int} (x : DeckAt prog w h a l c t) (k : Stays h h') : DeckAt prog w h' a l c t  := by
  obtain ⟨tok, d, r⟩ := x; exact ⟨tok, d.keep k, lst_stays r k⟩
theorem DeckAt.lt {h : Heap} {a l : Addr} {c : List Int} {t : Int} (x : DeckAt prog w h a l c t) : a < h.objs.size  := by
  obtain ⟨_, ⟨_, _, _, ho, _⟩, _⟩ := x; exact Heap.lt_size ho
theorem costAt_stays {h h' : Heap} {a dx : Addr} {ps ds : List Int} (x : CostAt h a dx ps ds) (k : Stays h h') : CostAt h' a dx ps ds  := by
  obtain ⟨o, es, n, l, h1, h2, h3, h4, h5, h6⟩ := x; exact ⟨o, es, n, l, k _ _ h1, h2, k _ _ h3, h4, h5, lst_stays h6 k⟩
end
section
variable (prog : Program) (w : World) (H0 : Heap)
noncomputable def Holds (h : Heap) (v : Value) : Ent → Prop
  | .dat d => Reads h v d []
  | .lst own xs => ∃ a, v = .ref a ∧ Lst h a xs ∧ (own = true → H0.get? a = none)
  | .cost dx ps ds => ∃ a, v = .ref a ∧ CostAt h a dx ps ds
theorem holds_stays {h h' : Heap} {v : Value} (k : Stays h h') : ∀ {e : Ent}, Holds H0 h v e → Holds H0 h' v e := by
  intro e y0
  cases e with
  | dat d0 => exact Reads.keeps k y0
  | lst f0 xs0 => obtain ⟨a, e, x, y⟩ := y0; exact ⟨a, e, lst_stays x k, y⟩
  | cost dx0 ps0 ds0 => obtain ⟨a, e, x⟩ := y0; exact ⟨a, e, costAt_stays x k⟩
noncomputable def OwnA (m : Vals) (σ : Sto) (b : Addr) : Prop := ∃ x xs, σ x = some (.lst true xs) ∧ m x = some (.ref b)
noncomputable def DkA (m : Vals) (dk : Dk) (b : Addr) : Prop := dk.isSome = true ∧ m deckName = some (.ref b)
noncomputable def CellA (env : Env) (b : Addr) : Prop := ∃ x, env.kindOf x = some .cell ∧ env.cells.lookup x = some b
noncomputable def Mut (env : Env) (m : Vals) (σ : Sto) (dk : Dk) (b : Addr) : Prop := b = env.locals ∨ CellA env b ∨ OwnA m σ b ∨ DkA m dk b
structure Rel (env : Env) (h : Heap) (m : Vals) (σ : Sto) (dk : Dk) : Prop where
  base : Stays H0 h
  frm : Frm env h m
  newL : H0.get? env.locals = none
  newC : ∀ x c, env.cells.lookup x = some c → H0.get? c = none
  hold : ∀ x e, σ x = some e → ∃ v, m x = some v ∧ Holds H0 h v e
  own : ∀ x xs, σ x = some (.lst true xs) → ∀ a, m x = some (.ref a) → ∀ y e, σ y = some e → m y = some (.ref a) → y = x
  cst : ∀ x dx ps ds, σ x = some (.cost dx ps ds) → dx ≠ env.locals
  dek : ∀ l c t, dk = some (l, c, t) → ∃ a, m deckName = some (.ref a) ∧ DeckAt prog w h a l c t ∧ H0.get? a = none ∧ a ≠ env.locals ∧ ¬ OwnA m σ l
variable {prog w H0}
/-- what stood stands -/
noncomputable def Dom (h h' : Heap) : Prop := ∀ b o, h.get? b = some o → ∃ o', h'.get? b = some o'
theorem Stays.dom {h h' : Heap} (k : Stays h h') : Dom h h' := fun b o e => ⟨o, k b o e⟩
theorem Dom.none {h h' : Heap} (d : Dom h h') {a : Addr} (e : h'.get? a = .none) : h.get? a = .none := by
  cases q : h.get? a with
  | none => rfl
  | some o => obtain ⟨o', e'⟩ := d a o q; rw [e] at e'; cases e'
theorem Dom.trans {h h₁ h₂ : Heap} (a : Dom h h₁) (b : Dom h₁ h₂) : Dom h h₂ := fun x o e => let ⟨o', e'⟩ := a x o e; b x o' e'
theorem Dom.refl {h : Heap} : Dom h h := fun _ o e => ⟨o, e⟩
theorem new_none (h : Heap) : h.get? h.objs.size = .none := by
  cases q : h.get? h.objs.size with
  | none => rfl
  | some o => exact absurd (Heap.lt_size q) (Nat.lt_irrefl _)
theorem Rel.stays {env : Env} {h h' : Heap} {m : Vals} {σ : Sto} {dk : Dk} (R : Rel prog w H0 env h m σ dk) (k : Stays h h') : Rel prog w H0 env h' m σ dk where
  base := fun b o e => k b o (R.base b o e)
  frm := R.frm.stays k
  newL := R.newL
  newC := R.newC
  hold := fun x e hx => let ⟨v, hv, hh⟩ := R.hold x e hx; ⟨v, hv, holds_stays H0 k hh⟩
  own := R.own
  cst := R.cst
  dek := fun l c t e => let ⟨a, h1, h2, h3⟩ := R.dek l c t e; ⟨a, h1, deckAt_stays h2 k, h3⟩
/-- what a tree keeps: all but the deck -/
structure KeepE (m : Vals) (dk dk' : Dk) (h h' : Heap) : Prop where
  get : ∀ b o, h.get? b = some o → ¬ DkA m dk b → h'.get? b = some o
  dom : Dom h h'
  dkl : dk'.map (·.1) = dk.map (·.1)
theorem KeepE.dk {m : Vals} {dk dk' : Dk} {h h' : Heap} (K : KeepE m dk dk' h h') : dk'.isSome = dk.isSome := by
  have := congrArg Option.isSome K.dkl; simpa using this
theorem KeepE.of_stays {m : Vals} {dk : Dk} {h h' : Heap} (k : Stays h h') : KeepE m dk dk h h' := ⟨fun b o e _ => k b o e, k.dom, rfl⟩
theorem KeepE.refl {m : Vals} {dk : Dk} {h : Heap} : KeepE m dk dk h h := ⟨fun _ _ e _ => e, .refl, rfl⟩
theorem KeepE.trans {m : Vals} {dk dk₁ dk₂ : Dk} {h h₁ h₂ : Heap} (a : KeepE m dk dk₁ h h₁) (b : KeepE m dk₁ dk₂ h₁ h₂) : KeepE m dk dk₂ h h₂ :=
  ⟨fun x o e n => b.get x o (a.get x o e n) fun ⟨p, q⟩ => n ⟨a.dk ▸ p, q⟩, a.dom.trans b.dom, b.dkl.trans a.dkl⟩
variable (prog w)
/-- what a value is worth -/
noncomputable def Vl (m : Vals) (σ : Sto) (hz : Heap) (h : Heap) (v : Value) : Res → Prop
  | .dat d => Reads h v d []
  | .lst fl xs => ∃ a, v = .ref a ∧ Lst h a xs ∧ (fl = .fresh → hz.get? a = .none) ∧ (fl = .safe → ¬ OwnA m σ a)
  | .deck l c t => ∃ a, v = .ref a ∧ DeckAt prog w h a l c t ∧ hz.get? a = .none ∧ hz.get? l = .none
  | .cost fr dx ps ds => ∃ a, v = .ref a ∧ CostAt h a dx ps ds ∧ (fr = true → hz.get? a = .none ∧ hz.get? dx = .none)
variable {prog w}
theorem deck_not_seq {h : Heap} {a b l : Addr} {c : List Int} {t : Int} {o : Obj} {vs : Array Value} {n : Nat} (D : DeckAt prog w h a l c t) (ho : h.get? b = some o) (hd : o.data = .seq vs n) : b ≠ a := by
  rintro rfl
  obtain ⟨_, ⟨o', _, _, ho', _, hd', _⟩, _⟩ := D
  rw [ho] at ho'; cases ho'; rw [hd] at hd'; cases hd'
/-- tuples stay: enough for data -/
noncomputable def StaysTup (h h' : Heap) : Prop := ∀ b o vs n, h.get? b = some o → o.cls = .type "tuple" → o.data = .seq vs n → h'.get? b = some o
/-- only sequences, and all of them, stay: enough for data and lists -/
noncomputable def StaysSeq (h h' : Heap) : Prop := ∀ b o vs n, h.get? b = some o → o.data = .seq vs n → h'.get? b = some o
mutual
theorem reads_tup {h h' : Heap} (k : StaysTup h h') : ∀ {v : Value} {d : PyData}, Reads h v d [] → Reads h' v d []
  | _, _, .none => .none
  | _, _, .bool b => .bool b
  | _, _, .int i t => .int i t
  | _, _, .str x t => .str x t
  | _, _, .tuple h1 h2 h3 h4 => .tuple (k _ _ _ _ h1 h2 h3) h2 h3 (readsAll_tup k h4)
theorem readsAll_tup {h h' : Heap} (k : StaysTup h h') : ∀ {vs : List Value} {ds : List PyData}, ReadsAll h vs ds [] → ReadsAll h' vs ds [] := by
  intro vs ds r
  generalize e : ([] : List Addr) = as at r
  cases r with
  | nil => exact .nil
  | cons h1 h2 =>
    obtain ⟨e1, e2⟩ := List.append_eq_nil_iff.mp e.symm
    subst e1; subst e2
    exact .cons (reads_tup k h1) (readsAll_tup k h2)
end
mutual
theorem reads_seq {h h' : Heap} (k : StaysSeq h h') : ∀ {v : Value} {d : PyData}, Reads h v d [] → Reads h' v d []
  | _, _, .none => .none
  | _, _, .bool b => .bool b
  | _, _, .int i t => .int i t
  | _, _, .str x t => .str x t
  | _, _, .tuple h1 h2 h3 h4 => .tuple (k _ _ _ _ h1 h3) h2 h3 (readsAll_seq k h4)
theorem readsAll_seq {h h' : Heap} (k : StaysSeq h h') : ∀ {vs : List Value} {ds : List PyData}, ReadsAll h vs ds [] → ReadsAll h' vs ds [] := by
  intro vs ds r
  generalize e : ([] : List Addr) = as at r
  cases r with
  | nil => exact .nil
  | cons h1 h2 =>
    obtain ⟨e1, e2⟩ := List.append_eq_nil_iff.mp e.symm
    subst e1; subst e2
    exact .cons (reads_seq k h1) (readsAll_seq k h2)
end
end
end
section -- Core2
section
variable {prog : Program} {w : World} {H0 : Heap}
theorem KeepE.seq {env : Env} {h h' : Heap} {m : Vals} {σ : Sto} {dk dk' : Dk} (R : Rel prog w H0 env h m σ dk) (K : KeepE m dk dk' h h') : StaysSeq h h' := by
  intro b o vs n ho hd
  refine K.get b o ho ?_
  rintro ⟨hs, hm⟩
  obtain ⟨⟨l, c, t⟩, rfl⟩ := Option.isSome_iff_exists.mp hs
  obtain ⟨a, h1, h2, _, _⟩ := R.dek l c t rfl
  rw [hm] at h1
  cases h1
  exact deck_not_seq h2 ho hd rfl
theorem Lst.seq {h h' : Heap} {a : Addr} {xs : List PyData} (x : Lst h a xs) (k : StaysSeq h h') : Lst h' a xs  := by
  obtain ⟨vs, ⟨n, p⟩, r⟩ := x; exact ⟨vs, ⟨n, k _ _ _ _ p rfl⟩, readsAll_seq k r⟩
/-- a value that a tree's step keeps -/
noncomputable def Res.calm : Res → Bool
  | .dat _ => true
  | .lst _ _ => true
  | .cost .. => true
  | _ => false
theorem KeepE.cost {env : Env} {h h' : Heap} {m : Vals} {σ : Sto} {dk dk' : Dk} (R : Rel prog w H0 env h m σ dk) (K : KeepE m dk dk' h h') {a dx : Addr} {ps ds : List Int} (x : CostAt h a dx ps ds) : CostAt h' a dx ps ds := by
  obtain ⟨o, es, n, l, h1, h2, h3, h4, h5, h6⟩ := x
  refine ⟨o, es, n, l, K.get _ _ h1 ?_, h2, K.get _ _ h3 ?_, h4, h5, h6.seq (K.seq R)⟩
  · rintro ⟨hs, hm⟩
    obtain ⟨⟨l', c, t⟩, rfl⟩ := Option.isSome_iff_exists.mp hs
    obtain ⟨a', e1, ⟨_, ⟨o', _, _, ho', _, hd', _⟩, _⟩, _, _⟩ := R.dek l' c t rfl
    rw [hm] at e1; cases e1
    rw [h1] at ho'; cases ho'; rw [h2] at hd'; cases hd'
  · rintro ⟨hs, hm⟩
    obtain ⟨⟨l', c, t⟩, rfl⟩ := Option.isSome_iff_exists.mp hs
    obtain ⟨a', e1, ⟨_, ⟨o', es', ep, ho', _, hd', _, hp, _⟩, _⟩, _, _⟩ := R.dek l' c t rfl
    rw [hm] at e1; cases e1
    rw [h3] at ho'; cases ho'; cases hd'
    have := hp.length
    simp at this
    omega
theorem Vl.keep {env : Env} {h h' : Heap} {m : Vals} {σ : Sto} {dk dk' : Dk} (R : Rel prog w H0 env h m σ dk) (K : KeepE m dk dk' h h') {hz : Heap} {v : Value} : ∀ {ρ : Res}, ρ.calm = true → Vl prog w m σ hz h v ρ → Vl prog w m σ hz h' v ρ := by
  intro ρ y0 y1
  cases ρ with
  | dat d0 => exact reads_seq (K.seq R) y1
  | lst f0 xs0 => obtain ⟨a, e, x, y⟩ := y1; exact ⟨a, e, x.seq (K.seq R), y⟩
  | cost r0 dx0 ps0 ds0 => obtain ⟨a, e, x, y⟩ := y1; exact ⟨a, e, K.cost R x, y⟩
  | deck l0 c0 t0 => cases y0
theorem Vl.stays {m : Vals} {σ : Sto} {hz h h' : Heap} {v : Value} (k : Stays h h') : ∀ {ρ : Res}, Vl prog w m σ hz h v ρ → Vl prog w m σ hz h' v ρ := by
  intro ρ y0
  cases ρ with
  | dat d0 => exact Reads.keeps k y0
  | lst f0 xs0 => obtain ⟨a, e, x, y⟩ := y0; exact ⟨a, e, lst_stays x k, y⟩
  | deck l0 c0 t0 => obtain ⟨a, e, x, y⟩ := y0; exact ⟨a, e, deckAt_stays x k, y⟩
  | cost r0 dx0 ps0 ds0 => obtain ⟨a, e, x, y⟩ := y0; exact ⟨a, e, costAt_stays x k, y⟩
theorem Vl.later {m : Vals} {σ : Sto} {hz hz' h : Heap} {v : Value} (hs : Dom hz' hz) : ∀ {ρ : Res}, Vl prog w m σ hz h v ρ → Vl prog w m σ hz' h v ρ := by
  intro ρ y0
  cases ρ with
  | dat d0 => exact y0
  | lst f0 xs0 => obtain ⟨a, e, x, y, z⟩ := y0; exact ⟨a, e, x, fun q => hs.none (y q), z⟩
  | deck l0 c0 t0 => obtain ⟨a, e, x, y⟩ := y0; exact ⟨a, e, x, hs.none y.1, hs.none y.2⟩
  | cost r0 dx0 ps0 ds0 => obtain ⟨a, e, x, y⟩ := y0; exact ⟨a, e, x, fun q => ⟨hs.none (y q).1, hs.none (y q).2⟩⟩
variable (prog w H0)
/-- a tree that gives a value -/
noncomputable def E (k : Nat) (env : Env) (σ : Sto) (dk : Dk) (tr : Sem Value) (P : Res → Dk → Prop) : Prop :=
  ∀ (A : Around) (s : Shared) (m : Vals), Okay k A → Rel prog w H0 env s.heap m σ dk → ∀ (Q X : Value → Shared → Prop),
    (∀ v h' tk ρ dk', P ρ dk' → Rel prog w H0 env h' m σ dk' → KeepE m dk dk' s.heap h' → Vl prog w m σ s.heap h' v ρ → Q v ⟨h', s.gens, s.drawn, tk, s.os⟩) →
    wpAny (model prog w) A tr Q X s
/-- a tree that gives a truth -/
noncomputable def T (k : Nat) (env : Env) (σ : Sto) (dk : Dk) (tr : Sem Bool) (P : Bool → Dk → Prop) : Prop :=
  ∀ (A : Around) (s : Shared) (m : Vals), Okay k A → Rel prog w H0 env s.heap m σ dk → ∀ (Q : Bool → Shared → Prop) (X : Value → Shared → Prop),
    (∀ b h' tk dk', P b dk' → Rel prog w H0 env h' m σ dk' → KeepE m dk dk' s.heap h' → Q b ⟨h', s.gens, s.drawn, tk, s.os⟩) →
    wpAny (model prog w) A tr Q X s
variable {prog w H0}
theorem E.mono {k : Nat} {env : Env} {σ : Sto} {dk : Dk} {tr : Sem Value} {P P' : Res → Dk → Prop} (h : E prog w H0 k env σ dk tr P) (hp : ∀ ρ dk', P ρ dk' → P' ρ dk') : E prog w H0 k env σ dk tr P' :=
  fun A s m ok R Q X hQ => h A s m ok R Q X fun v h' tk ρ dk' hP => hQ v h' tk ρ dk' (hp ρ dk' hP)
theorem T.mono {k : Nat} {env : Env} {σ : Sto} {dk : Dk} {tr : Sem Bool} {P P' : Bool → Dk → Prop} (h : T prog w H0 k env σ dk tr P) (hp : ∀ ρ dk', P ρ dk' → P' ρ dk') : T prog w H0 k env σ dk tr P' :=
  fun A s m ok R Q X hQ => h A s m ok R Q X fun b h' tk dk' hP => hQ b h' tk dk' (hp b dk' hP)
noncomputable def Ent.res : Ent → Res
  | .dat d => .dat d
  | .lst true xs => .lst .ownd xs
  | .lst false xs => .lst .safe xs
  | .cost dx ps ds => .cost false dx ps ds
theorem vl_of_holds {env : Env} {h : Heap} {m : Vals} {σ : Sto} {dk : Dk} {x : Str} {e : Ent} {v : Value} {hz : Heap} (R : Rel prog w H0 env h m σ dk) (hx : σ x = some e) (hv : m x = some v) (hh : Holds H0 h v e) : Vl prog w m σ hz h v e.res := by
  cases e with
  | dat d => exact hh
  | cost dx ps ds => obtain ⟨a, e, x⟩ := hh; exact ⟨a, e, x, by intro q; cases q⟩
  | lst own xs =>
    obtain ⟨a, rfl, hl, _⟩ := hh
    cases own with
    | true => exact ⟨a, rfl, hl, (by intro q; cases q), (by intro q; cases q)⟩
    | false =>
      refine ⟨a, rfl, hl, (by intro q; cases q), fun _ => ?_⟩
      rintro ⟨y, ys, hy, hm⟩
      have := R.own y ys hy a hm x _ hx hv
      subst this
      rw [hx] at hy; cases hy
theorem E.name {k : Nat} {env : Env} {σ : Sto} {dk : Dk} {x : Str} {pos : Pos} {e : Ent} {P : Res → Dk → Prop} (V : EnvOk env) (hk : env.kindOf x = some .local) (hx : σ x = some e) (h : P e.res dk)
    (hd : (x == ("__debug__" : Str)) = false := by decide) : E prog w H0 k env σ dk (eval (.Name x pos) env) P := by
  intro A s m ok R Q X hQ
  obtain ⟨v, hv, hh⟩ := R.hold x e hx
  obtain ⟨mL, hn, hm⟩ := R.frm.ns
  exact wpAny_Name (wpAny_loadName_local V.fn hk hn ((hm x hk).trans hv) (hQ v s.heap s.toks _ dk h R .refl (vl_of_holds R hx hv hh))) hd
theorem E.nameC {k : Nat} {env : Env} {σ : Sto} {dk : Dk} {x : Str} {pos : Pos} {e : Ent} {P : Res → Dk → Prop} {c : Addr} (V : EnvOk env) (hk : env.kindOf x = some .cell) (hc : env.cells.lookup x = some c) (hx : σ x = some e) (h : P e.res dk)
    (hd : (x == ("__debug__" : Str)) = false := by decide) : E prog w H0 k env σ dk (eval (.Name x pos) env) P := by
  intro A s m ok R Q X hQ
  obtain ⟨v, hv, hh⟩ := R.hold x e hx
  have := R.frm.cl x c hk hc
  rw [hv] at this
  exact wpAny_Name (wpAny_loadName_cell V.fn hk hc this (hQ v s.heap s.toks _ dk h R .refl (vl_of_holds R hx hv hh))) hd
theorem E.int {k : Nat} {env : Env} {σ : Sto} {dk : Dk} {i : Int} {kk : Nat} {pos : Pos} {P : Res → Dk → Prop} (h : P (.dat (.int i)) dk) : E prog w H0 k env σ dk (eval (.Constant (.int i) kk pos) env) P :=
  fun _ s _ _ R _ _ hQ => wpAny_Constant_int (hQ _ s.heap _ _ dk h R .refl (.int ..))
theorem E.none {k : Nat} {env : Env} {σ : Sto} {dk : Dk} {kk : Nat} {pos : Pos} {P : Res → Dk → Prop} (h : P (.dat .none) dk) : E prog w H0 k env σ dk (eval (.Constant .none kk pos) env) P :=
  fun _ s _ _ R _ _ hQ => wpAny_Constant_none (hQ _ s.heap _ _ dk h R .refl .none)
theorem E.str {k : Nat} {env : Env} {σ : Sto} {dk : Dk} {x : Str} {kk : Nat} {pos : Pos} {P : Res → Dk → Prop} (h : P (.dat (.str x)) dk) : E prog w H0 k env σ dk (eval (.Constant (.str x) kk pos) env) P :=
  fun _ s _ _ R _ _ hQ => wpAny_Constant_str (hQ _ s.heap _ _ dk h R .refl (.str ..))
theorem E.bool {k : Nat} {env : Env} {σ : Sto} {dk : Dk} {x : Bool} {kk : Nat} {pos : Pos} {P : Res → Dk → Prop} (h : P (.dat (.bool x)) dk) : E prog w H0 k env σ dk (eval (.Constant (.bool x) kk pos) env) P :=
  fun _ s _ _ R _ _ hQ => wpAny_Constant_bool (hQ _ s.heap _ _ dk h R .refl (.bool _))
theorem push_stays (h : Heap) (o : Obj) : Stays h (h.push o) := fun _ _ e => Heap.get?_push_of_some _ e
theorem readsAll_append {h : Heap} : ∀ {vs ws : List Value} {ds es : List PyData}, ReadsAll h vs ds [] → ReadsAll h ws es [] → ReadsAll h (vs ++ ws) (ds ++ es) [] := by
  intro vs
  induction vs with
  | nil => intro ws ds es a b; cases a; exact b
  | cons v vs ih =>
    intro ws ds es a b
    generalize e : ([] : List Addr) = as at a
    cases a with
    | cons h1 h2 =>
      obtain ⟨e1, e2⟩ := List.append_eq_nil_iff.mp e.symm
      subst e1; subst e2
      exact .cons (as := []) (bs := []) h1 (ih h2 b)
theorem readsAll_cons {h : Heap} {v : Value} {d : PyData} {vs : List Value} {ds : List PyData} (h1 : Reads h v d []) (h2 : ReadsAll h vs ds []) : ReadsAll h (v :: vs) (d :: ds) [] := .cons (as := []) (bs := []) h1 h2
theorem readsAll_cases {h : Heap} {v : Value} {d : PyData} {vs : List Value} {ds : List PyData} (a : ReadsAll h (v :: vs) (d :: ds) []) : Reads h v d [] ∧ ReadsAll h vs ds [] := by
  generalize e : ([] : List Addr) = as at a
  cases a with
  | cons h1 h2 =>
    obtain ⟨e1, e2⟩ := List.append_eq_nil_iff.mp e.symm
    subst e1; subst e2
    exact ⟨h1, h2⟩
theorem readsAll_get {h : Heap} : ∀ {vs : List Value} {ds : List PyData}, ReadsAll h vs ds [] → ∀ {i : Nat} {d : PyData}, ds[i]? = some d → ∃ v, vs[i]? = some v ∧ Reads h v d [] := by
  intro vs
  induction vs with
  | nil => intro ds a i d hd; cases a; cases hd
  | cons v vs ih =>
    intro ds a i d hd
    cases ds with
    | nil => cases a
    | cons d' ds =>
      obtain ⟨h1, h2⟩ := readsAll_cases a
      cases i with
      | zero => cases hd; exact ⟨v, rfl, h1⟩
      | succ i => exact ih h2 hd
theorem readsAll_get' {h : Heap} {vs : List Value} {ds : List PyData} (a : ReadsAll h vs ds []) {i : Nat} {v : Value} (hv : vs[i]? = some v) : ∃ d, ds[i]? = some d ∧ Reads h v d [] := by
  have hl := readsAll_length a
  have hi : i < ds.length := by rw [← hl]; exact (List.getElem?_eq_some_iff.mp hv).1
  obtain ⟨v', hv', hr⟩ := readsAll_get a (List.getElem?_eq_getElem hi)
  rw [hv] at hv'; cases hv'
  exact ⟨_, List.getElem?_eq_getElem hi, hr⟩
theorem readsAll_replicate {h : Heap} {v : Value} {d : PyData} (r : Reads h v d []) : ∀ n : Nat, ReadsAll h (List.replicate n v) (List.replicate n d) []
  | 0 => .nil
  | n + 1 => by rw [List.replicate_succ, List.replicate_succ]; exact readsAll_cons r (readsAll_replicate r n)
theorem readsAll_take {h : Heap} : ∀ {vs : List Value} {ds : List PyData}, ReadsAll h vs ds [] → ∀ n : Nat, ReadsAll h (vs.take n) (ds.take n) [] := by
  intro vs
  induction vs with
  | nil => intro ds a n; cases a; simpa using ReadsAll.nil
  | cons v vs ih =>
    intro ds a n
    cases ds with
    | nil => cases a
    | cons d' ds =>
      obtain ⟨h1, h2⟩ := readsAll_cases a
      cases n with
      | zero => exact .nil
      | succ n => exact readsAll_cons h1 (ih h2 n)
theorem readsAll_drop {h : Heap} : ∀ {vs : List Value} {ds : List PyData}, ReadsAll h vs ds [] → ∀ n : Nat, ReadsAll h (vs.drop n) (ds.drop n) [] := by
  intro vs
  induction vs with
  | nil => intro ds a n; cases a; simpa using ReadsAll.nil
  | cons v vs ih =>
    intro ds a n
    cases ds with
    | nil => cases a
    | cons d' ds =>
      obtain ⟨h1, h2⟩ := readsAll_cases a
      cases n with
      | zero => exact readsAll_cons h1 h2
      | succ n => exact ih h2 n
theorem readsAll_set {h : Heap} {v : Value} {d : PyData} (r : Reads h v d []) : ∀ {vs : List Value} {ds : List PyData}, ReadsAll h vs ds [] → ∀ n : Nat, ReadsAll h (vs.set n v) (ds.set n d) [] := by
  intro vs
  induction vs with
  | nil => intro ds a n; cases a; simpa using ReadsAll.nil
  | cons v' vs ih =>
    intro ds a n
    cases ds with
    | nil => cases a
    | cons d' ds =>
      obtain ⟨h1, h2⟩ := readsAll_cases a
      cases n with
      | zero => exact readsAll_cons r h2
      | succ n => exact readsAll_cons h1 (ih h2 n)
theorem lst_new {h : Heap} {vs : Array Value} {xs : List PyData} (r : ReadsAll h vs.toList xs []) {n : Nat} : Lst (h.push { cls := .type "list", data := .seq vs n }) h.objs.size xs :=
  ⟨vs, ⟨n, Heap.get?_push_size _ rfl⟩, ReadsAll.keeps (push_stays h _) r⟩
/-- the ways of + - * // % -/
inductive BinR : Operator → Res → Res → Res → Prop
  | add (a b : Int) : BinR .Add (.dat (.int a)) (.dat (.int b)) (.dat (.int (a + b)))
  | sub (a b : Int) : BinR .Sub (.dat (.int a)) (.dat (.int b)) (.dat (.int (a - b)))
  | mul (a b : Int) : IntMulOk a b → BinR .Mult (.dat (.int a)) (.dat (.int b)) (.dat (.int (a * b)))
  | fdiv (a b : Int) : b ≠ 0 → b.natAbs < 2 ^ 200 → BinR .FloorDiv (.dat (.int a)) (.dat (.int b)) (.dat (.int (a.fdiv b)))
  | fmod (a b : Int) : b ≠ 0 → BinR .Mod (.dat (.int a)) (.dat (.int b)) (.dat (.int (a.fmod b)))
  | cat (f g : Fl) (xs ys : List PyData) : xs.length + ys.length ≤ 10000 → BinR .Add (.lst f xs) (.lst g ys) (.lst .fresh (xs ++ ys))
  | rep (f : Fl) (x : PyData) (n : Int) : -1000 ≤ n → n ≤ 1000 → BinR .Mult (.lst f [x]) (.dat (.int n)) (.lst .fresh (List.replicate n.toNat x))
end
end
section -- Core3
section
variable {prog : Program} {w : World} {H0 : Heap}
theorem cat_raw {A : Around} {X : Value → Shared → Prop} {s : Shared} {l b : Addr} {vs ws : Array Value} {Q : Value → Shared → Prop} (hl : s.heap.IsList l vs) (hb : s.heap.IsList b ws)
    (h : Q (.ref s.heap.objs.size) { s with heap := s.heap.push { cls := .type "list", data := .seq (vs ++ ws) } }) (hsz : vs.size + ws.size ≤ sizeLine) :
    wpAny (model prog w) A (binaryOp .Add (.ref l) (.ref b)) Q X s := by
  obtain ⟨⟨cls, dd, data, sl⟩, ho, hc, n, hd⟩ := id hl
  obtain ⟨⟨cls2, dd2, data2, sl2⟩, ho2, hc2, n2, hd2⟩ := id hb
  simp only at hc hd hc2 hd2
  subst hc hd hc2 hd2
  exact concat_meets ⟨_, ho, rfl⟩ ⟨_, ho2, rfl⟩ noFill_list_add seq_list_add PySem.F.slot_list_add PySem.F.entry_list_add (PySem.F.args_list_add_2 _ _) (list_addW l b vs ws n n2 dd dd2 sl sl2 hsz) ⟨ho, ho2, h⟩
theorem foldl_rep (x : Value) : ∀ (n : Nat) (acc : Array Value), List.foldl (fun x1 x2 => x1 ++ x2) acc (List.replicate n #[x]) = acc ++ (List.replicate n x).toArray
  | 0, acc => by simp
  | n + 1, acc => by rw [List.replicate_succ, List.foldl_cons, foldl_rep x n, List.replicate_succ]; apply Array.ext'; simp [List.replicate_succ]
theorem rep_raw {A : Around} {X : Value → Shared → Prop} {s : Shared} {l : Addr} {v : Value} {x : Int} {u : Tok} {Q : Value → Shared → Prop}
    (hl : s.heap.PlainList l #[v]) (hlo : -1000 ≤ x) (hhi : x ≤ 1000)
    (h : Q (.ref s.heap.objs.size) { s with heap := s.heap.push { cls := .type "list", data := .seq (List.replicate x.toNat v).toArray } }) :
    wpAny (model prog w) A (binaryOp .Mult (.ref l) (.int x u)) Q X s := by
  obtain ⟨k, hl⟩ := hl
  have e : (List.foldl (fun x1 x2 => x1 ++ x2) #[] (List.replicate (if (#[v] : Array Value).isEmpty = true then 0 else x.toNat) #[v])) = (List.replicate x.toNat v).toArray := by
    rw [if_neg (by simp), foldl_rep]; simp
  exact wpAny_binaryOp_repeat_ref (T := "list") (U := "int") (by decide) ⟨_, hl, rfl⟩ (fun s' => typeIs_int s' x u) noFill_list_mul F.fills_int_mul F.slot_int_rmul repeat_list F.slot_int_index.lookup
    (call_meets F.slot_int_rmul (typeIs_int s x u) F.entry_int_rmul (F.args_int_rmul_2 _ _) (int___rmul___int_list x u l #[v] k)
      ⟨hl, rfl, ⟨_, hl, rfl⟩, call_meets F.slot_list_mul ⟨_, hl, rfl⟩ F.entry_list_mul (F.args_list_mul_2 _ _)
        (AutoListH.list___mul___list_int_3 l #[v] k x u (by simp [Builtin.List.listFitsIndex]; omega) (by simp; omega) (by simp [Builtin.List.listTooLong, sizeLine]; omega))
        ⟨hl, e ▸ h⟩⟩)
theorem no_pylong {a b : Int} (hb : b.natAbs < 2 ^ 200) : Builtin.divisionGoesByPylong a b = false := by
  unfold Builtin.divisionGoesByPylong
  dsimp only
  have h1 : (if (b == 0) = true then 0 else b.natAbs.log2 / 30 + 1) ≤ 300 := by
    split
    · omega
    · have : b.natAbs.log2 < 200 := by
        by_cases h0 : b.natAbs = 0
        · rw [h0]; decide
        · exact (Nat.log2_lt h0).mpr hb
      omega
  rw [decide_eq_false (Nat.not_lt.mpr h1)]; rfl
theorem bin_sound {A : Around} {X : Value → Shared → Prop} {s : Shared} {m : Vals} {σ : Sto} {hz : Heap} {op : Operator} {ρ₁ ρ₂ ρ : Res} {v₁ v₂ : Value} {Q : Value → Shared → Prop} (hs : Dom hz s.heap) (hb : BinR op ρ₁ ρ₂ ρ)
    (h1 : Vl prog w m σ hz s.heap v₁ ρ₁) (h2 : Vl prog w m σ hz s.heap v₂ ρ₂)
    (h : ∀ v h' tk, Stays s.heap h' → Vl prog w m σ hz h' v ρ → Q v ⟨h', s.gens, s.drawn, tk, s.os⟩) :
    wpAny (model prog w) A (binaryOp op v₁ v₂) Q X s := by
  have same : ∀ v tk, Vl prog w m σ hz s.heap v ρ → Q v ⟨s.heap, s.gens, s.drawn, tk, s.os⟩ := fun v tk hv => h v s.heap tk (fun _ _ e => e) hv
  induction hb with
  | add a b =>
    obtain ⟨t, rfl, _⟩ := reads_int_inv h1
    obtain ⟨u, rfl, _⟩ := reads_int_inv h2
    exact PyProof.Rows.add_int (same _ _ (.int ..))
  | sub a b =>
    obtain ⟨t, rfl, _⟩ := reads_int_inv h1
    obtain ⟨u, rfl, _⟩ := reads_int_inv h2
    exact PyProof.Rows.sub_int (same _ _ (.int ..))
  | mul a b hm =>
    obtain ⟨t, rfl, _⟩ := reads_int_inv h1
    obtain ⟨u, rfl, _⟩ := reads_int_inv h2
    exact PyProof.Rows.mul_int (same _ _ (.int ..)) hm
  | fdiv a b hb hp =>
    obtain ⟨t, rfl, _⟩ := reads_int_inv h1
    obtain ⟨u, rfl, _⟩ := reads_int_inv h2
    exact floordiv_int hb (same _ _ (.int ..)) (.inl (no_pylong hp))
  | fmod a b hb =>
    obtain ⟨t, rfl, _⟩ := reads_int_inv h1
    obtain ⟨u, rfl, _⟩ := reads_int_inv h2
    exact mod_int' hb (same _ _ (.int ..))
  | cat f g xs ys hlen =>
    obtain ⟨a, rfl, ⟨vs, p, r⟩, _⟩ := h1
    obtain ⟨b, rfl, ⟨ws, q, r'⟩, _⟩ := h2
    have e1 := readsAll_length r
    have e2 := readsAll_length r'
    rw [Array.length_toList] at e1 e2
    have hrr : ReadsAll s.heap (vs ++ ws).toList (xs ++ ys) [] := by rw [Array.toList_append]; exact readsAll_append r r'
    refine cat_raw p.isList q.isList (h _ _ _ (push_stays _ _) ⟨_, rfl, lst_new hrr, fun _ => hs.none (new_none _), (by intro q; cases q)⟩) ?_
    rw [e1, e2, sizeLine_eq]; omega
  | rep f x n hlo hhi =>
    obtain ⟨a, rfl, ⟨vs, p, r⟩, _⟩ := h1
    obtain ⟨u, rfl, _⟩ := reads_int_inv h2
    have e1 := readsAll_length r
    obtain ⟨l⟩ := vs
    obtain ⟨v, hv⟩ := len1 (vs := l) e1
    subst hv
    · have hx : Reads s.heap v x [] := (readsAll_cases r).1
      exact rep_raw p hlo hhi (h _ _ _ (push_stays _ _) ⟨_, rfl, lst_new (readsAll_replicate hx _), fun _ => hs.none (new_none _), (by intro q; cases q)⟩)
noncomputable abbrev kBin2 (op : Operator) (ρ₁ : Res) (P : Res → Dk → Prop) (ρ₂ : Res) (dk₂ : Dk) : Prop := ∃ ρ, BinR op ρ₁ ρ₂ ρ ∧ P ρ dk₂
noncomputable abbrev kBin (prog : Program) (w : World) (H0 : Heap) (k : Nat) (env : Env) (σ : Sto) (op : Operator) (r : Expr) (P : Res → Dk → Prop) (ρ₁ : Res) (dk₁ : Dk) : Prop := ρ₁.calm = true ∧ E prog w H0 k env σ dk₁ (eval r env) (kBin2 op ρ₁ P)
theorem E.bin {k : Nat} {env : Env} {σ : Sto} {dk : Dk} {op : Operator} {l r : Expr} {pos : Pos} {P : Res → Dk → Prop}
    (h : E prog w H0 k env σ dk (eval l env) (kBin prog w H0 k env σ op r P)) :
    E prog w H0 k env σ dk (eval (.BinOp l op r pos) env) P := by
  intro A s m ok R Q X hQ
  refine wpAny_BinOp (h A s m ok R _ _ fun v₁ h₁ tk₁ ρ₁ dk₁ ⟨hc, hP⟩ R₁ K₁ V₁ => hP A _ m ok R₁ _ _ fun v₂ h₂ tk₂ ρ₂ dk₂ ⟨ρ, hB, hp⟩ R₂ K₂ V₂ => ?_)
  have V₁' := Vl.keep R₁ K₂ hc V₁
  have V₂' := Vl.later K₁.dom V₂
  refine bin_sound (K₁.dom.trans K₂.dom) hB V₁' V₂' fun v h' tk st hv => ?_
  exact hQ v h' tk ρ dk₂ hp (R₂.stays st) ((K₁.trans K₂).trans (KeepE.of_stays st)) hv
end
end
section -- Core4
section
variable {prog : Program} {w : World} {H0 : Heap}
noncomputable def okD (d : PyData) : Prop := SeqAt.shaped d = true
noncomputable def isNoneD : PyData → Bool
  | .none => true
  | _ => false
/-- the ways of a comparison -/
inductive CmpR : CmpOp → Res → Res → Bool → Prop
  | lt (a b : Int) : CmpR .Lt (.dat (.int a)) (.dat (.int b)) (decide (a < b))
  | le (a b : Int) : CmpR .LtE (.dat (.int a)) (.dat (.int b)) (decide (a ≤ b))
  | gt (a b : Int) : CmpR .Gt (.dat (.int a)) (.dat (.int b)) (decide (b < a))
  | eqI (a b : Int) : CmpR .Eq (.dat (.int a)) (.dat (.int b)) (decide (a = b))
  | neI (a b : Int) : CmpR .NotEq (.dat (.int a)) (.dat (.int b)) (!decide (a = b))
  | eqS (a b : Str) : PyData.strOk a = true → PyData.strOk b = true → CmpR .Eq (.dat (.str a)) (.dat (.str b)) (decide (a = b))
  | neS (a b : Str) : PyData.strOk a = true → PyData.strOk b = true → CmpR .NotEq (.dat (.str a)) (.dat (.str b)) (!decide (a = b))
  | eq (d e : PyData) : okD d → okD e → CmpR .Eq (.dat d) (.dat e) (PyData.eqv d e)
  | ne (d e : PyData) : okD d → okD e → CmpR .NotEq (.dat d) (.dat e) (!PyData.eqv d e)
  | eqL (f g : Fl) (xs ys : List PyData) : okD (.list xs) → okD (.list ys) → CmpR .Eq (.lst f xs) (.lst g ys) (PyData.eqvAll xs ys)
  | neL (f g : Fl) (xs ys : List PyData) : okD (.list xs) → okD (.list ys) → CmpR .NotEq (.lst f xs) (.lst g ys) (!PyData.eqvAll xs ys)
  | isN (d : PyData) : CmpR .Is (.dat d) (.dat .none) (isNoneD d)
  | isNotN (d : PyData) : CmpR .IsNot (.dat d) (.dat .none) (!isNoneD d)
  | inT (d : PyData) (ds : List PyData) : okD d → okD (.tuple ds) → CmpR .In (.dat d) (.dat (.tuple ds)) (ds.any fun y => PyData.eqv y d)
  | inL (d : PyData) (f : Fl) (ds : List PyData) : okD d → okD (.list ds) → CmpR .In (.dat d) (.lst f ds) (ds.any fun y => PyData.eqv y d)
theorem lst_reads {h : Heap} {a : Addr} {xs : List PyData} (x : Lst h a xs) : Reads h (.ref a) (.list xs) [a]  := by
  obtain ⟨_, ⟨_, p⟩, r⟩ := x; exact .list p rfl rfl r
theorem plainIs_none {h : Heap} {v : Value} {d : PyData} (r : Reads h v d []) : PySem.plainIs v .none = true := by cases r <;> rfl
theorem is_none {h : Heap} {v : Value} {d : PyData} (r : Reads h v d []) : (v == Value.none) = isNoneD d := by cases r <;> rfl
theorem depthAll_of {A : Around} {d : PyData} (hd : okD d) (hu : A.units + 68 < cLine) {n : Nat} : A.units + 1 + min n d.depth < cLine := by
  have h1 := SeqAt.depth_of_shaped hd
  have h2 : min n d.depth ≤ d.depth := Nat.min_le_right _ _
  omega
theorem cmp_sound {A : Around} {X : Value → Shared → Prop} {s : Shared} {m : Vals} {σ : Sto} {hz hz' : Heap} {op : CmpOp} {ρ₁ ρ₂ : Res} {b : Bool} {v₁ v₂ : Value} {Q : Value → Shared → Prop} (hu : A.units + 68 < cLine) (hb : CmpR op ρ₁ ρ₂ b)
    (h1 : Vl prog w m σ hz s.heap v₁ ρ₁) (h2 : Vl prog w m σ hz' s.heap v₂ ρ₂) (h : Q (.bool b) s) :
    wpAny (model prog w) A (compareOp op v₁ v₂) Q X s := by
  have hu' : A.units + 64 < cLine := by omega
  induction hb with
  | lt a b =>
    obtain ⟨t, rfl, _⟩ := reads_int_inv h1
    obtain ⟨u, rfl, _⟩ := reads_int_inv h2
    exact lt_int h
  | le a b =>
    obtain ⟨t, rfl, _⟩ := reads_int_inv h1
    obtain ⟨u, rfl, _⟩ := reads_int_inv h2
    exact le_int h
  | gt a b =>
    obtain ⟨t, rfl, _⟩ := reads_int_inv h1
    obtain ⟨u, rfl, _⟩ := reads_int_inv h2
    exact gt_int h
  | eqI a b =>
    refine eq_dataH (show Reads s.heap v₁ (.int a) [] from h1) (show Reads s.heap v₂ (.int b) [] from h2) (by simp [SeqAt.shaped, PyData.canLay0, PyData.depth]) (by simp [SeqAt.shaped, PyData.canLay0, PyData.depth]) hu' ?_
    rw [show PyData.eqv (.int a) (.int b) = decide (a = b) from by rw [PyData.eqv]; rfl]; exact h
  | neI a b =>
    refine ne_dataH (show Reads s.heap v₁ (.int a) [] from h1) (show Reads s.heap v₂ (.int b) [] from h2) (by simp [SeqAt.shaped, PyData.canLay0, PyData.depth]) (by simp [SeqAt.shaped, PyData.canLay0, PyData.depth]) hu' ?_
    rw [show PyData.eqv (.int a) (.int b) = decide (a = b) from by rw [PyData.eqv]; rfl]; exact h
  | eqS a b ha hb =>
    refine eq_dataH (show Reads s.heap v₁ (.str a) [] from h1) (show Reads s.heap v₂ (.str b) [] from h2) (by simp [SeqAt.shaped, PyData.canLay0, PyData.depth, ha]) (by simp [SeqAt.shaped, PyData.canLay0, PyData.depth, hb]) hu' ?_
    rw [show PyData.eqv (.str a) (.str b) = decide (a = b) from by rw [PyData.eqv]; by_cases q : a = b <;> simp [q]]; exact h
  | neS a b ha hb =>
    refine ne_dataH (show Reads s.heap v₁ (.str a) [] from h1) (show Reads s.heap v₂ (.str b) [] from h2) (by simp [SeqAt.shaped, PyData.canLay0, PyData.depth, ha]) (by simp [SeqAt.shaped, PyData.canLay0, PyData.depth, hb]) hu' ?_
    rw [show PyData.eqv (.str a) (.str b) = decide (a = b) from by rw [PyData.eqv]; by_cases q : a = b <;> simp [q]]; exact h
  | eq d e hd he => exact eq_dataH h1 h2 hd he hu' h
  | ne d e hd he => exact ne_dataH h1 h2 hd he hu' h
  | eqL f g xs ys hx hy =>
    obtain ⟨a, rfl, la, _⟩ := h1
    obtain ⟨b, rfl, lb, _⟩ := h2
    refine eq_dataH (lst_reads la) (lst_reads lb) hx hy hu' ?_
    rw [PyData.eqv]; exact h
  | neL f g xs ys hx hy =>
    obtain ⟨a, rfl, la, _⟩ := h1
    obtain ⟨b, rfl, lb, _⟩ := h2
    refine ne_dataH (lst_reads la) (lst_reads lb) hx hy hu' ?_
    rw [PyData.eqv]; exact h
  | isN d =>
    obtain ⟨rfl, _⟩ := reads_none_inv h2
    exact wpAny_is_plain (plainIs_none h1) (by rw [is_none h1]; exact h)
  | isNotN d =>
    obtain ⟨rfl, _⟩ := reads_none_inv h2
    have e := is_none h1
    cases hn : isNoneD d with
    | true =>
      rw [hn] at e h
      have : v₁ = Value.none := eq_of_beq e
      subst this
      exact wpAny_isNot_self rfl h
    | false =>
      rw [hn] at e h
      exact wpAny_isNot_other (plainIs_none h1) (fun q => by rw [q] at e; cases e) h
  | inT d ds hd hds =>
    have hl := SeqAt.canLay_of_shaped hds
    exact SeqAt.in_tuple_reads h2 h1 (by simpa [PyData.canLay0] using hl) (SeqAt.canLay_of_shaped hd) (depthAll_of hd hu) h
  | inL d f ds hd hds =>
    have hl := SeqAt.canLay_of_shaped hds
    obtain ⟨b, rfl, lb, _⟩ := h2
    exact SeqAt.in_list_reads (lst_reads lb) h1 (by simpa [PyData.canLay0] using hl) (SeqAt.canLay_of_shaped hd) (depthAll_of hd hu) h
theorem Okay.units' {k : Nat} {A : Around} (h : Okay k A) : A.units + 68 < cLine := by
  have := h.un; show A.units + 68 < 9900; omega
section
variable {k : Nat} {env : Env} {σ : Sto} {dk : Dk}
noncomputable abbrev kCmp2 (op : CmpOp) (ρ₁ : Res) (P : Bool → Dk → Prop) (ρ₂ : Res) (dk₂ : Dk) : Prop := ∃ b, CmpR op ρ₁ ρ₂ b ∧ P b dk₂
noncomputable abbrev kCmp (prog : Program) (w : World) (H0 : Heap) (k : Nat) (env : Env) (σ : Sto) (op : CmpOp) (r : Expr) (P : Bool → Dk → Prop) (ρ₁ : Res) (dk₁ : Dk) : Prop := ρ₁.calm = true ∧ E prog w H0 k env σ dk₁ (eval r env) (kCmp2 op ρ₁ P)
noncomputable abbrev kBoo (P : Res → Dk → Prop) (b : Bool) (dk : Dk) : Prop := P (.dat (.bool b)) dk
theorem E.cmp {op : CmpOp} {l r : Expr} {pos : Pos} {P : Res → Dk → Prop}
    (h : E prog w H0 k env σ dk (eval l env) (kCmp prog w H0 k env σ op r (kBoo P)))
    (hm : behindInMarks op r = false := by rfl) :
    E prog w H0 k env σ dk (eval (.Compare l [op] [r] pos) env) P := by
  intro A s m ok R Q X hQ
  refine wpAny_Compare1 (h A s m ok R _ _ fun v₁ h₁ tk₁ ρ₁ dk₁ ⟨hc, hP⟩ R₁ K₁ V₁ => hP A _ m ok R₁ _ _ fun v₂ h₂ tk₂ ρ₂ dk₂ ⟨b, hB, hp⟩ R₂ K₂ V₂ => ?_) hm
  exact cmp_sound ok.units' hB (Vl.keep R₁ K₂ hc V₁) V₂ (hQ _ h₂ tk₂ _ dk₂ hp R₂ (K₁.trans K₂) (.bool _))
theorem T.cmp {op : CmpOp} {l r : Expr} {pos : Pos} {whole : Sem Value} {P : Bool → Dk → Prop}
    (h : E prog w H0 k env σ dk (eval l env) (kCmp prog w H0 k env σ op r P))
    (hm : behindInMarks op r = false := by rfl) :
    T prog w H0 k env σ dk (isTrue (.Compare l [op] [r] pos) env whole) P := by
  intro A s m ok R Q X hQ
  refine wpAny_isTrue_Compare1 (h A s m ok R _ _ fun v₁ h₁ tk₁ ρ₁ dk₁ ⟨hc, hP⟩ R₁ K₁ V₁ => hP A _ m ok R₁ _ _ fun v₂ h₂ tk₂ ρ₂ dk₂ ⟨b, hB, hp⟩ R₂ K₂ V₂ => ?_) hm
  exact cmp_sound ok.units' hB (Vl.keep R₁ K₂ hc V₁) V₂ (wpAny_truthy_bool (hQ _ h₂ tk₂ dk₂ hp R₂ (K₁.trans K₂)))
theorem testChain_link {M : Model} {A : Around} {E : Value → Shared → Prop} {s : Shared} {pos : Pos} {a : Value} {op op' : CmpOp} {ops : List CmpOp} {r r' : Sem Value} {rs : List (Sem Value)} {Q : Bool → Shared → Prop}
    (h : wpAny M A r (fun b s₁ => wpAny M A (compareOp op a b) (fun c s₂ => wpAny M A (truthy c)
      (fun t s₃ => if t then wpAny M A (testChain pos b (op' :: ops) (r' :: rs)) Q E s₃ else Q false s₃) E s₂) E s₁) E s) :
    wpAny M A (testChain pos a (op :: op' :: ops) (r :: r' :: rs)) Q E s := by
  show wpAny M A (do
    let rv ← holding [a] r
    standAt pos
    let c ← holding [a, rv] (compareOp op a rv)
    release [a, rv] [c]
    if ← holding [c, rv] (truthy c) then testChain pos rv (op' :: ops) (r' :: rs) else pure false) Q E s
  refine wpAny_bind (wpAny_holding (wpAny_mono h (fun b s₁ h₁ => wpAny_bind (wpAny_standAt (wpAny_bind (wpAny_holding (wpAny_mono h₁ (fun c s₂ h₂ =>
    wpAny_bind (wpAny_release' (wpAny_bind (wpAny_holding (wpAny_mono h₂ (fun t s₃ h₃ => ?_) fun _ _ x => x))))) fun _ _ x => x))))) fun _ _ x => x))
  cases t with
  | false => exact wpAny_pure h₃
  | true => exact h₃
theorem testChain_last {M : Model} {A : Around} {E : Value → Shared → Prop} {s : Shared} {pos : Pos} {a : Value} {op : CmpOp} {r : Sem Value} {Q : Bool → Shared → Prop}
    (h : wpAny M A r (fun b s₁ => wpAny M A (compareOp op a b) (fun c s₂ => wpAny M A (truthy c) Q E s₂) E s₁) E s) :
    wpAny M A (testChain pos a [op] [r]) Q E s := by
  show wpAny M A (do
    let rv ← holding [a] r
    standAt pos
    let c ← operate [a, rv] (compareOp op a rv)
    holding [c] (truthy c)) Q E s
  exact wpAny_bind (wpAny_holding (wpAny_mono h (fun b s₁ h₁ => wpAny_bind (wpAny_standAt (wpAny_bind (wpAny_operate' (wpAny_mono h₁ (fun c s₂ h₂ =>
    wpAny_holding h₂) fun _ _ x => x))))) fun _ _ x => x))
/-- a <op b <op' c as a test -/
noncomputable abbrev kCh3 (op' : CmpOp) (ρ₂ : Res) (P : Bool → Dk → Prop) (ρ₃ : Res) (dk₃ : Dk) : Prop := ∃ c, CmpR op' ρ₂ ρ₃ c ∧ P c dk₃
noncomputable abbrev kCh2 (prog : Program) (w : World) (H0 : Heap) (k : Nat) (env : Env) (σ : Sto) (op op' : CmpOp) (ρ₁ : Res) (r' : Expr) (P : Bool → Dk → Prop) (ρ₂ : Res) (dk₂ : Dk) : Prop := ρ₂.calm = true ∧ ∃ b, CmpR op ρ₁ ρ₂ b ∧
      (b = false → P false dk₂) ∧ (b = true → E prog w H0 k env σ dk₂ (eval r' env) (kCh3 op' ρ₂ P))
noncomputable abbrev kCh (prog : Program) (w : World) (H0 : Heap) (k : Nat) (env : Env) (σ : Sto) (op op' : CmpOp) (r r' : Expr) (P : Bool → Dk → Prop) (ρ₁ : Res) (dk₁ : Dk) : Prop := ρ₁.calm = true ∧ E prog w H0 k env σ dk₁ (eval r env) (kCh2 prog w H0 k env σ op op' ρ₁ r' P)
theorem T.chain {op op' : CmpOp} {l r r' : Expr} {pos : Pos} {whole : Sem Value} {P : Bool → Dk → Prop}
    (h : E prog w H0 k env σ dk (eval l env) (kCh prog w H0 k env σ op op' r r' P))
    (hm : lastMarks [op, op'] [r, r'] = false := by rfl) :
    T prog w H0 k env σ dk (isTrue (.Compare l [op, op'] [r, r'] pos) env whole) P := by
  intro A s m ok R Q X hQ
  refine isTrue_chain (ops := []) (rs := []) (h A s m ok R _ _ fun v₁ h₁ tk₁ ρ₁ dk₁ ⟨hc, hP⟩ R₁ K₁ V₁ => testChain_link (hP A _ m ok R₁ _ _ fun v₂ h₂ tk₂ ρ₂ dk₂ ⟨hc₂, b, hB, hF, hT⟩ R₂ K₂ V₂ => ?_)) hm
  refine cmp_sound ok.units' hB (Vl.keep R₁ K₂ hc V₁) V₂ (wpAny_truthy_bool ?_)
  cases b with
  | false => exact hQ _ h₂ tk₂ dk₂ (hF rfl) R₂ (K₁.trans K₂)
  | true =>
    refine testChain_last (hT rfl A _ m ok R₂ _ _ fun v₃ h₃ tk₃ ρ₃ dk₃ ⟨c, hC, hp⟩ R₃ K₃ V₃ => ?_)
    exact cmp_sound ok.units' hC (Vl.keep R₂ K₃ hc₂ V₂) V₃ (wpAny_truthy_bool (hQ _ h₃ tk₃ dk₃ hp R₃ ((K₁.trans K₂).trans K₃)))
/-- any tree that gives a bool, as a test -/
noncomputable abbrev kVal (P : Bool → Dk → Prop) (ρ : Res) (dk₁ : Dk) : Prop := ∃ b, ρ = .dat (.bool b) ∧ P b dk₁
theorem T.val {e : Expr} {whole : Sem Value} {P : Bool → Dk → Prop} (h : E prog w H0 k env σ dk whole (kVal P))
    (he : PySem.isTrue e env whole = (do let v ← whole; standAt e.pos; holding [v] (truthy v)) := by rfl) :
    T prog w H0 k env σ dk (isTrue e env whole) P := by
  intro A s m ok R Q X hQ
  refine wpAny_isTrue_value (h A s m ok R _ _ ?_) he
  rintro v₁ h₁ tk₁ ρ₁ dk₁ ⟨b, rfl, hP⟩ R₁ K₁ V₁
  obtain ⟨rfl, _⟩ := reads_bool_inv V₁
  exact wpAny_truthy_bool (hQ _ h₁ tk₁ dk₁ hP R₁ K₁)
noncomputable abbrev kNot (P : Bool → Dk → Prop) (b : Bool) (dk₁ : Dk) : Prop := P (!b) dk₁
theorem T.not {x : Expr} {pos : Pos} {whole : Sem Value} {P : Bool → Dk → Prop} (h : T prog w H0 k env σ dk (isTrue x env (eval x env)) (kNot P)) :
    T prog w H0 k env σ dk (isTrue (.UnaryOp .Not x pos) env whole) P :=
  fun A s m ok R Q X hQ => wpAny_isTrue_Not (h A s m ok R _ _ fun b h₁ tk₁ dk₁ hP R₁ K₁ => hQ _ h₁ tk₁ dk₁ hP R₁ K₁)
theorem T.orNil {P : Bool → Dk → Prop} (h : P false dk) : T prog w H0 k env σ dk (allTrue .Or [] env) P :=
  fun _ s _ _ R _ _ hQ => wpAny_allTrue_Or_nil (hQ _ s.heap _ dk h R .refl)
noncomputable abbrev kOr (prog : Program) (w : World) (H0 : Heap) (k : Nat) (env : Env) (σ : Sto) (r : List Expr) (P : Bool → Dk → Prop) (b : Bool) (dk₁ : Dk) : Prop := (b = true → P true dk₁) ∧ (b = false → T prog w H0 k env σ dk₁ (allTrue .Or r env) P)
noncomputable abbrev kAnd (prog : Program) (w : World) (H0 : Heap) (k : Nat) (env : Env) (σ : Sto) (r : List Expr) (P : Bool → Dk → Prop) (b : Bool) (dk₁ : Dk) : Prop := (b = false → P false dk₁) ∧ (b = true → T prog w H0 k env σ dk₁ (allTrue .And r env) P)
theorem T.orCons {x : Expr} {r : List Expr} {P : Bool → Dk → Prop} (h : T prog w H0 k env σ dk (isTrue x env (eval x env)) (kOr prog w H0 k env σ r P)) :
    T prog w H0 k env σ dk (allTrue .Or (x :: r) env) P := by
  intro A s m ok R Q X hQ
  refine wpAny_allTrue_Or_cons (h A s m ok R _ _ fun b h₁ tk₁ dk₁ ⟨hT, hF⟩ R₁ K₁ => ?_)
  cases b with
  | true => exact hQ _ h₁ tk₁ dk₁ (hT rfl) R₁ K₁
  | false => exact hF rfl A _ m ok R₁ _ _ fun b h₂ tk₂ dk₂ hP R₂ K₂ => hQ _ h₂ tk₂ dk₂ hP R₂ (K₁.trans K₂)
theorem T.andNil {P : Bool → Dk → Prop} (h : P true dk) : T prog w H0 k env σ dk (allTrue .And [] env) P :=
  fun _ s _ _ R _ _ hQ => wpAny_allTrue_And_nil (hQ _ s.heap _ dk h R .refl)
theorem T.andCons {x : Expr} {r : List Expr} {P : Bool → Dk → Prop} (h : T prog w H0 k env σ dk (isTrue x env (eval x env)) (kAnd prog w H0 k env σ r P)) :
    T prog w H0 k env σ dk (allTrue .And (x :: r) env) P := by
  intro A s m ok R Q X hQ
  refine wpAny_allTrue_And_cons (h A s m ok R _ _ fun b h₁ tk₁ dk₁ ⟨hF, hT⟩ R₁ K₁ => ?_)
  cases b with
  | false => exact hQ _ h₁ tk₁ dk₁ (hF rfl) R₁ K₁
  | true => exact hT rfl A _ m ok R₁ _ _ fun b h₂ tk₂ dk₂ hP R₂ K₂ => hQ _ h₂ tk₂ dk₂ hP R₂ (K₁.trans K₂)
theorem T.bop {op : BoolOp} {vs : List Expr} {pos : Pos} {whole : Sem Value} {P : Bool → Dk → Prop} (h : T prog w H0 k env σ dk (allTrue op vs env) P) : T prog w H0 k env σ dk (isTrue (.BoolOp op vs pos) env whole) P :=
  fun A s m ok R Q X hQ => wpAny_isTrue_BoolOp (h A s m ok R Q X hQ)
/-- x and y, as a value, x a bool -/
noncomputable abbrev kAnd2 (prog : Program) (w : World) (H0 : Heap) (k : Nat) (env : Env) (σ : Sto) (y : Expr) (P : Res → Dk → Prop) (ρ : Res) (dk₁ : Dk) : Prop := ∃ b, ρ = .dat (.bool b) ∧ (b = false → P (.dat (.bool false)) dk₁) ∧ (b = true → E prog w H0 k env σ dk₁ (eval y env) P)
theorem E.and2 {x y : Expr} {pos : Pos} {P : Res → Dk → Prop} (h : E prog w H0 k env σ dk (eval x env) (kAnd2 prog w H0 k env σ y P)) :
    E prog w H0 k env σ dk (eval (.BoolOp .And [x, y] pos) env) P := by
  intro A s m ok R Q X hQ
  refine wpAny_And2 (h A s m ok R _ _ ?_)
  rintro v₁ h₁ tk₁ ρ₁ dk₁ ⟨b, rfl, hF, hT⟩ R₁ K₁ V₁
  obtain ⟨rfl, _⟩ := reads_bool_inv V₁
  refine wpAny_truthy_bool ?_
  cases b with
  | false => exact hQ _ h₁ tk₁ _ dk₁ (hF rfl) R₁ K₁ (.bool _)
  | true => exact hT rfl A _ m ok R₁ _ _ fun v h₂ tk₂ ρ dk₂ hP R₂ K₂ V₂ => hQ _ h₂ tk₂ _ dk₂ hP R₂ (K₁.trans K₂) (V₂.later K₁.dom)
noncomputable abbrev kIte (prog : Program) (w : World) (H0 : Heap) (k : Nat) (env : Env) (σ : Sto) (b o : Expr) (P : Res → Dk → Prop) (c : Bool) (dk₁ : Dk) : Prop := (c = true → E prog w H0 k env σ dk₁ (eval b env) P) ∧ (c = false → E prog w H0 k env σ dk₁ (eval o env) P)
theorem E.ite {t b o : Expr} {pos : Pos} {P : Res → Dk → Prop} (h : T prog w H0 k env σ dk (isTrue t env (eval t env)) (kIte prog w H0 k env σ b o P)) :
    E prog w H0 k env σ dk (eval (.IfExp t b o pos) env) P := by
  intro A s m ok R Q X hQ
  refine wpAny_IfExp (h A s m ok R _ _ fun c h₁ tk₁ dk₁ ⟨hT, hF⟩ R₁ K₁ => ?_)
  cases c with
  | true => exact hT rfl A _ m ok R₁ _ _ fun v h₂ tk₂ ρ dk₂ hP R₂ K₂ V₂ => hQ _ h₂ tk₂ _ dk₂ hP R₂ (K₁.trans K₂) (V₂.later K₁.dom)
  | false => exact hF rfl A _ m ok R₁ _ _ fun v h₂ tk₂ ρ dk₂ hP R₂ K₂ V₂ => hQ _ h₂ tk₂ _ dk₂ hP R₂ (K₁.trans K₂) (V₂.later K₁.dom)
noncomputable abbrev kNeg (P : Res → Dk → Prop) (ρ : Res) (dk₁ : Dk) : Prop := ∃ a, ρ = .dat (.int a) ∧ P (.dat (.int (-a))) dk₁
theorem E.neg {x : Expr} {pos : Pos} {P : Res → Dk → Prop} (h : E prog w H0 k env σ dk (eval x env) (kNeg P)) :
    E prog w H0 k env σ dk (eval (.UnaryOp .USub x pos) env) P := by
  intro A s m ok R Q X hQ
  refine wpAny_UnaryOp (h A s m ok R _ _ ?_)
  rintro v₁ h₁ tk₁ ρ₁ dk₁ ⟨a, rfl, hP⟩ R₁ K₁ V₁
  obtain ⟨t, rfl, _⟩ := reads_int_inv V₁
  exact PyProof.Rows.neg_int (hQ _ h₁ _ _ dk₁ hP R₁ K₁ (.int ..))
/-- several trees, one behind the other -/
noncomputable def Es (prog : Program) (w : World) (H0 : Heap) (k : Nat) (env : Env) (σ : Sto) : List Expr → Dk → List PyData → (List PyData → Dk → Prop) → Prop
  | [], dk, acc, P => P acc dk
  | e :: r, dk, acc, P => E prog w H0 k env σ dk (eval e env) fun ρ dk₁ => ∃ d, ρ = .dat d ∧ Es prog w H0 k env σ r dk₁ (acc ++ [d]) P
theorem starEach_plain {e : Expr} {r : List Expr} (h : ∀ a p, e ≠ .Starred a p) : starEach (e :: r) env = (false, eval e env) :: starEach r env := by
  cases e <;> first | rfl | exact absurd rfl (h _ _)
/-- no starred tree -/
noncomputable def noStar : List Expr → Bool
  | [] => true
  | .Starred .. :: _ => false
  | _ :: r => noStar r
theorem es_spliced {m : Vals} {A : Around} {X : Value → Shared → Prop} (ok : Okay k A) {pos : Pos} : ∀ (es : List Expr) (dk : Dk) (acc : List PyData) (accV : List Value) (s : Shared) (P : List PyData → Dk → Prop) (Q : List Value → Shared → Prop), noStar es = true →
    Es prog w H0 k env σ es dk acc P → Rel prog w H0 env s.heap m σ dk → ReadsAll s.heap accV acc [] →
    (∀ vs h' tk ds dk', P ds dk' → Rel prog w H0 env h' m σ dk' → KeepE m dk dk' s.heap h' → ReadsAll h' (accV ++ vs) ds [] → Q vs ⟨h', s.gens, s.drawn, tk, s.os⟩) →
    wpAny (model prog w) A (spliced (backTo pos (starEach es env))) Q X s := by
  intro es
  induction es with
  | nil =>
    intro dk acc accV s P Q _ hE R ra hQ
    exact args_nil (hQ [] s.heap s.toks acc dk hE R .refl (by simpa using ra))
  | cons e r ih =>
    intro dk acc accV s P Q hn hE R ra hQ
    have hn' : noStar r = true := by cases e <;> first | exact hn | cases hn
    have he : starEach (e :: r) env = (false, eval e env) :: starEach r env := starEach_plain fun a p q => by subst q; cases hn
    refine args_cons (hE A s m ok R _ _ ?_) he
    rintro v h₁ tk₁ ρ dk₁ ⟨d, rfl, hP⟩ R₁ K₁ V₁
    have ra₁ : ReadsAll h₁ (accV ++ [v]) (acc ++ [d]) [] := readsAll_append (readsAll_seq (K₁.seq R) ra) (readsAll_cons V₁ .nil)
    refine ih dk₁ (acc ++ [d]) (accV ++ [v]) _ P _ hn' hP R₁ ra₁ fun vs h' tk ds dk' hp R' K' ra' => ?_
    exact hQ (v :: vs) h' tk ds dk' hp R' (K₁.trans K') (by simpa using ra')
theorem E.tuple {es : List Expr} {kk : Nat} {pos : Pos} {P : Res → Dk → Prop} (h : Es prog w H0 k env σ es dk [] fun ds dk₁ => ds.length ≤ 1000 ∧ P (.dat (.tuple ds)) dk₁) (hn : noStar es = true := by rfl) :
    E prog w H0 k env σ dk (eval (.Tuple es kk pos) env) P := by
  intro A s m ok R Q X hQ
  refine wpAny_Tuple_spliced (es_spliced (m := m) ok es dk [] [] s _ _ hn h R .nil fun vs h' tk ds dk' ⟨hl, hp⟩ R' K' ra => ?_)
  have e1 := readsAll_length ra
  simp only [List.nil_append] at e1 ra
  refine ⟨by rw [e1, sizeLine_eq]; omega, ?_⟩
  have st := push_stays h' { cls := .type "tuple", data := .seq vs.toArray }
  exact hQ _ _ tk _ dk' hp (R'.stays st) (K'.trans (KeepE.of_stays st)) (.tuple (Heap.get?_push_size _ rfl) rfl rfl (ReadsAll.keeps st (by simpa using ra)))
theorem E.list {es : List Expr} {pos : Pos} {P : Res → Dk → Prop} (h : Es prog w H0 k env σ es dk [] fun ds dk₁ => ds.length ≤ 1000 ∧ P (.lst .fresh ds) dk₁) (hn : noStar es = true := by rfl) :
    E prog w H0 k env σ dk (eval (.List es pos) env) P := by
  intro A s m ok R Q X hQ
  refine wpAny_List_spliced (es_spliced (m := m) ok es dk [] [] s _ _ hn h R .nil fun vs h' tk ds dk' ⟨hl, hp⟩ R' K' ra => ?_)
  have e1 := readsAll_length ra
  simp only [List.nil_append] at e1 ra
  refine ⟨by rw [e1, sizeLine_eq]; omega, ?_⟩
  have st := push_stays h' { cls := .type "list", data := .seq vs.toArray }
  exact hQ _ _ tk _ dk' hp (R'.stays st) (K'.trans (KeepE.of_stays st)) ⟨_, rfl, lst_new (by simpa using ra), fun _ => K'.dom.none (new_none _), (by intro q; cases q)⟩
end
end
end
section -- Core5
section
variable {prog : Program} {w : World} {H0 : Heap}
theorem mapSeq_plain (f : Array Value → Array Value) (items : Array Value) (n : Nat) : ∃ n', Obj.mapSeq f ({ cls := .type "list", data := .seq items n } : Obj) = { cls := .type "list", data := .seq (f items) n' } := ⟨_, rfl⟩
theorem set_plain_pos {A : Around} {X : Value → Shared → Prop} {s : Shared} {l : Addr} {items : Array Value} {k : Int} {t : Tok} {v : Value} {Q : Unit → Shared → Prop} (hl : s.heap.PlainList l items)
    (h0 : 0 ≤ k) (hfit : k < 2 ^ 63) (hn : k < items.size)
    (hQ : ∀ h', h'.PlainList l (items.setIfInBounds k.toNat v) → Heap.SameBut l s.heap h' → Q () { s with heap := h' }) :
    wpAny (model prog w) A (setItem (.ref l) (.int k t) v) Q X s := by
  obtain ⟨n, ho⟩ := id hl
  have hl' := hl.isList
  unfold setItem
  try with_reducible refine wpAny_holding ?_
  first | refine wpAny_bind (wpAny_pure ?_) | skip
  refine wpAny_bind (wpAny_sequenceKey hl'.typeIs (by decide) ?_)
  refine wpAny_bind (wpAny_callSpecial?_slot (name := Str.ofString "__setitem__") hl'.typeIs slot_list_setitem
    (wpAny_call_entry slot_list_setitem hl'.typeIs entry_list_setitem ?_ (args_list_setitem _ _ _)))
  show wpAny _ _ (Builtin.List.listSubscript? (.int k t) >>= _) _ _ s
  refine wpAny_bind (wpAny_listSubscript_int (fitsIndex_of h0 hfit) ?_)
  clear hfit
  obtain ⟨j, rfl⟩ := Int.eq_ofNat_of_zero_le h0
  have hj : j < items.size := by omega
  have hx' : items[j]? = some items[j] := Array.getElem?_eq_getElem hj
  show wpAny _ _ ((seqItemAt l j >>= fun r => pure (r.map (j, ·))) >>= _) _ _ s
  refine wpAny_bind (wpAny_bind (wpAny_seqItemAt ho rfl (wpAny_pure ?_)))
  rw [hx']
  show wpAny _ _ (setSeqItemAt l j v >>= _) _ _ s
  obtain ⟨n', hd'⟩ := mapSeq_plain (·.setIfInBounds j v) items n
  have hfin : (s.heap.update l (Obj.mapSeq (·.setIfInBounds j v))).PlainList l (items.setIfInBounds j v) :=
    ⟨n', by rw [Heap.get?_update_self _ ho (by rw [hd']; rfl), hd']⟩
  refine wpAny_bind (wpAny_setSeqItemAt ho rfl ?_)
  first
    | exact wpAny_bind (wpAny_pure (wpAny_pure ⟨.none, rfl, wpAny_pure (hQ _ hfin (Heap.SameBut.update ..))⟩))
    | exact wpAny_pure ⟨.none, rfl, wpAny_pure (hQ _ hfin (Heap.SameBut.update ..))⟩
theorem set_plain_neg {A : Around} {X : Value → Shared → Prop} {s : Shared} {l : Addr} {items : Array Value} {k : Int} {t : Tok} {v : Value} {Q : Unit → Shared → Prop} (hl : s.heap.PlainList l items)
    (h0 : k < 0) (hfit : -(2 ^ 63) ≤ k) (hn : -(items.size : Int) ≤ k)
    (hQ : ∀ h', h'.PlainList l (items.setIfInBounds (k + items.size).toNat v) → Heap.SameBut l s.heap h' → Q () { s with heap := h' }) :
    wpAny (model prog w) A (setItem (.ref l) (.int k t) v) Q X s := by
  obtain ⟨n, ho⟩ := id hl
  have hl' := hl.isList
  unfold setItem
  try with_reducible refine wpAny_holding ?_
  first | refine wpAny_bind (wpAny_pure ?_) | skip
  refine wpAny_bind (wpAny_sequenceKey hl'.typeIs (by decide) ?_)
  refine wpAny_bind (wpAny_callSpecial?_slot (name := Str.ofString "__setitem__") hl'.typeIs slot_list_setitem
    (wpAny_call_entry slot_list_setitem hl'.typeIs entry_list_setitem ?_ (args_list_setitem _ _ _)))
  show wpAny _ _ (Builtin.List.listSubscript? (.int k t) >>= _) _ _ s
  refine wpAny_bind (wpAny_listSubscript_int (fitsIndex_neg h0 hfit) ?_)
  clear hfit
  have hidx := seqIndex_neg h0 hn
  obtain ⟨i, hi⟩ : ∃ i, (k + items.size).toNat = i := ⟨_, rfl⟩
  rw [hi] at hQ hidx
  have hj : i < items.size := by omega
  have hx' : items[i]? = some items[i] := Array.getElem?_eq_getElem hj
  obtain ⟨j, rfl⟩ : ∃ j : Nat, k = Int.negSucc j := by
    cases k with
    | ofNat n => exact absurd h0 (Int.not_lt.mpr (Int.ofNat_nonneg n))
    | negSucc n => exact ⟨n, rfl⟩
  show wpAny _ _ ((Builtin.List.listItems (.ref l) >>= fun xs => pure ((seqIndex? (Int.negSucc j) xs.size).bind fun i => xs[i]?.map (i, ·))) >>= _) _ _ s
  refine wpAny_bind (wpAny_bind ?_)
  show wpAny _ _ (seqItems? (.ref l) >>= _) _ _ s
  refine wpAny_bind (wpAny_seqItems ho rfl (wpAny_pure (wpAny_pure ?_)))
  rw [hidx]
  simp only [Option.bind_some, hx', Option.map_some]
  show wpAny _ _ (setSeqItemAt l i v >>= _) _ _ s
  obtain ⟨n', hd'⟩ := mapSeq_plain (·.setIfInBounds i v) items n
  have hfin : (s.heap.update l (Obj.mapSeq (·.setIfInBounds i v))).PlainList l (items.setIfInBounds i v) :=
    ⟨n', by rw [Heap.get?_update_self _ ho (by rw [hd']; rfl), hd']⟩
  refine wpAny_bind (wpAny_setSeqItemAt ho rfl ?_)
  first
    | exact wpAny_bind (wpAny_pure (wpAny_pure ⟨.none, rfl, wpAny_pure (hQ _ hfin (Heap.SameBut.update ..))⟩))
    | exact wpAny_pure ⟨.none, rfl, wpAny_pure (hQ _ hfin (Heap.SameBut.update ..))⟩
/-- an index, as Python counts -/
noncomputable def at? (xs : List PyData) (k : Int) : Option PyData := if 0 ≤ k then xs[k.toNat]? else if -(xs.length : Int) ≤ k then xs[(k + xs.length).toNat]? else .none
/-- the ways of a subscript -/
inductive SubR : Res → Res → PyData → Prop
  | tup (ds : List PyData) (k : Int) (d : PyData) : -(2 ^ 63) ≤ k → k < 2 ^ 63 → at? ds k = some d → SubR (.dat (.tuple ds)) (.dat (.int k)) d
  | lst (f : Fl) (ds : List PyData) (k : Int) (d : PyData) : -(2 ^ 63) ≤ k → k < 2 ^ 63 → at? ds k = some d → SubR (.lst f ds) (.dat (.int k)) d
noncomputable def isSlice : Expr → Bool
  | .Slice .. => true
  | _ => false
theorem subscripted_plain {slice : Expr} {o i : Value} (h : isSlice slice = false) : subscripted slice false o i = operate [o, i] (getItem o i) := by
  cases slice <;> first | rfl | cases h
theorem at?_pos {xs : List PyData} {k : Int} (h : 0 ≤ k) : at? xs k = xs[k.toNat]? := if_pos h
theorem at?_neg {xs : List PyData} {k : Int} {d : PyData} (h : k < 0) (e : at? xs k = some d) : -(xs.length : Int) ≤ k ∧ xs[(k + xs.length).toNat]? = some d := by
  unfold at? at e
  rw [if_neg (Int.not_le.mpr h)] at e
  split at e
  · exact ⟨by assumption, e⟩
  · cases e
theorem sub_sound {A : Around} {X : Value → Shared → Prop} {s : Shared} {m : Vals} {σ : Sto} {hz hz' : Heap} {value slice : Expr} {ρ₁ ρ₂ : Res} {d : PyData} {v₁ v₂ : Value} {Q : Value → Shared → Prop} (hs : isSlice slice = false) (hb : SubR ρ₁ ρ₂ d)
    (h1 : Vl prog w m σ hz s.heap v₁ ρ₁) (h2 : Vl prog w m σ hz' s.heap v₂ ρ₂) (h : ∀ v, Reads s.heap v d [] → Q v s) :
    wpAny (model prog w) A (subscriptTail value slice v₁ v₂) Q X s := by
  induction hb with
  | tup ds k d hlo hhi hd =>
    obtain ⟨u, rfl, _⟩ := reads_int_inv h2
    obtain ⟨a, o, vs, n, rfl, ho, hc, hdd, hr⟩ := reads_tuple_inv h1
    have e1 := readsAll_length hr
    rw [Array.length_toList] at e1
    have hty : s.TypeIs (.ref a) "tuple" := ⟨o, ho, hc⟩
    by_cases h0 : 0 ≤ k
    · rw [at?_pos h0] at hd
      obtain ⟨v, hv, rv⟩ := readsAll_get hr hd
      have hk : k.toNat < vs.size := by
        rw [← Array.length_toList]; exact (List.getElem?_eq_some_iff.mp hv).1
      refine item_tupleT (l := vs.toList) (j := k.toNat) ⟨o, ho, hc, n, by simpa using hdd⟩ hlo hhi ?_ hv (h v rv) (subscripted_plain hs)
      unfold seqIndex?
      rw [if_neg (Int.not_lt.mpr h0), Array.length_toList, if_pos (by simp only [Bool.and_eq_true, decide_eq_true_eq]; omega)]
    · obtain ⟨hl, hx⟩ := at?_neg (Int.not_le.mp h0) hd
      obtain ⟨v, hv, rv⟩ := readsAll_get hr hx
      refine item_tupleT (l := vs.toList) (j := (k + ds.length).toNat) ⟨o, ho, hc, n, by simpa using hdd⟩ hlo hhi ?_ hv (h v rv) (subscripted_plain hs)
      rw [Array.length_toList, seqIndex_neg (Int.not_le.mp h0) (by rw [e1]; exact hl), e1]
  | lst f ds k d hlo hhi hd =>
    obtain ⟨u, rfl, _⟩ := reads_int_inv h2
    obtain ⟨a, rfl, ⟨vs, p, hr⟩, _⟩ := h1
    have e1 := readsAll_length hr
    rw [Array.length_toList] at e1
    have hl := p.isList
    by_cases h0 : 0 ≤ k
    · rw [at?_pos h0] at hd
      obtain ⟨v, hv, rv⟩ := readsAll_get hr hd
      exact tail_any hl.typeIs slot_list_getitem.lookup (wpAny_getItem_list hl h0 hhi (by rw [← Array.getElem?_toList]; exact hv) (h v rv)) (subscripted_plain hs)
    · obtain ⟨hk, hx⟩ := at?_neg (Int.not_le.mp h0) hd
      obtain ⟨v, hv, rv⟩ := readsAll_get hr hx
      exact tail_any hl.typeIs slot_list_getitem.lookup (wpAny_getItem_list_neg hl (Int.not_le.mp h0) (by rw [e1]; exact hk) hlo (by rw [← Array.getElem?_toList, e1]; exact hv) (h v rv)) (subscripted_plain hs)
section
variable {k : Nat} {env : Env} {σ : Sto} {dk : Dk}
noncomputable abbrev kSub2 (ρ₁ : Res) (P : Res → Dk → Prop) (ρ₂ : Res) (dk₂ : Dk) : Prop := ∃ d, SubR ρ₁ ρ₂ d ∧ P (.dat d) dk₂
noncomputable abbrev kSub (prog : Program) (w : World) (H0 : Heap) (k : Nat) (env : Env) (σ : Sto) (slice : Expr) (P : Res → Dk → Prop) (ρ₁ : Res) (dk₁ : Dk) : Prop := ρ₁.calm = true ∧ E prog w H0 k env σ dk₁ (eval slice env) (kSub2 ρ₁ P)
theorem E.sub {value slice : Expr} {pos : Pos} {P : Res → Dk → Prop}
    (h : E prog w H0 k env σ dk (eval value env) (kSub prog w H0 k env σ slice P)) (hs : isSlice slice = false := by rfl) :
    E prog w H0 k env σ dk (eval (.Subscript value slice pos) env) P := by
  intro A s m ok R Q X hQ
  refine Subscript_ (h A s m ok R _ _ fun v₁ h₁ tk₁ ρ₁ dk₁ ⟨hc, hP⟩ R₁ K₁ V₁ => hP A _ m ok R₁ _ _ fun v₂ h₂ tk₂ ρ₂ dk₂ ⟨d, hB, hp⟩ R₂ K₂ V₂ => ?_)
  exact sub_sound hs hB (Vl.keep R₁ K₂ hc V₁) V₂ fun v rv => hQ v h₂ tk₂ _ dk₂ hp R₂ (K₁.trans K₂) rv
/-- a cut's end, as Python clips it -/
noncomputable def clip (n : Nat) (i : Int) : Nat := (max 0 (min (if i < 0 then i + n else i) n)).toNat
noncomputable def pcut (xs : List PyData) (lo hi : Option Int) : List PyData :=
  let a := match lo with | .none => 0 | some i => clip xs.length i
  let b := match hi with | .none => xs.length | some i => clip xs.length i
  (xs.drop a).take (b - a)
theorem slicePick_eq (items : Array Value) (lo hi : Option Int) :
    slicePick items lo hi .none = ((items.toList.drop (match lo with | .none => 0 | some i => clip items.size i)).take ((match hi with | .none => items.size | some i => clip items.size i) - (match lo with | .none => 0 | some i => clip items.size i))).toArray := by
  have hc : ∀ i : Int, max 0 (min (if i < 0 then i + (items.size : Int) else i) (items.size : Int)) = ((clip items.size i : Nat) : Int) := by
    intro i; exact (Int.toNat_of_nonneg (Int.le_max_left 0 _)).symm
  unfold slicePick
  have e : sliceBounds lo hi .none items.size = (((match lo with | .none => 0 | some i => clip items.size i : Nat) : Int), ((match hi with | .none => items.size | some i => clip items.size i : Nat) : Int), 1) := by
    unfold sliceBounds
    cases lo <;> cases hi <;> simp only [Option.getD_none, show (1 : Int) > 0 by decide, if_true, hc] <;> rfl
  rw [e]
  simp only [sliceRange_one, pick_run]
noncomputable def Part (prog : Program) (w : World) (H0 : Heap) (k : Nat) (env : Env) (σ : Sto) (dk : Dk) : Option Expr → (Option Int → Dk → Prop) → Prop
  | .none, P => P .none dk
  | some e, P => E prog w H0 k env σ dk (eval e env) fun ρ dk₁ => ∃ i, ρ = .dat (.int i) ∧ P (some i) dk₁
theorem part_sound {A : Around} {X : Value → Shared → Prop} {s : Shared} {m : Vals} (ok : Okay k A) (R : Rel prog w H0 env s.heap m σ dk) {oe : Option Expr} {P : Option Int → Dk → Prop} {Q : Value → Shared → Prop} (h : Part prog w H0 k env σ dk oe P)
    (hQ : ∀ v h' tk i dk', P i dk' → Rel prog w H0 env h' m σ dk' → KeepE m dk dk' s.heap h' → IsPart v i → Q v ⟨h', s.gens, s.drawn, tk, s.os⟩) : wpAny (model prog w) A (evalPart oe env) Q X s := by
  cases oe with
  | none => exact wpAny_evalPart_none (hQ .none s.heap s.toks .none dk h R .refl .none)
  | some e =>
    refine wpAny_evalPart_some (h A s m ok R _ _ ?_)
    rintro v h' tk ρ dk' ⟨i, rfl, hp⟩ R' K V
    obtain ⟨t, rfl, _⟩ := reads_int_inv V
    exact hQ _ h' tk (some i) dk' hp R' K (.int i t)
theorem E.cut {value : Expr} {lower upper : Option Expr} {p pos : Pos} {P : Res → Dk → Prop}
    (h : E prog w H0 k env σ dk (eval value env) fun ρ₁ dk₁ => ∃ f xs, ρ₁ = .lst f xs ∧ xs.length ≤ 10000 ∧ Part prog w H0 k env σ dk₁ lower fun lo dk₂ => Part prog w H0 k env σ dk₂ upper fun hi dk₃ => P (.lst .fresh (pcut xs lo hi)) dk₃) :
    E prog w H0 k env σ dk (eval (.Subscript value (.Slice lower upper .none p) pos) env) P := by
  intro A s m ok R Q X hQ
  refine Subscript_ (h A s m ok R _ _ ?_)
  rintro v₁ h₁ tk₁ ρ₁ dk₁ ⟨f, xs, rfl, hlen, hP⟩ R₁ K₁ V₁
  refine wpAny_Slice (part_sound ok R₁ hP fun vl h₂ tk₂ lo dk₂ hP₂ R₂ K₂ hlo => part_sound ok R₂ hP₂ fun vu h₃ tk₃ hi dk₃ hp R₃ K₃ hhi => wpAny_evalPart_none ?_)
  have V₃ := Vl.keep R₁ (K₂.trans K₃) rfl V₁
  obtain ⟨a, rfl, ⟨vs, pl, hr⟩, _⟩ := V₃
  have e1 := readsAll_length hr
  rw [Array.length_toList] at e1
  have st1 := push_stays h₃ { cls := .type "slice", data := .fields #[vl, vu, .none] }
  have hl1 : (h₃.push { cls := .type "slice", data := .fields #[vl, vu, .none] }).IsList a vs := by
    obtain ⟨n, e⟩ := pl; exact ⟨_, st1 _ _ e, rfl, n, rfl⟩
  refine tail_any (T := "list") (ops := [.ref h₃.objs.size, .ref a]) (Heap.IsList.typeIs hl1) slot_list_getitem.lookup (wpAny_getItem_list_slice hl1 ⟨_, Heap.get?_push_size _ rfl, rfl, rfl⟩ hlo hhi .none (by intro q; cases q) ?_ (by rw [e1, sizeLine_eq]; omega)) (by rfl)
  have st2 := push_stays (h₃.push { cls := .type "slice", data := .fields #[vl, vu, .none] }) { cls := .type "list", data := .seq (slicePick vs lo hi .none) }
  have st : Stays h₃ ((h₃.push { cls := .type "slice", data := .fields #[vl, vu, .none] }).push { cls := .type "list", data := .seq (slicePick vs lo hi .none) }) := fun b o e => st2 b o (st1 b o e)
  have hr' : ReadsAll (h₃.push { cls := .type "slice", data := .fields #[vl, vu, .none] }) (slicePick vs lo hi .none).toList (pcut xs lo hi) [] := by
    rw [slicePick_eq, e1]
    exact ReadsAll.keeps st1 (readsAll_take (readsAll_drop hr _) _)
  refine hQ _ _ tk₃ _ dk₃ hp (R₃.stays st) (((K₁.trans K₂).trans K₃).trans (KeepE.of_stays st)) ⟨_, rfl, lst_new hr', fun _ => ?_, (by intro q; cases q)⟩
  exact (((K₁.trans K₂).trans K₃).dom.trans st1.dom).none (new_none _)
end
end
end
section -- Core6
inductive Out where
  | next (σ : Sto) (dk : Dk)
  | ret (ρ : Res) (dk : Dk)
structure Step (env : Env) (h : Heap) (m : Vals) (σ : Sto) (dk : Dk) (h' : Heap) (m' : Vals) (σ' : Sto) (dk' : Dk) : Prop where
  get : ∀ b o, h.get? b = some o → ¬ Mut env m σ dk b → h'.get? b = some o
  dom : Dom h h'
  own : ∀ b, OwnA m' σ' b → OwnA m σ b ∨ h.get? b = .none
  dkm : dk.isSome = true → dk'.isSome = true ∧ m' deckName = m deckName
  dkn : ∀ b, DkA m' dk' b → DkA m dk b ∨ h.get? b = .none
theorem Step.refl {env : Env} {h : Heap} {m : Vals} {σ : Sto} {dk : Dk} : Step env h m σ dk h m σ dk := ⟨fun _ _ e _ => e, .refl, fun _ x => .inl x, fun x => ⟨x, rfl⟩, fun _ x => .inl x⟩
theorem Step.trans {env : Env} {h h₁ h₂ : Heap} {m m₁ m₂ : Vals} {σ σ₁ σ₂ : Sto} {dk dk₁ dk₂ : Dk} (a : Step env h m σ dk h₁ m₁ σ₁ dk₁) (b : Step env h₁ m₁ σ₁ dk₁ h₂ m₂ σ₂ dk₂) : Step env h m σ dk h₂ m₂ σ₂ dk₂ where
  get := fun x o e n => b.get x o (a.get x o e n) (by
    rintro (q | q | q | q)
    · exact n (.inl q)
    · exact n (.inr (.inl q))
    · rcases a.own x q with q | q
      · exact n (.inr (.inr (.inl q)))
      · rw [e] at q; cases q
    · rcases a.dkn x q with q | q
      · exact n (.inr (.inr (.inr q)))
      · rw [e] at q; cases q)
  dom := a.dom.trans b.dom
  own := fun x q => (b.own x q).elim (a.own x) fun q => .inr (a.dom.none q)
  dkm := fun q => let ⟨p1, p2⟩ := a.dkm q; let ⟨q1, q2⟩ := b.dkm p1; ⟨q1, q2.trans p2⟩
  dkn := fun x q => (b.dkn x q).elim (a.dkn x) fun q => .inr (a.dom.none q)
theorem KeepE.step {env : Env} {h h' : Heap} {m : Vals} {σ : Sto} {dk dk' : Dk} (K : KeepE m dk dk' h h') : Step env h m σ dk h' m σ dk' :=
  ⟨fun b o e n => K.get b o e fun q => n (.inr (.inr (.inr q))), K.dom, fun _ x => .inl x, fun x => ⟨K.dk.trans x, rfl⟩, fun _ x => .inl ⟨K.dk ▸ x.1, x.2⟩⟩
section
variable (prog : Program) (w : World) (H0 : Heap)
/-- what a value handed back is worth -/
noncomputable def VlR (m : Vals) (σ : Sto) (hz : Heap) (h : Heap) (v : Value) : Res → Prop
  | .dat d => Reads h v d []
  | .lst fl xs => ∃ a, v = .ref a ∧ Lst h a xs ∧ (fl = .fresh → hz.get? a = .none ∨ OwnA m σ a)
  | .deck l c t => ∃ a, v = .ref a ∧ DeckAt prog w h a l c t ∧ hz.get? a = .none ∧ hz.get? l = .none
  | .cost fr dx ps ds => ∃ a, v = .ref a ∧ CostAt h a dx ps ds ∧ (fr = true → hz.get? a = .none ∧ hz.get? dx = .none)
noncomputable def OutOk (env : Env) (h : Heap) (m : Vals) (σ : Sto) (dk : Dk) (f : Flow) (h' : Heap) : Out → Prop
  | .next σ' dk' => f = .next ∧ ∃ m', Rel prog w H0 env h' m' σ' dk' ∧ Step env h m σ dk h' m' σ' dk'
  | .ret ρ dk' => ∃ v m' σ', f = .ret v ∧ Rel prog w H0 env h' m' σ' dk' ∧ Step env h m σ dk h' m' σ' dk' ∧ VlR prog w m σ h h' v ρ
noncomputable def S (k : Nat) (env : Env) (σ : Sto) (dk : Dk) (tr : Sem Flow) (K : Out → Prop) : Prop :=
  ∀ (A : Around) (s : Shared) (m : Vals), Okay k A → Rel prog w H0 env s.heap m σ dk → ∀ (Q : Flow → Shared → Prop) (X : Value → Shared → Prop),
    (∀ f h' tk o, K o → OutOk prog w H0 env s.heap m σ dk f h' o → Q f ⟨h', s.gens, s.drawn, tk, s.os⟩) →
    wpAny (model prog w) A tr Q X s
variable {prog w H0}
theorem VlR.later {env : Env} {h h₁ h₂ : Heap} {m m₁ : Vals} {σ σ₁ : Sto} {dk dk₁ : Dk} {v : Value} (a : Step env h m σ dk h₁ m₁ σ₁ dk₁) : ∀ {ρ : Res}, VlR prog w m₁ σ₁ h₁ h₂ v ρ → VlR prog w m σ h h₂ v ρ := by
  intro ρ y0
  cases ρ with
  | dat d0 => exact y0
  | lst f0 xs0 => obtain ⟨b, e, x, y⟩ := y0; exact ⟨b, e, x, fun q => (y q).elim (fun q => .inl (a.dom.none q)) fun q => (a.own b q).symm⟩
  | deck l0 c0 t0 => obtain ⟨b, e, x, y⟩ := y0; exact ⟨b, e, x, a.dom.none y.1, a.dom.none y.2⟩
  | cost r0 dx0 ps0 ds0 => obtain ⟨b, e, x, y⟩ := y0; exact ⟨b, e, x, fun q => ⟨a.dom.none (y q).1, a.dom.none (y q).2⟩⟩
theorem OutOk.later {env : Env} {h h₁ h₂ : Heap} {m m₁ : Vals} {σ σ₁ : Sto} {dk dk₁ : Dk} {f : Flow} (a : Step env h m σ dk h₁ m₁ σ₁ dk₁) : ∀ {o : Out}, OutOk prog w H0 env h₁ m₁ σ₁ dk₁ f h₂ o → OutOk prog w H0 env h m σ dk f h₂ o := by
  intro o y0
  cases o with
  | next s0 k0 => obtain ⟨e, m', R, s⟩ := y0; exact ⟨e, m', R, a.trans s⟩
  | ret r0 k0 => obtain ⟨v, m', σ', e, R, s, x⟩ := y0; exact ⟨v, m', σ', e, R, a.trans s, x.later a⟩
section
variable {k : Nat} {env : Env} {σ : Sto} {dk : Dk} {K : Out → Prop}
theorem S.mono {tr : Sem Flow} {K K' : Out → Prop} (h : S prog w H0 k env σ dk tr K) (hp : ∀ o, K o → K' o) : S prog w H0 k env σ dk tr K' :=
  fun A s m ok R Q X hQ => h A s m ok R Q X fun f h' tk o hK => hQ f h' tk o (hp o hK)
theorem S.nil (h : K (.next σ dk)) : S prog w H0 k env σ dk (execs [] env) K :=
  fun _ s m _ R _ _ hQ => wpAny_execs_nil (hQ .next s.heap s.toks _ h ⟨rfl, m, R, .refl⟩)
noncomputable def Then (prog : Program) (w : World) (H0 : Heap) (k : Nat) (env : Env) (rest : List Stmt) (K : Out → Prop) : Out → Prop
  | .next σ' dk' => S prog w H0 k env σ' dk' (execs rest env) K
  | .ret ρ dk' => K (.ret ρ dk')
theorem S.cons {st : Stmt} {rest : List Stmt} (h : S prog w H0 k env σ dk (exec st env) (Then prog w H0 k env rest K)) : S prog w H0 k env σ dk (execs (st :: rest) env) K := by
  intro A s m ok R Q X hQ
  refine wpAny_execs_cons (h A s m ok R _ _ fun f h' tk o hK hO => ?_)
  cases o with
  | next σ' dk' =>
    obtain ⟨rfl, m', R', st'⟩ := hO
    exact hK A _ m' ok R' _ _ fun f h'' tk' o hK' hO' => hQ f h'' tk' o hK' (hO'.later st')
  | ret ρ dk' =>
    obtain ⟨v, m', σ', rfl, hO⟩ := hO
    exact hQ _ h' tk _ hK ⟨v, m', σ', rfl, hO⟩
noncomputable abbrev kIf (prog : Program) (w : World) (H0 : Heap) (k : Nat) (env : Env) (σ : Sto) (body orelse : List Stmt) (K : Out → Prop) (b : Bool) (dk₁ : Dk) : Prop := (b = true → S prog w H0 k env σ dk₁ (execs body env) K) ∧ (b = false → S prog w H0 k env σ dk₁ (execs orelse env) K)
theorem S.ifs {test : Expr} {body orelse : List Stmt} {pos : Pos} (h : T prog w H0 k env σ dk (isTrue test env (eval test env)) (kIf prog w H0 k env σ body orelse K)) :
    S prog w H0 k env σ dk (exec (.If test body orelse pos) env) K := by
  intro A s m ok R Q X hQ
  refine wpAny_If (h A s m ok R _ _ fun b h₁ tk₁ dk₁ ⟨hT, hF⟩ R₁ K₁ => ?_)
  cases b with
  | true => exact hT rfl A _ m ok R₁ _ _ fun f h2 tk o hK hO => hQ f h2 tk o hK (hO.later K₁.step)
  | false => exact hF rfl A _ m ok R₁ _ _ fun f h2 tk o hK hO => hQ f h2 tk o hK (hO.later K₁.step)
theorem vlR_of_vl {m : Vals} {hz h : Heap} {v : Value} : ∀ {ρ : Res}, Vl prog w m σ hz h v ρ → VlR prog w m σ hz h v ρ := by
  intro ρ y0
  cases ρ with
  | dat d0 => exact y0
  | lst f0 xs0 => obtain ⟨a, e, x, y, _⟩ := y0; exact ⟨a, e, x, fun q => .inl (y q)⟩
  | deck l0 c0 t0 => exact y0
  | cost r0 dx0 ps0 ds0 => exact y0
noncomputable abbrev kRet (K : Out → Prop) (ρ : Res) (dk₁ : Dk) : Prop := K (.ret ρ dk₁)
theorem S.ret {e : Expr} {pos : Pos} (h : E prog w H0 k env σ dk (eval e env) (kRet K)) : S prog w H0 k env σ dk (exec (.Return (some e) pos) env) K := by
  intro A s m ok R Q X hQ
  exact wpAny_Return_some (h A s m ok R _ _ fun v h₁ tk₁ ρ dk₁ hP R₁ K₁ V₁ => hQ _ h₁ tk₁ _ hP ⟨v, m, σ, rfl, R₁, K₁.step, vlR_of_vl V₁⟩)
/-- an own list handed back counts as new -/
theorem S.retOwn {x : Str} {p pos : Pos} {xs : List PyData} (V : EnvOk env) (hk : env.kindOf x = some .local) (hx : σ x = some (.lst true xs)) (h : K (.ret (.lst .fresh xs) dk)) (hd : (x == ("__debug__" : Str)) = false := by decide) :
    S prog w H0 k env σ dk (exec (.Return (some (.Name x p)) pos) env) K := by
  intro A s m ok R Q X hQ
  obtain ⟨v, hv, a, rfl, hl, _⟩ := R.hold x _ hx
  obtain ⟨mL, hn, hm⟩ := R.frm.ns
  refine wpAny_Return_some (wpAny_Name (wpAny_loadName_local V.fn hk hn ((hm x hk).trans hv) ?_) hd)
  exact hQ _ s.heap s.toks _ h ⟨_, m, σ, rfl, R, .refl, a, rfl, hl, fun _ => .inr ⟨x, xs, hx, hv⟩⟩
end
end
end
section -- Core7
section
variable {prog : Program} {w : World} {H0 : Heap}
noncomputable def setV (m : Vals) (x : Str) (v : Value) : Vals := fun y => if y = x then some v else m y
theorem setV_same (m : Vals) (x : Str) (v : Value) : setV m x v x = some v := if_pos rfl
theorem setV_ne (m : Vals) {x y : Str} (v : Value) (h : y ≠ x) : setV m x v y = m y := if_neg h
/-- a name that the frame may store -/
noncomputable def Kind (env : Env) (x : Str) : Prop := env.kindOf x = some .local ∨ (env.kindOf x = some .cell ∧ ∃ c, env.cells.lookup x = some c)
/-- one object changes, no sequence, not the deck's, not the costs' -/
structure Aside (h h' : Heap) (b : Addr) : Prop where
  same : Heap.SameBut b h h'
  noseq : ∀ o vs n, h.get? b = some o → o.data ≠ .seq vs n
  noplain : ∀ o, h.get? b = some o → o.data ≠ .plain
theorem Aside.seq {h h' : Heap} {b : Addr} (x : Aside h h' b) : StaysSeq h h' := fun c o vs n ho hd => by
  by_cases e : c = b
  · subst e; exact absurd hd (x.noseq o vs n ho)
  · exact (x.same.2 c e).trans ho
theorem Aside.get {h h' : Heap} {b : Addr} (x : Aside h h' b) {c : Addr} {o : Obj} (hc : c ≠ b) (ho : h.get? c = some o) : h'.get? c = some o := (x.same.2 c hc).trans ho
theorem Aside.cost {h h' : Heap} {b : Addr} (x : Aside h h' b) {a dx : Addr} {ps ds : List Int} (c : CostAt h a dx ps ds) (hd : dx ≠ b) : CostAt h' a dx ps ds := by
  obtain ⟨o, es, n, l, h1, h2, h3, h4, h5, h6⟩ := c
  exact ⟨o, es, n, l, x.get (by rintro rfl; exact x.noplain o h1 h2) h1, h2, x.get hd h3, h4, h5, h6.seq x.seq⟩
theorem Aside.deck {h h' : Heap} {b : Addr} (x : Aside h h' b) {a l : Addr} {c : List Int} {t : Int} (d : DeckAt prog w h a l c t) (hd : a ≠ b) : DeckAt prog w h' a l c t := by
  obtain ⟨tok, dd, r⟩ := d
  exact ⟨tok, dd.sameBut x.same hd, r.seq x.seq⟩
structure Fits (env : Env) (h : Heap) (m : Vals) (σ : Sto) (dk : Dk) (x : Str) (v : Value) (e : Ent) (H0 : Heap) : Prop where
  name : x ≠ deckName
  hold : Holds H0 h v e
  nO : ∀ b, v = .ref b → ¬ OwnA m σ b
  one : (∃ xs, e = .lst true xs) → ∀ y e', σ y = some e' → m y ≠ some v
  cst : ∀ dx ps ds, e = .cost dx ps ds → dx ≠ env.locals
  nDl : ∀ l c t, dk = some (l, c, t) → (∃ xs, e = .lst true xs) → v ≠ .ref l
theorem store_step {h₀ : Heap} {m₀ : Vals} {σ₀ : Sto} {dk₀ : Dk} {A : Around} {X : Value → Shared → Prop} {s : Shared} {env : Env} {m : Vals} {σ : Sto} {dk : Dk} {x : Str} {v : Value} {e : Ent} {Q : Unit → Shared → Prop} (V : EnvOk env) (R : Rel prog w H0 env s.heap m σ dk) (hk : Kind env x)
    (F : Fits env s.heap m σ dk x v e H0) (St₀ : Step env h₀ m₀ σ₀ dk₀ s.heap m σ dk) (hf : (∃ xs, e = .lst true xs) → ∀ b, v = .ref b → h₀.get? b = .none)
    (hQ : ∀ h' tk, Rel prog w H0 env h' (setV m x v) (σ.set x e) dk → Step env h₀ m₀ σ₀ dk₀ h' (setV m x v) (σ.set x e) dk → StaysSeq s.heap h' → Dom s.heap h' → (∀ b o, b ≠ env.locals → ¬ CellA env b → s.heap.get? b = some o → h'.get? b = some o) → Q () ⟨h', s.gens, s.drawn, tk, s.os⟩) :
    wpAny (model prog w) A (storeName env x v) Q X s := by
  obtain ⟨mL, hn, hm⟩ := R.frm.ns
  have hn0 := hn
  obtain ⟨oL, esL, epL, hoL, hdL, _⟩ := hn0
  -- what follows from the change of one object b, the frame's own or a cell of it
  have main : ∀ (b : Addr) (h' : Heap), (b = env.locals ∨ CellA env b) → Aside s.heap h' b → Frm env h' (setV m x v) → (b = env.locals ∨ ∃ c, s.heap.IsCell b c) → Dom s.heap h' →
      Rel prog w H0 env h' (setV m x v) (σ.set x e) dk ∧ Step env h₀ m₀ σ₀ dk₀ h' (setV m x v) (σ.set x e) dk := by
    intro b h' hb as fr hbk dm
    have hb0 : H0.get? b = none := by
      rcases hb with rfl | ⟨y, _, hy⟩
      · exact R.newL
      · exact R.newC y b hy
    have nodict : ∀ o es n, b ≠ env.locals → s.heap.get? b = some o → o.data ≠ .dict es n := by
      intro o es n hbl ho hd
      rcases hbk with q | ⟨c, o', ho', hd'⟩
      · exact hbl q
      · rw [ho] at ho'; cases ho'; rw [hd] at hd'; cases hd'
    have deckNe : ∀ l c t a, dk = some (l, c, t) → m deckName = some (.ref a) → a ≠ b := by
      intro l c t a hdk hma hab
      obtain ⟨a', h1, ⟨_, ⟨o, es, ep, ho, _, hd, _⟩, _⟩, h3, h4, _⟩ := R.dek l c t hdk
      rw [hma] at h1; cases h1
      subst hab
      exact nodict o es ep h4 ho hd
    have ownSame : ∀ c, OwnA (setV m x v) (σ.set x e) c → OwnA m σ c ∨ (∃ xs, e = .lst true xs) ∧ v = .ref c := by
      rintro c ⟨y, xs, hy, hv⟩
      by_cases q : y = x
      · subst q
        rw [Sto.set_same] at hy; rw [setV_same] at hv
        cases hy; cases hv
        exact .inr ⟨⟨xs, rfl⟩, rfl⟩
      · rw [Sto.set_ne _ _ q] at hy; rw [setV_ne _ _ q] at hv
        exact .inl ⟨y, xs, hy, hv⟩
    have mdeck : setV m x v deckName = m deckName := setV_ne _ _ (Ne.symm F.name)
    refine ⟨?_, ?_⟩
    · refine ⟨fun c o ho => ?_, fr, R.newL, R.newC, ?_, ?_, ?_, ?_⟩
      · exact as.get (by rintro rfl; rw [hb0] at ho; cases ho) (R.base c o ho)
      · intro y e' hy
        have go : ∀ u, (∀ dx ps ds, e' = .cost dx ps ds → dx ≠ env.locals) → Holds H0 s.heap u e' → Holds H0 h' u e' := by
          intro u hc hh
          cases e' with
          | dat d => exact reads_seq as.seq hh
          | lst own xs => obtain ⟨a, h1, h2, h3⟩ := hh; exact ⟨a, h1, h2.seq as.seq, h3⟩
          | cost dx ps ds =>
            obtain ⟨a, h1, h2⟩ := hh
            refine ⟨a, h1, as.cost h2 ?_⟩
            rintro rfl
            obtain ⟨o, es, n, l, _, _, h3, _⟩ := h2
            exact nodict _ _ _ (hc _ ps ds rfl) h3 rfl
        by_cases q : y = x
        · subst q
          rw [Sto.set_same] at hy; cases hy
          exact ⟨v, setV_same .., go v F.cst F.hold⟩
        · rw [Sto.set_ne _ _ q] at hy
          obtain ⟨u, hu, hh⟩ := R.hold y e' hy
          exact ⟨u, by rw [setV_ne _ _ q]; exact hu, go u (fun dx ps ds he => R.cst y dx ps ds (he ▸ hy)) hh⟩
      · intro y xs hy a hma z e' hze hz
        by_cases q : y = x
        · subst q
          rw [Sto.set_same] at hy; cases hy
          rw [setV_same] at hma; cases hma
          by_cases q' : z = y
          · exact q'
          · rw [setV_ne _ _ q'] at hz
            rw [Sto.set_ne _ _ q'] at hze
            exact absurd hz (F.one ⟨xs, rfl⟩ z e' hze)
        · rw [Sto.set_ne _ _ q] at hy
          rw [setV_ne _ _ q] at hma
          by_cases q' : z = x
          · subst q'
            rw [setV_same] at hz
            exact absurd ⟨y, xs, hy, hma⟩ (F.nO a (Option.some.inj hz))
          · rw [setV_ne _ _ q'] at hz
            rw [Sto.set_ne _ _ q'] at hze
            exact R.own y xs hy a hma z e' hze hz
      · intro y dx ps ds hy
        by_cases q : y = x
        · subst q; rw [Sto.set_same] at hy; exact F.cst dx ps ds (Option.some.inj hy)
        · rw [Sto.set_ne _ _ q] at hy; exact R.cst y dx ps ds hy
      · intro l c t hdk
        obtain ⟨a, h1, h2, h3, h4, h5⟩ := R.dek l c t hdk
        refine ⟨a, mdeck.trans h1, as.deck h2 (deckNe l c t a hdk h1), h3, h4, fun ho => ?_⟩
        · rcases ownSame l ho with q | ⟨q, hv⟩
          · exact h5 q
          · exact F.nDl l c t hdk q hv
    · have st1 : Step env s.heap m σ dk h' m σ dk := ⟨fun c o ho n => as.get (by rintro rfl; exact n (hb.elim .inl fun q => .inr (.inl q))) ho, dm, fun c q => .inl q, fun q => ⟨q, rfl⟩, fun c q => .inl q⟩
      have st2 := St₀.trans st1
      refine ⟨st2.get, st2.dom, ?_, fun q => ⟨(st2.dkm q).1, mdeck.trans (st2.dkm q).2⟩, fun c q => st2.dkn c ⟨q.1, mdeck ▸ q.2⟩⟩
      intro c hc
      rcases ownSame c hc with q | ⟨q, hv⟩
      · exact st2.own c q
      · exact .inr (hf q c hv)
  rcases hk with hk | ⟨hk, c, hc⟩
  · refine wpAny_storeName_local hk hn (fun h' hn' hs' => ?_) V.plain
    have as : Aside s.heap h' env.locals := ⟨hs', (fun o vs n ho hd => by rw [hoL] at ho; cases ho; rw [hdL] at hd; cases hd), (fun o ho hd => by rw [hoL] at ho; cases ho; rw [hdL] at hd; cases hd)⟩
    have fr : Frm env h' (setV m x v) := by
      refine ⟨⟨_, hn', fun y hy => ?_⟩, fun y c hy hc => ?_⟩
      · by_cases q : y = x
        · subst q; rw [setV_same]; exact if_pos rfl
        · rw [setV_ne _ _ q, if_neg q]; exact hm y hy
      · have q : y ≠ x := by rintro rfl; rw [hk] at hy; cases hy
        rw [setV_ne _ _ q]
        have := R.frm.cl y c hy hc
        refine this.sameBut hs' ?_
        rintro rfl
        obtain ⟨o, ho, hd⟩ := this
        rw [hoL] at ho; cases ho; rw [hdL] at hd; cases hd
    have dm : Dom s.heap h' := fun b o ho => by
      by_cases q : b = env.locals
      · subst q; obtain ⟨o', _, _, e, _⟩ := hn'; exact ⟨o', e⟩
      · exact ⟨o, (hs'.2 b q).trans ho⟩
    obtain ⟨R', S'⟩ := main env.locals h' (.inl rfl) as fr (.inl rfl) dm
    exact hQ h' _ R' S' as.seq dm fun b o hb _ ho => as.get hb ho
  · have hcell := R.frm.cl x c hk hc
    refine wpAny_storeName_cell V.fn hk hc hcell (fun h' hcell' hs' => ?_)
    obtain ⟨oc, hoc, hdc⟩ := id hcell
    have hcL : env.locals ≠ c := by rintro rfl; rw [hoL] at hoc; cases hoc; rw [hdL] at hdc; cases hdc
    have as : Aside s.heap h' c := ⟨hs', (fun o vs n ho hd => by rw [hoc] at ho; cases ho; rw [hdc] at hd; cases hd), (fun o ho hd => by rw [hoc] at ho; cases ho; rw [hdc] at hd; cases hd)⟩
    have fr : Frm env h' (setV m x v) := by
      refine ⟨⟨mL, hn.sameBut hs' hcL, fun y hy => ?_⟩, fun y c' hy hc' => ?_⟩
      · have q : y ≠ x := by rintro rfl; rw [hk] at hy; cases hy
        rw [setV_ne _ _ q]; exact hm y hy
      · by_cases q : y = x
        · subst q
          rw [hc] at hc'; cases hc'
          rw [setV_same]; exact hcell'
        · rw [setV_ne _ _ q]
          have := R.frm.cl y c' hy hc'
          refine this.sameBut hs' ?_
          rintro rfl
          exact q (V.inj y x c' hc' hc)
    have dm : Dom s.heap h' := fun b o ho => by
      by_cases q : b = c
      · subst q; obtain ⟨o', e, _⟩ := hcell'; exact ⟨o', e⟩
      · exact ⟨o, (hs'.2 b q).trans ho⟩
    obtain ⟨R', S'⟩ := main c h' (.inr ⟨x, hk, hc⟩) as fr (.inr ⟨_, hcell⟩) dm
    exact hQ h' _ R' S' as.seq dm fun b o _ hb ho => as.get (by rintro rfl; exact hb ⟨x, hk, hc⟩) ho
end
end
section -- Core8
section
variable {prog : Program} {w : World} {H0 : Heap}
theorem reads_ref {h : Heap} {b : Addr} {d : PyData} (r : Reads h (.ref b) d []) : ∃ o vs n, h.get? b = some o ∧ o.cls = .type "tuple" ∧ o.data = .seq vs n := by
  generalize e : Value.ref b = v at r
  generalize e2 : ([] : List Addr) = as at r
  cases r with
  | tuple h1 h2 h3 h4 => cases e; exact ⟨_, _, _, h1, h2, h3⟩
  | list => cases e2
  | dict => cases e2
  | _ => cases e
section
variable {env : Env} {h : Heap} {m : Vals} {σ : Sto} {dk : Dk}
theorem Rel.tup_not (R : Rel prog w H0 env h m σ dk) {b : Addr} {o : Obj} {vs : Array Value} {n : Nat} (ho : h.get? b = some o) (hd : o.data = .seq vs n) : b ≠ env.locals ∧ ¬ DkA m dk b ∧ ¬ (∃ x, env.kindOf x = some .cell ∧ env.cells.lookup x = some b) := by
  refine ⟨?_, ?_, ?_⟩
  · rintro rfl
    obtain ⟨_, ⟨o', _, _, ho', hd', _⟩, _⟩ := R.frm.ns
    rw [ho] at ho'; cases ho'; rw [hd] at hd'; cases hd'
  · rintro ⟨hs, hm⟩
    obtain ⟨⟨l, c, t⟩, rfl⟩ := Option.isSome_iff_exists.mp hs
    obtain ⟨a, h1, h2, _⟩ := R.dek l c t rfl
    rw [hm] at h1; cases h1
    exact deck_not_seq h2 ho hd rfl
  · rintro ⟨x, hk, hc⟩
    obtain ⟨o', ho', hd'⟩ := R.frm.cl x b hk hc
    rw [ho] at ho'; cases ho'; rw [hd] at hd'; cases hd'
theorem Rel.own_lst (R : Rel prog w H0 env h m σ dk) {b : Addr} (ho : OwnA m σ b) : ∃ xs, Lst h b xs := by
  obtain ⟨x, xs, hx, hm⟩ := ho
  obtain ⟨v, hv, a, rfl, hl, _⟩ := R.hold x _ hx
  rw [hm] at hv; cases hv
  exact ⟨xs, hl⟩
theorem Rel.tup_own (R : Rel prog w H0 env h m σ dk) {b : Addr} {o : Obj} (ho : h.get? b = some o) (hc : o.cls = .type "tuple") : ¬ OwnA m σ b := fun q => by
  obtain ⟨xs, vs, ⟨n, p⟩, _⟩ := R.own_lst q
  rw [ho] at p; cases p
  exact absurd (show Value.type "list" = Value.type "tuple" from hc) (by decide)
variable {h' : Heap} {m' : Vals} {σ' : Sto} {dk' : Dk}
theorem Rel.step_tup (R : Rel prog w H0 env h m σ dk) (st : Step env h m σ dk h' m' σ' dk') : StaysTup h h' := by
  intro b o vs n ho hc hd
  obtain ⟨t1, t2, t3⟩ := R.tup_not ho hd
  refine st.get b o ho ?_
  rintro (q | q | q | q)
  · exact t1 q
  · exact t3 q
  · exact R.tup_own ho hc q
  · exact t2 q
end
noncomputable def entOf (own : Bool) : Res → Option Ent
  | .dat d => some (.dat d)
  | .lst .fresh xs => some (.lst own xs)
  | .lst .safe xs => some (.lst false xs)
  | .cost true dx ps ds => some (.cost dx ps ds)
  | _ => .none
theorem fits_of_vl {env : Env} {h₀ h : Heap} {m : Vals} {σ : Sto} {dk₀ dk : Dk} {x : Str} {v : Value} {ρ : Res} {e : Ent} {own : Bool} (R₀ : Rel prog w H0 env h₀ m σ dk₀) (R : Rel prog w H0 env h m σ dk) (K : KeepE m dk₀ dk h₀ h) (hx : x ≠ deckName)
    (hv : Vl prog w m σ h₀ h v ρ) (he : entOf own ρ = some e) : Fits env h m σ dk x v e H0 ∧ ((∃ xs, e = .lst true xs) → ∀ b, v = .ref b → h₀.get? b = .none) := by
  have newL : ∀ a, h₀.get? a = .none → a ≠ env.locals := fun a ha q => by subst q; obtain ⟨_, ⟨_, _, _, ho, _⟩, _⟩ := R₀.frm.ns; rw [ha] at ho; cases ho
  have newm : ∀ a, h₀.get? a = .none → ∀ y e', σ y = some e' → m y ≠ some (.ref a) := fun a ha y e' hy q => by
    obtain ⟨u, hu, hh⟩ := R₀.hold y e' hy
    rw [q] at hu; cases hu
    cases e' with
    | dat d => obtain ⟨_, _, _, ho, _⟩ := reads_ref hh; rw [ha] at ho; cases ho
    | lst o xs => obtain ⟨_, e1, ⟨_, ⟨_, ho⟩, _⟩, _⟩ := hh; cases e1; rw [ha] at ho; cases ho
    | cost dx ps ds => obtain ⟨_, e1, _, _, _, _, ho, _⟩ := hh; cases e1; rw [ha] at ho; cases ho
  have newH : ∀ a, h₀.get? a = .none → H0.get? a = .none := fun a ha => R₀.base.dom.none ha
  cases ρ with
  | dat d =>
    cases he
    have nl : ∀ b, v = .ref b → ¬ OwnA m σ b := by
      rintro b rfl
      obtain ⟨o, vs, n, ho, hc, hd⟩ := reads_ref hv
      exact R.tup_own ho hc
    exact ⟨⟨hx, hv, nl, (by rintro ⟨_, q⟩; cases q), (by intro _ _ _ q; cases q), (by rintro _ _ _ _ ⟨_, q⟩; cases q)⟩, (by rintro ⟨_, q⟩; cases q)⟩
  | lst fl xs =>
    obtain ⟨a, rfl, hl, hf, hs⟩ := hv
    cases fl with
    | ownd => cases he
    | fresh =>
      cases he
      have ha := hf rfl
      refine ⟨⟨hx, ⟨a, rfl, hl, fun _ => newH a ha⟩, ?_, fun _ y e' hy q => newm a ha y e' hy q, (by intro _ _ _ q; cases q), ?_⟩, fun _ b q => by cases q; exact ha⟩
      · rintro b q ⟨y, ys, hy, hm⟩; cases q; exact newm a ha y _ hy hm
      · intro l c t hdk _ q
        cases q
        have e := K.dkl
        rw [hdk] at e
        obtain ⟨⟨l', c', t'⟩, hdk', e'⟩ := Option.map_eq_some_iff.mp e.symm
        have e'' : l' = a := e'
        subst e''
        obtain ⟨_, _, ⟨_, _, hl'⟩, _⟩ := R₀.dek l' c' t' hdk'
        obtain ⟨_, ⟨_, e⟩, _⟩ := hl'
        rw [ha] at e; cases e
    | safe =>
      cases he
      exact ⟨⟨hx, ⟨a, rfl, hl, (by intro q; cases q)⟩, fun b q => by cases q; exact hs rfl, (by rintro ⟨_, q⟩; cases q), (by intro _ _ _ q; cases q), (by rintro _ _ _ _ ⟨_, q⟩; cases q)⟩, (by rintro ⟨_, q⟩; cases q)⟩
  | deck => cases he
  | cost fr dx ps ds =>
    cases fr with
    | false => cases he
    | true =>
      cases he
      obtain ⟨a, rfl, hc, hf⟩ := hv
      obtain ⟨ha, hdx⟩ := hf rfl
      refine ⟨⟨hx, ⟨a, rfl, hc⟩, ?_, (by rintro ⟨_, q⟩; cases q), ?_, (by rintro _ _ _ _ ⟨_, q⟩; cases q)⟩, (by rintro ⟨_, q⟩; cases q)⟩
      · rintro b q ⟨y, ys, hy, hm⟩; cases q; exact newm a ha y _ hy hm
      · intro dx' ps' ds' q; cases q; exact newL _ hdx
end
end
section -- Core9
section
variable {prog : Program} {w : World} {H0 : Heap} {k : Nat} {env : Env} {σ : Sto} {dk : Dk} {K : Out → Prop}
noncomputable abbrev kAsg (own : Bool) (σ : Sto) (x : Str) (K : Out → Prop) (ρ : Res) (dk₁ : Dk) : Prop := ∃ e, entOf own ρ = some e ∧ K (.next (σ.set x e) dk₁)
theorem S.assign {x : Str} {p pos : Pos} {value : Expr} (own : Bool) (V : EnvOk env) (hk : Kind env x) (hx : x ≠ deckName)
    (h : E prog w H0 k env σ dk (eval value env) (kAsg own σ x K)) (hs : swapsWith value (some (.Name x p)) pos.line env = pure false := by rfl) :
    S prog w H0 k env σ dk (exec (.Assign [.Name x p] value pos) env) K := by
  intro A s m ok R Q X hQ
  refine wpAny_Assign_Name (h A s m ok R _ _ ?_) hs
  rintro v h₁ tk₁ ρ dk₁ ⟨e, he, hK⟩ R₁ K₁ V₁
  obtain ⟨F, hf⟩ := fits_of_vl R R₁ K₁ hx V₁ he
  exact store_step V R₁ hk F K₁.step hf fun h' tk R' st _ _ _ => hQ _ h' tk _ hK ⟨rfl, _, R', st⟩
noncomputable abbrev kAug (σ : Sto) (x : Str) (a : Int) (K : Out → Prop) (ρ : Res) (dk₁ : Dk) : Prop := ∃ b, ρ = .dat (.int b) ∧ K (.next (σ.set x (.dat (.int (a + b)))) dk₁)
theorem S.augAdd {x : Str} {p pos : Pos} {value : Expr} {a : Int} (V : EnvOk env) (hk : env.kindOf x = some .local) (hx : x ≠ deckName) (hσ : σ x = some (.dat (.int a)))
    (h : E prog w H0 k env σ dk (eval value env) (kAug σ x a K)) :
    S prog w H0 k env σ dk (exec (.AugAssign (.Name x p) .Add value pos) env) K := by
  intro A s m ok R Q X hQ
  obtain ⟨v, hv, hh⟩ := R.hold x _ hσ
  obtain ⟨t, rfl, _⟩ := reads_int_inv hh
  obtain ⟨mL, hn, hm⟩ := R.frm.ns
  refine wpAny_AugAssign_Name (wpAny_loadName_local V.fn hk hn ((hm x hk).trans hv) (h A s m ok R _ _ ?_))
  rintro v₁ h₁ tk₁ ρ dk₁ ⟨b, rfl, hK⟩ R₁ K₁ V₁
  obtain ⟨u, rfl, _⟩ := reads_int_inv V₁
  refine wpAny_iadd_int ?_
  obtain ⟨F, hf⟩ := fits_of_vl (ρ := .dat (.int (a + b))) (v := .int (a + b) tk₁) (own := false) R R₁ K₁ hx (.int ..) rfl
  exact store_step (s := ⟨h₁, s.gens, s.drawn, tk₁ + 1, s.os⟩) V R₁ (.inl hk) F K₁.step hf fun h' tk R' st _ _ _ => hQ _ h' tk _ hK ⟨rfl, _, R', st⟩
noncomputable def NoCost (σ : Sto) : Prop := ∀ x dx ps ds, σ x ≠ some (.cost dx ps ds)
noncomputable def Ent.noCost : Ent → Bool
  | .cost .. => false
  | _ => true
theorem NoCost.set {σ : Sto} {x : Str} {e : Ent} (h : NoCost σ) (he : e.noCost = true) : NoCost (σ.set x e) := by
  intro y dx ps ds q
  unfold Sto.set at q
  split at q
  · cases q; cases he
  · exact h y dx ps ds q
/-- an own list changes -/
theorem own_change {h h' : Heap} {m : Vals} {D : Addr} {x : Str} {xs ys : List PyData} (R : Rel prog w H0 env h m σ dk) (hx : σ x = some (.lst true xs)) (hm : m x = some (.ref D)) (hs : Heap.SameBut D h h') (hl : Lst h' D ys) (hc : NoCost σ) :
    Rel prog w H0 env h' m (σ.set x (.lst true ys)) dk ∧ Step env h m σ dk h' m (σ.set x (.lst true ys)) dk := by
  have hO : OwnA m σ D := ⟨x, xs, hx, hm⟩
  obtain ⟨_, vs0, ⟨n0, p0⟩, _⟩ := R.own_lst hO
  obtain ⟨t1, t2, t3⟩ := R.tup_not p0 rfl
  have get : ∀ b o, b ≠ D → h.get? b = some o → h'.get? b = some o := fun b o hb ho => (hs.2 b hb).trans ho
  have st : StaysTup h h' := fun b o vs n ho hcl hd => get b o (by rintro rfl; exact R.tup_own ho hcl hO) ho
  have hD0 : H0.get? D = none := by
    obtain ⟨v, hv, a, rfl, _, h0⟩ := R.hold x _ hx
    rw [hm] at hv; cases hv; exact h0 rfl
  have own' : ∀ b, OwnA m (σ.set x (.lst true ys)) b → OwnA m σ b := by
    rintro b ⟨y, zs, hy, hv⟩
    by_cases q : y = x
    · subst q; exact ⟨y, xs, hx, hv⟩
    · rw [Sto.set_ne _ _ q] at hy; exact ⟨y, zs, hy, hv⟩
  have dm : Dom h h' := fun b o ho => by
    by_cases q : b = D
    · subst q; obtain ⟨_, ⟨_, e⟩, _⟩ := hl; exact ⟨_, e⟩
    · exact ⟨o, get b o q ho⟩
  have dict : ∀ b o es n, h.get? b = some o → o.data = .dict es n → b ≠ D := by
    rintro b o es n ho hd rfl
    rw [p0] at ho; cases ho; cases hd
  refine ⟨⟨fun b o ho => get b o (by rintro rfl; rw [hD0] at ho; cases ho) (R.base b o ho), ?_, R.newL, R.newC, ?_, ?_, ?_, ?_⟩, ⟨fun b o ho n => get b o (by rintro rfl; exact n (.inr (.inr (.inl hO)))) ho, dm, fun b q => .inl (own' b q), fun q => ⟨q, rfl⟩, fun b q => .inl q⟩⟩
  · refine ⟨?_, fun y c hy hc' => ?_⟩
    · obtain ⟨mL, hn, hm'⟩ := R.frm.ns
      exact ⟨mL, hn.sameBut hs (Ne.symm t1), hm'⟩
    · exact (R.frm.cl y c hy hc').sameBut hs (by rintro rfl; exact t3 ⟨y, hy, hc'⟩)
  · intro y e hy
    by_cases q : y = x
    · subst q
      rw [Sto.set_same] at hy; cases hy
      exact ⟨_, hm, D, rfl, hl, fun _ => hD0⟩
    · rw [Sto.set_ne _ _ q] at hy
      obtain ⟨v, hv, hh⟩ := R.hold y e hy
      refine ⟨v, hv, ?_⟩
      cases e with
      | dat d => exact reads_tup st hh
      | cost dx ps ds => exact absurd hy (hc y dx ps ds)
      | lst own zs =>
        obtain ⟨a, rfl, ⟨vs, ⟨n, p⟩, r⟩, h0⟩ := hh
        have : a ≠ D := by
          rintro rfl
          exact q (R.own x xs hx a hm y _ hy hv)
        exact ⟨a, rfl, ⟨vs, ⟨n, get _ _ this p⟩, readsAll_tup st r⟩, h0⟩
  · intro y zs hy a hma z e' hz' hz
    have hz2 : ∃ e2, σ z = some e2 := by
      by_cases q : z = x
      · subst q; exact ⟨_, hx⟩
      · rw [Sto.set_ne _ _ q] at hz'; exact ⟨e', hz'⟩
    obtain ⟨e2, hz2⟩ := hz2
    by_cases q : y = x
    · subst q; exact R.own y xs hx a hma z e2 hz2 hz
    · rw [Sto.set_ne _ _ q] at hy; exact R.own y zs hy a hma z e2 hz2 hz
  · intro y dx ps ds hy
    by_cases q : y = x
    · subst q; rw [Sto.set_same] at hy; cases hy
    · rw [Sto.set_ne _ _ q] at hy; exact R.cst y dx ps ds hy
  · intro l c t hdk
    obtain ⟨a, h1, ⟨tok, hd, vs, ⟨n, p⟩, r⟩, h3, h4, h5⟩ := R.dek l c t hdk
    have ha : a ≠ D := by obtain ⟨o, es, ep, ho, _, hd', _⟩ := id hd; exact dict a o es ep ho hd'
    have hl' : l ≠ D := by rintro rfl; exact h5 hO
    exact ⟨a, h1, ⟨tok, hd.sameBut hs ha, vs, ⟨n, get _ _ hl' p⟩, readsAll_tup st r⟩, h3, h4, fun q => h5 (own' l q)⟩
theorem interactive_fn (V : EnvOk env) : interactive env = false := by unfold interactive; rw [V.fn]; rfl
/-- x.append(e) -/
noncomputable abbrev kApp (σ : Sto) (x : Str) (xs : List PyData) (K : Out → Prop) (ρ : Res) (dk₁ : Dk) : Prop := ∃ d, ρ = .dat d ∧ K (.next (σ.set x (.lst true (xs ++ [d]))) dk₁)
theorem S.append {x : Str} {p ap cp pos : Pos} {e : Expr} {xs : List PyData} (V : EnvOk env) (hk : env.kindOf x = some .local) (hσ : σ x = some (.lst true xs)) (hc : NoCost σ) (hlen : xs.length ≤ 10000)
    (h : E prog w H0 k env σ dk (eval e env) (kApp σ x xs K))
    (hn : noStar [e] = true := by rfl) (hl : (ap.endLine == cp.line) = true := by rfl)
    (ha : attributeBase (.Name x p) (Str.ofString "append") env (eval (.Name x p) env) = eval (.Name x p) env := by rfl)
    (hs : swapsWith (.Call (.Attribute (.Name x p) (Str.ofString "append") ap) [e] [] cp) .none pos.line env = pure false := by rfl)
    (hd : (x == ("__debug__" : Str)) = false := by decide) :
    S prog w H0 k env σ dk (exec (.Expr (.Call (.Attribute (.Name x p) (Str.ofString "append") ap) [e] [] cp) pos) env) K := by
  intro A s m ok R Q X hQ
  have he : starEach [e] env = [(false, eval e env)] := starEach_plain fun a q z => by subst z; cases hn
  have hb : backTo cp (starEach [e] env) = [(false, eval e env)] := by rw [he]; rfl
  obtain ⟨v, hv, D, rfl, ⟨vs, ⟨n, pl⟩, r⟩, h0⟩ := R.hold x _ hσ
  obtain ⟨mL, hns, hm⟩ := R.frm.ns
  refine wpAny_Expr (wpAny_Call_append ha (by rw [hb]; rfl) hl hb (wpAny_Name (wpAny_loadName_local V.fn hk hns ((hm x hk).trans hv) ⟨D, vs, rfl, ⟨_, n, pl, rfl, rfl, rfl⟩, h A s m ok R _ _ ?_⟩) hd)) (interactive_fn V) hs
  rintro v₁ h₁ tk₁ ρ dk₁ ⟨d, rfl, hK⟩ R₁ K₁ V₁
  obtain ⟨v', hv', D', e', ⟨vs', p', r'⟩, _⟩ := R₁.hold x _ hσ
  rw [hv] at hv'; cases hv'; cases e'
  have hl1 := readsAll_length r'
  rw [Array.length_toList] at hl1
  refine wpAny_list_append_plain (hsz := by rw [hl1, sizeLine_eq]; omega) p' fun h' p'' sb => ?_
  show Q .next _
  have hO : OwnA m σ D := ⟨x, xs, hσ, hv⟩
  have st : StaysTup h₁ h' := fun b o vs n ho hcl hd => (sb.2 b (by rintro rfl; exact R₁.tup_own ho hcl hO)).trans ho
  have hr : ReadsAll h' (vs'.push v₁).toList (xs ++ [d]) [] := by
    rw [Array.toList_push]
    exact readsAll_append (readsAll_tup st r') (readsAll_cons (reads_tup st V₁) .nil)
  obtain ⟨R', st'⟩ := own_change (ys := xs ++ [d]) R₁ hσ hv sb ⟨vs'.push v₁, p'', hr⟩ hc
  exact hQ .next h' tk₁ _ hK ⟨rfl, m, R', K₁.step.trans st'⟩
/-- where x[k] = v lands -/
noncomputable def setAt (xs : List PyData) (k : Int) (d : PyData) : List PyData := if 0 ≤ k then xs.set k.toNat d else xs.set (k + xs.length).toNat d
/-- x[i] = v, x a local or a cell -/
noncomputable abbrev kSet2 (σ : Sto) (x : Str) (xs : List PyData) (d : PyData) (K : Out → Prop) (ρ₂ : Res) (dk₂ : Dk) : Prop := ∃ j, ρ₂ = .dat (.int j) ∧ -(xs.length : Int) ≤ j ∧ j < xs.length ∧ K (.next (σ.set x (.lst true (setAt xs j d))) dk₂)
noncomputable abbrev kSet (prog : Program) (w : World) (H0 : Heap) (k : Nat) (env : Env) (σ : Sto) (i : Expr) (x : Str) (xs : List PyData) (K : Out → Prop) (ρ : Res) (dk₁ : Dk) : Prop := ∃ d, ρ = .dat d ∧ E prog w H0 k env σ dk₁ (eval i env) (kSet2 σ x xs d K)
theorem S.setItem {x : Str} {p sp pos : Pos} {i value : Expr} {xs : List PyData} (V : EnvOk env) (hk : Kind env x) (hσ : σ x = some (.lst true xs)) (hc : NoCost σ) (hlen : xs.length ≤ 10000)
    (h : E prog w H0 k env σ dk (eval value env) (kSet prog w H0 k env σ i x xs K))
    (hs : swapsWith value (some (.Subscript (.Name x p) i sp)) pos.line env = pure false := by rfl)
    (hd : (x == ("__debug__" : Str)) = false := by decide) :
    S prog w H0 k env σ dk (exec (.Assign [.Subscript (.Name x p) i sp] value pos) env) K := by
  intro A s m ok R Q X hQ
  refine wpAny_Assign_Subscript (h A s m ok R _ _ ?_) hs
  rintro v₁ h₁ tk₁ ρ dk₁ ⟨d, rfl, hE⟩ R₁ K₁ V₁
  obtain ⟨v, hv, D, rfl, _⟩ := R₁.hold x _ hσ
  have name : ∀ (Q' : Value → Shared → Prop), Q' (.ref D) ⟨h₁, s.gens, s.drawn, tk₁, s.os⟩ → wpAny (model prog w) A (eval (.Name x p) env) Q' X ⟨h₁, s.gens, s.drawn, tk₁, s.os⟩ := by
    intro Q' hq
    rcases hk with hk | ⟨hk, c, hc'⟩
    · obtain ⟨mL, hns, hm⟩ := R₁.frm.ns
      exact wpAny_Name (wpAny_loadName_local V.fn hk hns ((hm x hk).trans hv) hq) hd
    · have := R₁.frm.cl x c hk hc'
      rw [hv] at this
      exact wpAny_Name (wpAny_loadName_cell V.fn hk hc' this hq) hd
  refine name _ (hE A _ m ok R₁ _ _ ?_)
  rintro v₂ h₂ tk₂ ρ₂ dk₂ ⟨j, rfl, hlo, hhi, hK⟩ R₂ K₂ V₂
  obtain ⟨u, rfl, _⟩ := reads_int_inv V₂
  obtain ⟨v', hv', D', e', ⟨vs', p', r'⟩, _⟩ := R₂.hold x _ hσ
  rw [hv] at hv'; cases hv'; cases e'
  have hl1 := readsAll_length r'
  rw [Array.length_toList] at hl1
  have V₁' : Reads h₂ v₁ d [] := Vl.keep (ρ := .dat d) (hz := h₁) R₁ K₂ rfl V₁
  have hO : OwnA m σ D := ⟨x, xs, hσ, hv⟩
  have fin : ∀ (q : Nat) (h' : Heap), h'.PlainList D (vs'.setIfInBounds q v₁) → Heap.SameBut D h₂ h' → setAt xs j d = xs.set q d → Q .next ⟨h', s.gens, s.drawn, tk₂, s.os⟩ := by
    intro q h' pl sb eq
    have st : StaysTup h₂ h' := fun b o vs n ho hcl hd => (sb.2 b (by rintro rfl; exact R₂.tup_own ho hcl hO)).trans ho
    obtain ⟨R', st'⟩ := own_change (ys := xs.set q d) R₂ hσ hv sb ⟨_, pl, by rw [Array.toList_setIfInBounds]; exact readsAll_set (reads_tup st V₁') (readsAll_tup st r') q⟩ hc
    rw [eq] at hK
    exact hQ .next h' tk₂ _ hK ⟨rfl, m, R', (K₁.trans K₂).step.trans st'⟩
  by_cases h0 : 0 ≤ j
  · exact set_plain_pos p' h0 (by omega) (by omega) fun h' pl sb => fin _ h' pl sb (by unfold setAt; rw [if_pos h0])
  · exact set_plain_neg p' (by omega) (by omega) (by omega) fun h' pl sb => fin _ h' pl sb (by unfold setAt; rw [if_neg h0, hl1])
end
end
section -- Core10
section
variable {prog : Program} {w : World} {H0 : Heap}
/-- store trees and their names -/
inductive Binds (env : Env) : List (Value → Sem Unit) → List Str → Prop
  | nil : Binds env [] []
  | cons {t : Value → Sem Unit} {x : Str} {ts : List (Value → Sem Unit)} {xs : List Str} :
    (∀ (M : Model) (A : Around) (X : Value → Shared → Prop) (s : Shared) (v : Value) (Q : Unit → Shared → Prop), wpAny M A (storeName env x v) Q X s → wpAny M A (t v) Q X s) → Binds env ts xs → Binds env (t :: ts) (x :: xs)
noncomputable def Ent.own : Ent → Bool
  | .lst true _ => true
  | _ => false
theorem Ent.own_iff {e : Ent} : e.own = true ↔ ∃ xs, e = .lst true xs := by
  constructor
  · intro h
    cases e with
    | lst o xs => cases o <;> simp_all [Ent.own]
    | _ => simp [Ent.own] at h
  · rintro ⟨xs, rfl⟩; rfl
noncomputable def setAll (σ : Sto) : List Str → List Ent → Sto
  | x :: xs, e :: es => setAll (σ.set x e) xs es
  | _, _ => σ
structure FitsAll (env : Env) (h₀ h : Heap) (m : Vals) (σ : Sto) (dk : Dk) (xs : List Str) (vs : List Value) (es : List Ent) (H0 : Heap) : Prop where
  len1 : vs.length = xs.length
  len2 : es.length = xs.length
  fit : ∀ (i : Nat) (x : Str) (v : Value) (e : Ent), xs[i]? = some x → vs[i]? = some v → es[i]? = some e → Fits env h m σ dk x v e H0 ∧ (e.own = true → ∀ b, v = .ref b → h₀.get? b = .none) ∧ e.noCost = true ∧ Kind env x
  apart : ∀ (i j : Nat) (v u : Value) (e f : Ent), i ≠ j → vs[i]? = some v → vs[j]? = some u → es[i]? = some e → es[j]? = some f → e.own = true → v ≠ u
theorem assignInOrder_cons {M : Model} {A : Around} {X : Value → Shared → Prop} {s : Shared} {t : Value → Sem Unit} {ts : List (Value → Sem Unit)} {v : Value} {vs : List Value} {Q : Unit → Shared → Prop}
    (h : wpAny M A (t v) (fun _ s' => wpAny M A (assignInOrder ts vs) Q X s') X s) : wpAny M A (assignInOrder (t :: ts) (v :: vs)) Q X s := by
  show wpAny M A (do holding vs (t v); assignInOrder ts vs) Q X s
  exact wpAny_bind (wpAny_holding h)
theorem store_all {A : Around} {X : Value → Shared → Prop} {env : Env} {h₀ : Heap} {m₀ : Vals} {σ₀ : Sto} {dk₀ dk : Dk} (V : EnvOk env) : ∀ (xs : List Str) (ts : List (Value → Sem Unit)) (vs : List Value) (es : List Ent) (s : Shared) (m : Vals) (σ : Sto) (Q : Unit → Shared → Prop),
    Binds env ts xs → Rel prog w H0 env s.heap m σ dk → Step env h₀ m₀ σ₀ dk₀ s.heap m σ dk → FitsAll env h₀ s.heap m σ dk xs vs es H0 →
    (∀ h' tk m', Rel prog w H0 env h' m' (setAll σ xs es) dk → Step env h₀ m₀ σ₀ dk₀ h' m' (setAll σ xs es) dk → Q () ⟨h', s.gens, s.drawn, tk, s.os⟩) →
    wpAny (model prog w) A (assignInOrder ts vs) Q X s := by
  intro xs
  induction xs with
  | nil =>
    intro ts vs es s m σ Q B R St F hQ
    cases B
    have e1 : vs = [] := List.length_eq_zero_iff.mp F.len1
    subst e1
    exact wpAny_pure (hQ s.heap s.toks m R St)
  | cons x xs ih =>
    intro ts vs es s m σ Q B R St F hQ
    cases B with
    | cons hb B =>
      obtain ⟨l1, l2, fit, ap⟩ := F
      match vs, es, l1, l2 with
      | v :: vs, e :: es, l1, l2 =>
        obtain ⟨F0, hf, hnc, hk⟩ := fit 0 x v e rfl rfl rfl
        refine assignInOrder_cons (hb _ _ _ _ _ _ (store_step V R hk F0 St (fun q => hf (Ent.own_iff.mpr q)) fun h' tk R' St' seq hsz _ => ?_))
        refine ih _ vs es _ (setV m x v) (σ.set x e) Q B R' St' ⟨Nat.succ.inj l1, Nat.succ.inj l2, fun i y u f hy hu hf' => ?_, fun i j a b c d hij ha hb hc hd => ap (i + 1) (j + 1) a b c d (by omega) ha hb hc hd⟩ fun h'' tk' m' R'' St'' => hQ h'' tk' m' R'' St''
        obtain ⟨F1, hf1, hnc1, hk1⟩ := fit (i + 1) y u f hy hu hf'
        have vu : e.own = true → v ≠ u := ap 0 (i + 1) v u e f (by omega) rfl hu rfl hf'
        have uv : f.own = true → u ≠ v := ap (i + 1) 0 u v f e (by omega) hu rfl hf' rfl
        have mdeck : setV m x v deckName = m deckName := setV_ne _ _ (Ne.symm F0.name)
        have ownSame : ∀ c, OwnA (setV m x v) (σ.set x e) c → OwnA m σ c ∨ e.own = true ∧ v = .ref c := by
          rintro c ⟨y', zs, hy', hv'⟩
          by_cases q : y' = x
          · subst q
            rw [Sto.set_same] at hy'; rw [setV_same] at hv'
            cases hy'; cases hv'
            exact .inr ⟨rfl, rfl⟩
          · rw [Sto.set_ne _ _ q] at hy'; rw [setV_ne _ _ q] at hv'
            exact .inl ⟨y', zs, hy', hv'⟩
        refine ⟨⟨F1.name, ?_, ?_, ?_, F1.cst, F1.nDl⟩, hf1, hnc1, hk1⟩
        · have hh := F1.hold
          cases f with
          | dat d => exact reads_seq seq hh
          | lst o zs => obtain ⟨a, q1, q2, q3⟩ := hh; exact ⟨a, q1, q2.seq seq, q3⟩
          | cost => cases hnc1
        · intro b q z
          rcases ownSame b z with z | ⟨z1, z2⟩
          · exact F1.nO b q z
          · exact vu z1 (z2.trans q.symm)
        · intro q z e' hze hz
          by_cases q' : z = x
          · subst q'
            rw [setV_same] at hz
            exact uv (Ent.own_iff.mpr q) (Option.some.inj hz).symm
          · rw [setV_ne _ _ q'] at hz
            rw [Sto.set_ne _ _ q'] at hze
            exact F1.one q z e' hze hz
/-- several trees, one behind the other, lists among them -/
noncomputable def Er (prog : Program) (w : World) (H0 : Heap) (k : Nat) (env : Env) (σ : Sto) : List Expr → Dk → List Res → (List Res → Dk → Prop) → Prop
  | [], dk, acc, P => P acc dk
  | e :: r, dk, acc, P => E prog w H0 k env σ dk (eval e env) fun ρ dk₁ => ρ.calm = true ∧ Er prog w H0 k env σ r dk₁ (acc ++ [ρ]) P
structure Vls (prog : Program) (w : World) (m : Vals) (σ : Sto) (hz h : Heap) (vs : List Value) (ρs : List Res) : Prop where
  len : vs.length = ρs.length
  val : ∀ (i : Nat) (v : Value) (ρ : Res), vs[i]? = some v → ρs[i]? = some ρ → ρ.calm = true ∧ Vl prog w m σ hz h v ρ
  apart : ∀ (i j : Nat) (v u : Value) (xs : List PyData), i < j → vs[i]? = some v → vs[j]? = some u → ρs[j]? = some (.lst .fresh xs) → v ≠ u
theorem Vl.lt {m : Vals} {σ : Sto} {hz h : Heap} {b : Addr} : ∀ {ρ : Res}, Vl prog w m σ hz h (.ref b) ρ → ∃ o, h.get? b = some o := by
  intro ρ y0
  cases ρ with
  | dat d0 => obtain ⟨_, _, _, ho, _⟩ := reads_ref y0; exact ⟨_, ho⟩
  | lst f0 xs0 => obtain ⟨a, e, ⟨_, ⟨_, x⟩, _⟩, _⟩ := y0; cases e; exact ⟨_, x⟩
  | deck l0 c0 t0 => obtain ⟨a, e, ⟨_, ⟨_, _, _, x, _⟩, _⟩, _⟩ := y0; cases e; exact ⟨_, x⟩
  | cost r0 dx0 ps0 ds0 => obtain ⟨a, e, ⟨_, _, _, _, h1, _⟩, _⟩ := y0; cases e; exact ⟨_, h1⟩
theorem Vls.nil {m : Vals} {σ : Sto} {hz h : Heap} : Vls prog w m σ hz h [] [] := ⟨rfl, (by intro i v ρ q; cases q), (by intro i j v u xs _ q; cases q)⟩
section
variable {k : Nat} {env : Env} {σ : Sto} {dk : Dk}
theorem er_spliced {m : Vals} {A : Around} {X : Value → Shared → Prop} (ok : Okay k A) {pos : Pos} : ∀ (es : List Expr) (dk : Dk) (acc : List Res) (accV : List Value) (s : Shared) (hz : Heap) (P : List Res → Dk → Prop) (Q : List Value → Shared → Prop), noStar es = true →
    Er prog w H0 k env σ es dk acc P → Rel prog w H0 env s.heap m σ dk → Vls prog w m σ hz s.heap accV acc → Dom hz s.heap →
    (∀ vs h' tk ρs dk', P ρs dk' → Rel prog w H0 env h' m σ dk' → KeepE m dk dk' s.heap h' → Vls prog w m σ hz h' (accV ++ vs) ρs → Q vs ⟨h', s.gens, s.drawn, tk, s.os⟩) →
    wpAny (model prog w) A (spliced (backTo pos (starEach es env))) Q X s := by
  intro es
  induction es with
  | nil =>
    intro dk acc accV s hz P Q _ hE R ra hsz hQ
    exact args_nil (hQ [] s.heap s.toks acc dk hE R .refl (by simpa using ra))
  | cons e r ih =>
    intro dk acc accV s hz P Q hn hE R ra hsz hQ
    have hn' : noStar r = true := by cases e <;> first | exact hn | cases hn
    have he : starEach (e :: r) env = (false, eval e env) :: starEach r env := starEach_plain fun a p q => by subst q; cases hn
    refine args_cons (hE A s m ok R _ _ ?_) he
    rintro v h₁ tk₁ ρ dk₁ ⟨hc, hP⟩ R₁ K₁ V₁
    have ra₁ : Vls prog w m σ hz h₁ (accV ++ [v]) (acc ++ [ρ]) := by
      have lt : ∀ (i : Nat) (u : Value), accV[i]? = some u → i < accV.length := fun i u q => (List.getElem?_eq_some_iff.mp q).1
      refine ⟨by rw [List.length_append, List.length_append, ra.len]; rfl, ?_, ?_⟩
      · intro i u ρ' hu hρ
        by_cases q : i < accV.length
        · rw [List.getElem?_append_left q] at hu
          rw [List.getElem?_append_left (by rw [← ra.len]; exact q)] at hρ
          obtain ⟨c1, c2⟩ := ra.val i u ρ' hu hρ
          exact ⟨c1, Vl.keep R K₁ c1 c2⟩
        · rw [List.getElem?_append_right (by omega)] at hu
          rw [List.getElem?_append_right (by rw [← ra.len]; omega)] at hρ
          have : i - accV.length = 0 := by
            by_cases z : i - accV.length = 0
            · exact z
            · obtain ⟨n, hn⟩ := Nat.exists_eq_succ_of_ne_zero z
              rw [hn] at hu; cases hu
          rw [this] at hu; cases hu
          rw [← ra.len, this] at hρ; cases hρ
          exact ⟨hc, V₁.later hsz⟩
      · intro i j u u' xs hij hu hu' hρ
        by_cases q : j < accV.length
        · rw [List.getElem?_append_left (by omega)] at hu
          rw [List.getElem?_append_left q] at hu'
          rw [List.getElem?_append_left (by rw [← ra.len]; exact q)] at hρ
          exact ra.apart i j u u' xs hij hu hu' hρ
        · rw [List.getElem?_append_right (by omega)] at hu'
          rw [List.getElem?_append_right (by rw [← ra.len]; omega)] at hρ
          have : j - accV.length = 0 := by
            by_cases z : j - accV.length = 0
            · exact z
            · obtain ⟨n, hn⟩ := Nat.exists_eq_succ_of_ne_zero z
              rw [hn] at hu'; cases hu'
          rw [this] at hu'; cases hu'
          rw [← ra.len, this] at hρ; cases hρ
          have hi : i < accV.length := by omega
          rw [List.getElem?_append_left hi] at hu
          obtain ⟨a, rfl, hl, hf, _⟩ := V₁
          rintro rfl
          obtain ⟨c1, c2⟩ := ra.val i (.ref a) (acc[i]'(by rw [← ra.len]; exact hi)) hu (List.getElem?_eq_getElem (by rw [← ra.len]; exact hi))
          obtain ⟨o, ho⟩ := Vl.lt c2
          rw [hf rfl] at ho; cases ho
    refine ih dk₁ (acc ++ [ρ]) (accV ++ [v]) _ hz P _ hn' hP R₁ ra₁ (hsz.trans K₁.dom) fun vs h' tk ρs dk' hp R' K' ra' => ?_
    exact hQ (v :: vs) h' tk ρs dk' hp R' (K₁.trans K') (by simpa using ra')
end
end
end
section -- Core11
section
variable {prog : Program} {w : World} {H0 : Heap} {k : Nat} {env : Env} {σ : Sto} {dk : Dk} {K : Out → Prop}
/-- the names of a tuple target -/
noncomputable def namesOf : List Expr → Option (List Str)
  | [] => some []
  | .Name x _ :: r => (namesOf r).map (x :: ·)
  | _ :: _ => .none
theorem binds_of : ∀ {elts : List Expr} {xs : List Str}, namesOf elts = some xs → Binds env ((assignEach elts env).map (·.2)) xs ∧ (assignEach elts env).length = elts.length ∧ (assignEach elts env).findIdx? (·.1) = .none ∧ xs.length = elts.length
  | [], xs, h => by cases h; exact ⟨.nil, rfl, rfl, rfl⟩
  | e :: r, xs, h => by
    cases e with
    | Name x p =>
      obtain ⟨ys, hy, rfl⟩ := Option.map_eq_some_iff.mp h
      obtain ⟨b, l, f, n⟩ := binds_of hy
      have e1 : assignEach (.Name x p :: r) env = (false, assign (.Name x p) env) :: assignEach r env := rfl
      rw [e1]
      refine ⟨.cons (fun M A X s v Q hq => wpAny_assign_Name hq) b, by rw [List.length_cons, l]; rfl, ?_, by rw [List.length_cons, n]; rfl⟩
      rw [List.findIdx?_cons, f]; rfl
    | _ => cases h
theorem binds_swapped (env : Env) : ∀ xs : List Str, Binds env (xs.map fun n => bindName env n) xs
  | [] => .nil
  | x :: xs => .cons (fun M A X s v Q hq => wpAny_bindName hq) (binds_swapped env xs)
/-- every one a new list or data; or every one data or a list that stands -/
noncomputable def Res.newOk : Res → Bool
  | .dat _ => true
  | .lst .fresh _ => true
  | _ => false
noncomputable def Res.oldOk : Res → Bool
  | .dat _ => true
  | .lst .safe _ => true
  | _ => false
noncomputable def mixOk (ρs : List Res) : Bool := ρs.all Res.newOk || ρs.all Res.oldOk
noncomputable def entsOf : List Bool → List Res → Option (List Ent)
  | [], [] => some []
  | o :: os, ρ :: ρs => match entOf o ρ, entsOf os ρs with
    | some e, some es => some (e :: es)
    | _, _ => .none
  | _, _ => .none
theorem entsOf_get : ∀ {os : List Bool} {ρs : List Res} {es : List Ent}, entsOf os ρs = some es → es.length = ρs.length ∧ ∀ (i : Nat) (e : Ent), es[i]? = some e → ∃ o ρ, ρs[i]? = some ρ ∧ entOf o ρ = some e
  | [], [], es, h => by cases h; exact ⟨rfl, by intro i e q; cases q⟩
  | [], _ :: _, es, h => by cases h
  | _ :: _, [], es, h => by cases h
  | o :: os, ρ :: ρs, es, h => by
    unfold entsOf at h
    split at h
    · rename_i e es' he hes
      cases h
      obtain ⟨l, g⟩ := entsOf_get hes
      refine ⟨by rw [List.length_cons, List.length_cons, l], ?_⟩
      intro i e' q
      cases i with
      | zero => cases q; exact ⟨o, ρ, rfl, he⟩
      | succ i => exact g i e' q
    · cases h
theorem ent_own_fresh {o : Bool} {ρ : Res} {e : Ent} (h : entOf o ρ = some e) (ho : e.own = true) : ∃ xs, ρ = .lst .fresh xs := by
  cases ρ with
  | lst fl xs =>
    cases fl with
    | fresh => exact ⟨xs, rfl⟩
    | safe => cases h; cases ho
    | ownd => cases h
  | dat d => cases h; cases ho
  | deck => cases h
  | cost fr => cases fr <;> cases h; cases ho
theorem fitsAll_of {h₀ h : Heap} {m : Vals} {dk₀ : Dk} (R₀ : Rel prog w H0 env h₀ m σ dk₀) (R : Rel prog w H0 env h m σ dk) (Ke : KeepE m dk₀ dk h₀ h) {xs : List Str} {vs : List Value} {ρs : List Res} {os : List Bool} {es : List Ent}
    (hl : ρs.length = xs.length) (Vs : Vls prog w m σ h₀ h vs ρs) (he : entsOf os ρs = some es) (hm : mixOk ρs = true) (hx : ∀ x ∈ xs, x ≠ deckName ∧ Kind env x) : FitsAll env h₀ h m σ dk xs vs es H0 := by
  obtain ⟨l1, g⟩ := entsOf_get he
  refine ⟨Vs.len.trans hl, l1.trans hl, ?_, ?_⟩
  · intro i x v e hxi hvi hei
    obtain ⟨o, ρ, hρ, heo⟩ := g i e hei
    obtain ⟨c1, c2⟩ := Vs.val i v ρ hvi hρ
    obtain ⟨hn, hk⟩ := hx x (List.mem_of_getElem? hxi)
    obtain ⟨F, hf⟩ := fits_of_vl R₀ R Ke hn c2 heo
    refine ⟨F, fun q => hf (Ent.own_iff.mp q), ?_, hk⟩
    have hmem : ρ ∈ ρs := List.mem_of_getElem? hρ
    cases ρ with
    | cost fr dx ps ds =>
      exfalso
      unfold mixOk at hm
      rcases Bool.or_eq_true_iff.mp hm with q | q <;> exact absurd (List.all_eq_true.mp q _ hmem) (by simp [Res.newOk, Res.oldOk])
    | dat d => cases heo; rfl
    | lst fl xs => cases fl <;> cases heo <;> rfl
    | deck => cases heo
  · intro i j v u e f hij hvi huj hei hfj ho
    obtain ⟨o, ρ, hρ, heo⟩ := g i e hei
    obtain ⟨o', ρ', hρ', heo'⟩ := g j f hfj
    obtain ⟨zs, rfl⟩ := ent_own_fresh heo ho
    obtain ⟨c1, c2⟩ := Vs.val i v _ hvi hρ
    obtain ⟨d1, d2⟩ := Vs.val j u _ huj hρ'
    have hmem := List.mem_of_getElem? hρ
    have hmem' := List.mem_of_getElem? hρ'
    have hnew : Res.newOk ρ' = true := by
      unfold mixOk at hm
      rcases Bool.or_eq_true_iff.mp hm with q | q
      · exact List.all_eq_true.mp q _ hmem'
      · exact absurd (List.all_eq_true.mp q _ hmem) (by simp [Res.oldOk])
    cases ρ' with
    | dat d =>
      obtain ⟨a, rfl, ⟨ws, ⟨n, p⟩, _⟩, _⟩ := c2
      rintro rfl
      obtain ⟨o2, _, _, ho2, hc2, _⟩ := reads_ref d2
      rw [p] at ho2; cases ho2
      exact absurd (show Value.type "list" = Value.type "tuple" from hc2) (by decide)
    | lst fl ys =>
      cases fl with
      | fresh =>
        rcases Nat.lt_or_gt_of_ne hij with q | q
        · exact Vs.apart i j v u ys q hvi huj hρ'
        · exact Ne.symm (Vs.apart j i u v zs q huj hvi hρ)
      | safe => cases hnew
      | ownd => cases hnew
    | deck => cases hnew
    | cost => cases hnew
/-- a, b, .. = (x, y, ..): the stores in their order -/
theorem S.tupNorm {elts es : List Expr} {k1 k2 : Nat} {tp vp pos : Pos} {xs : List Str} (os : List Bool) (V : EnvOk env) (hn : namesOf elts = some xs) (hx : ∀ x ∈ xs, x ≠ deckName ∧ Kind env x)
    (hst : noStar es = true) (hel : es.length = elts.length) (hl1 : es.length ≤ 1000)
    (h : Er prog w H0 k env σ es dk [] fun ρs dk₁ => ∃ ents, ρs.length = es.length ∧ mixOk ρs = true ∧ entsOf os ρs = some ents ∧ K (.next (setAll σ xs ents) dk₁))
    (hs : swapsWithSole [.Tuple elts k1 tp] (.Tuple es k2 vp) pos.line env = pure false) (hw : swappedStores [.Tuple elts k1 tp] (.Tuple es k2 vp) env = pure .none) :
    S prog w H0 k env σ dk (exec (.Assign [.Tuple elts k1 tp] (.Tuple es k2 vp) pos) env) K := by
  intro A s m ok R Q X hQ
  obtain ⟨hb, hlen, hfi, hxl⟩ := binds_of (env := env) hn
  refine Assign_Tuple (wpAny_Tuple_spliced (er_spliced (m := m) ok es dk [] [] s s.heap _ _ hst h R .nil .refl fun vs h₁ tk₁ ρs dk₁ ⟨ents, hρl, hmix, hents, hK⟩ R₁ K₁ Vs => ?_)) hs hw
  rw [List.nil_append] at Vs
  have hvl : vs.length = es.length := Vs.len.trans hρl
  refine ⟨by rw [hvl, sizeLine_eq]; omega, ?_⟩
  have st1 := push_stays h₁ { cls := .type "tuple", data := .seq vs.toArray }
  refine wpAny_assign_Tuple ok.hd (items := vs.toArray) ⟨_, Heap.get?_push_size _ rfl, rfl, _, rfl⟩ (by rw [hlen, List.size_toArray, hvl, hel]) hfi fun h₂ he => ?_
  have st2 : Stays h₁ h₂ := fun b o e => he b o (by
    intro q
    have h9 := Heap.lt_size e
    rw [q] at h9
    change (h₁.push _).objs.size < _ at h9
    rw [Heap.size_push] at h9
    exact absurd h9 (Nat.not_lt.mpr (Nat.le_succ _))) (st1 b o e)
  have R₂ := R₁.stays st2
  have K₂ := K₁.trans (KeepE.of_stays st2)
  have Vs₂ : Vls prog w m σ s.heap h₂ vs ρs := ⟨Vs.len, fun i v ρ a b => let ⟨c1, c2⟩ := Vs.val i v ρ a b; ⟨c1, c2.stays st2⟩, Vs.apart⟩
  have FA := fitsAll_of R R₂ K₂ (xs := xs) (by rw [hρl, hel, hxl]) Vs₂ hents hmix hx
  exact store_all V xs _ _ _ _ m σ _ hb R₂ K₂.step FA fun h' tk m' R' st' => hQ .next h' tk _ hK ⟨rfl, m', R', st'⟩
theorem rev_ne {n i j : Nat} (hi : i < n) (hj : j < n) (h : i ≠ j) : n - 1 - i ≠ n - 1 - j := by omega
/-- a, b = (x, y): the stores from behind -/
theorem S.tupSwap {elts es : List Expr} {k1 k2 : Nat} {tp vp pos : Pos} {xs : List Str} (os : List Bool) (V : EnvOk env) (hx : ∀ x ∈ xs, x ≠ deckName ∧ Kind env x)
    (hst : noStar es = true) (hel : es.length = xs.length) (hl1 : es.length ≤ 1000)
    (h : Er prog w H0 k env σ es dk [] fun ρs dk₁ => ∃ ents, ρs.length = es.length ∧ mixOk ρs = true ∧ entsOf os ρs = some ents ∧ K (.next (setAll σ xs.reverse ents.reverse) dk₁))
    (hs : swapsWithSole [.Tuple elts k1 tp] (.Tuple es k2 vp) pos.line env = pure false) (hw : swappedStores [.Tuple elts k1 tp] (.Tuple es k2 vp) env = pure (some xs)) :
    S prog w H0 k env σ dk (exec (.Assign [.Tuple elts k1 tp] (.Tuple es k2 vp) pos) env) K := by
  intro A s m ok R Q X hQ
  refine Assign_Tuple_swapped (wpAny_Tuple_spliced (er_spliced (m := m) ok es dk [] [] s s.heap _ _ hst h R .nil .refl fun vs h₁ tk₁ ρs dk₁ ⟨ents, hρl, hmix, hents, hK⟩ R₁ K₁ Vs => ?_)) hs hw
  rw [List.nil_append] at Vs
  have hvl : vs.length = es.length := Vs.len.trans hρl
  refine ⟨by rw [hvl, sizeLine_eq]; omega, ?_⟩
  have st1 := push_stays h₁ { cls := .type "tuple", data := .seq vs.toArray }
  have e1 : xs.length = vs.toArray.size := by rw [List.size_toArray, hvl, hel]
  rw [e1]
  refine wpAny_unpackItems_tuple ok.hd (items := vs.toArray) ⟨_, Heap.get?_push_size _ rfl, rfl, _, rfl⟩ fun h₂ he => ?_
  have st2 : Stays h₁ h₂ := fun b o e => he b o (by
    intro q
    have h9 := Heap.lt_size e
    rw [q] at h9
    change (h₁.push _).objs.size < _ at h9
    rw [Heap.size_push] at h9
    exact absurd h9 (Nat.not_lt.mpr (Nat.le_succ _))) (st1 b o e)
  have R₂ := R₁.stays st2
  have K₂ := K₁.trans (KeepE.of_stays st2)
  have Vs₂ : Vls prog w m σ s.heap h₂ vs ρs := ⟨Vs.len, fun i v ρ a b => let ⟨c1, c2⟩ := Vs.val i v ρ a b; ⟨c1, c2.stays st2⟩, Vs.apart⟩
  have FA := fitsAll_of R R₂ K₂ (xs := xs) (by rw [hρl, hel]) Vs₂ hents hmix hx
  have lv : vs.length = xs.length := FA.len1
  have le : ents.length = xs.length := FA.len2
  have FA' : FitsAll env s.heap h₂ m σ dk₁ xs.reverse vs.reverse ents.reverse H0 := by
    refine ⟨by simp [lv], by simp [le], ?_, ?_⟩
    · intro i x v e hxi hvi hei
      have hi : i < xs.length := by have := (List.getElem?_eq_some_iff.mp hxi).1; simpa using this
      rw [List.getElem?_reverse (by omega)] at hxi
      rw [List.getElem?_reverse (by omega)] at hvi
      rw [List.getElem?_reverse (by omega)] at hei
      exact FA.fit (xs.length - 1 - i) x v e hxi (by rw [lv] at hvi; exact hvi) (by rw [le] at hei; exact hei)
    · intro i j v u e f hij hvi huj hei hfj ho
      have hi : i < vs.length := by have := (List.getElem?_eq_some_iff.mp hvi).1; simpa using this
      have hj : j < vs.length := by have := (List.getElem?_eq_some_iff.mp huj).1; simpa using this
      rw [List.getElem?_reverse (by omega)] at hvi
      rw [List.getElem?_reverse (by omega)] at huj
      rw [List.getElem?_reverse (by omega)] at hei
      rw [List.getElem?_reverse (by omega)] at hfj
      exact FA.apart (vs.length - 1 - i) (vs.length - 1 - j) v u e f (rev_ne hi hj hij) hvi huj (by rw [le, ← lv] at hei; exact hei) (by rw [le, ← lv] at hfj; exact hfj) ho
  have : (vs.toArray.toList).reverse = vs.reverse := by simp
  rw [this]
  exact store_all V xs.reverse _ _ _ _ m σ _ (binds_swapped env xs.reverse) R₂ K₂.step FA' fun h' tk m' R' st' => hQ .next h' tk _ hK ⟨rfl, m', R', st'⟩
/-- a, b, .. = t, t a tuple of data -/
theorem S.unpack {elts : List Expr} {k1 : Nat} {tp pos : Pos} {value : Expr} {xs : List Str} (V : EnvOk env) (hn : namesOf elts = some xs) (hx : ∀ x ∈ xs, x ≠ deckName ∧ Kind env x)
    (h : E prog w H0 k env σ dk (eval value env) fun ρ dk₁ => ∃ ds, ρ = .dat (.tuple ds) ∧ ds.length = elts.length ∧ K (.next (setAll σ xs (ds.map .dat)) dk₁))
    (hs : swapsWithSole [.Tuple elts k1 tp] value pos.line env = pure false) (hw : swappedStores [.Tuple elts k1 tp] value env = pure .none) :
    S prog w H0 k env σ dk (exec (.Assign [.Tuple elts k1 tp] value pos) env) K := by
  intro A s m ok R Q X hQ
  obtain ⟨hb, hlen, hfi, hxl⟩ := binds_of (env := env) hn
  refine Assign_Tuple (h A s m ok R _ _ ?_) hs hw
  rintro v h₁ tk₁ ρ dk₁ ⟨ds, rfl, hdl, hK⟩ R₁ K₁ V₁
  obtain ⟨a, o, vs, n, rfl, ho, hc, hdd, hr⟩ := reads_tuple_inv V₁
  have e1 := readsAll_length hr
  rw [Array.length_toList] at e1
  refine wpAny_assign_Tuple ok.hd (items := vs) ⟨o, ho, hc, n, hdd⟩ (by rw [hlen, e1, hdl]) hfi fun h₂ he => ?_
  have st2 : Stays h₁ h₂ := fun b o e => he b o (Nat.ne_of_lt (Heap.lt_size e)) e
  have R₂ := R₁.stays st2
  have K₂ := K₁.trans (KeepE.of_stays st2)
  have hr₂ := ReadsAll.keeps st2 hr
  have Vs₂ : Vls prog w m σ s.heap h₂ vs.toList (ds.map .dat) := by
    refine ⟨by rw [List.length_map]; exact readsAll_length hr₂, ?_, ?_⟩
    · intro i v ρ hv hρ
      obtain ⟨d, hd, hrd⟩ := readsAll_get' hr₂ hv
      rw [List.getElem?_map, hd] at hρ
      cases hρ
      exact ⟨rfl, hrd⟩
    · intro i j v u ys _ _ _ hρ
      rw [List.getElem?_map] at hρ
      obtain ⟨_, _, q⟩ := Option.map_eq_some_iff.mp hρ
      cases q
  have hents : ∀ ds : List PyData, entsOf (ds.map fun _ => false) (ds.map .dat) = some (ds.map .dat) := by
    intro ds
    induction ds with
    | nil => rfl
    | cons d ds ih => simp only [List.map_cons, entsOf, entOf, ih]
  have hmix : mixOk (ds.map .dat) = true := by
    unfold mixOk
    rw [show (ds.map Res.dat).all Res.newOk = true from List.all_eq_true.mpr fun x hx => by obtain ⟨_, _, rfl⟩ := List.mem_map.mp hx; rfl]
    rfl
  have FA := fitsAll_of R R₂ K₂ (xs := xs) (by rw [List.length_map, hdl, hxl]) Vs₂ (hents ds) hmix hx
  exact store_all V xs _ _ _ _ m σ _ hb R₂ K₂.step FA fun h' tk m' R' st' => hQ .next h' tk _ hK ⟨rfl, m', R', st'⟩
end
end
section -- Core12
section
variable {prog : Program} {w : World} {H0 : Heap} {k : Nat} {env : Env}
/-- an iterator's own object changes: no part of the frame, of lists, of the deck -/
theorem Rel.but {h h' : Heap} {m : Vals} {σ : Sto} {dk : Dk} {I : Addr} (R : Rel prog w H0 env h m σ dk) (hI : ∃ o vs, h.get? I = some o ∧ o.data = .fields vs) (h0 : H0.get? I = .none) (hk : ∀ b o, b ≠ I → h.get? b = some o → h'.get? b = some o) :
    Rel prog w H0 env h' m σ dk ∧ StaysSeq h h' := by
  obtain ⟨oI, vI, hoI, hdI⟩ := hI
  have ne : ∀ b o, h.get? b = some o → (∀ vs, o.data ≠ .fields vs) → b ≠ I := fun b o ho hn q => by subst q; rw [hoI] at ho; cases ho; exact hn _ hdI
  have seq : StaysSeq h h' := fun b o vs n ho hd => hk b o (ne b o ho fun ws q => by rw [hd] at q; cases q) ho
  refine ⟨⟨fun b o ho => hk b o (by rintro rfl; rw [h0] at ho; cases ho) (R.base b o ho), ?_, R.newL, R.newC, ?_, R.own, R.cst, ?_⟩, seq⟩
  · refine ⟨?_, fun x c hx hc => ?_⟩
    · obtain ⟨mL, ⟨o, es, ep, ho, hd, r⟩, hm⟩ := R.frm.ns
      exact ⟨mL, ⟨o, es, ep, hk _ o (ne _ o ho fun ws q => by rw [hd] at q; cases q) ho, hd, r⟩, hm⟩
    · obtain ⟨o, ho, hd⟩ := R.frm.cl x c hx hc
      exact ⟨o, hk _ o (ne _ o ho fun ws q => by rw [hd] at q; cases q) ho, hd⟩
  · intro x e hx
    obtain ⟨v, hv, hh⟩ := R.hold x e hx
    refine ⟨v, hv, ?_⟩
    cases e with
    | dat d => exact reads_seq seq hh
    | lst o xs => obtain ⟨a, q1, q2, q3⟩ := hh; exact ⟨a, q1, q2.seq seq, q3⟩
    | cost dx ps ds =>
      obtain ⟨a, q1, o, es, n, l, h1, h2, h3, h4, h5, h6⟩ := hh
      exact ⟨a, q1, o, es, n, l, hk _ o (ne _ o h1 fun ws q => by rw [h2] at q; cases q) h1, h2, hk _ _ (ne _ _ h3 fun ws q => by cases q) h3, h4, h5, h6.seq seq⟩
  · intro l c t hdk
    obtain ⟨a, q1, ⟨tok, ⟨o, es, ep, ho, r1, hd, r2⟩, r3⟩, q2⟩ := R.dek l c t hdk
    exact ⟨a, q1, ⟨tok, ⟨o, es, ep, hk _ o (ne _ o ho fun ws q => by rw [hd] at q; cases q) ho, r1, hd, r2⟩, r3.seq seq⟩, q2⟩
/-- what a target does with a datum -/
noncomputable def bindT : Expr → PyData → Sto → Option Sto
  | .Name x _, d, σ => some (σ.set x (.dat d))
  | .Tuple elts _ _, .tuple ds, σ => (namesOf elts).bind fun xs => if ds.length = elts.length then some (setAll σ xs (ds.map .dat)) else .none
  | _, _, _ => .none
noncomputable def tgtNames : Expr → List Str
  | .Name x _ => [x]
  | .Tuple elts _ _ => (namesOf elts).getD []
  | _ => []
theorem assign_step {A : Around} {X : Value → Shared → Prop} {s : Shared} {m : Vals} {σ σ' : Sto} {dk : Dk} {target : Expr} {v : Value} {d : PyData} {h₀ : Heap} {m₀ : Vals} {σ₀ : Sto} {dk₀ : Dk} {Q : Unit → Shared → Prop} (ok : Okay k A) (V : EnvOk env)
    (R : Rel prog w H0 env s.heap m σ dk) (St₀ : Step env h₀ m₀ σ₀ dk₀ s.heap m σ dk) (hx : ∀ x ∈ tgtNames target, x ≠ deckName ∧ Kind env x) (hb : bindT target d σ = some σ') (hr : Reads s.heap v d [])
    (hQ : ∀ h' tk m', Rel prog w H0 env h' m' σ' dk → Step env h₀ m₀ σ₀ dk₀ h' m' σ' dk → Step env s.heap m σ dk h' m' σ' dk → Q () ⟨h', s.gens, s.drawn, tk, s.os⟩) :
    wpAny (model prog w) A (assign target env v) Q X s := by
  cases target with
  | Name x p =>
    cases hb
    obtain ⟨hn, hk⟩ := hx x (List.mem_singleton.mpr rfl)
    obtain ⟨F, hf⟩ := fits_of_vl (ρ := .dat d) (own := false) R R .refl hn hr rfl
    exact wpAny_assign_Name (store_step V R hk F (Step.refl (env := env)) hf fun h' tk R' st' _ _ _ => hQ h' tk _ R' (St₀.trans st') st')
  | Tuple elts k1 tp =>
    cases d with
    | tuple ds =>
      obtain ⟨xs, hn, hb⟩ := Option.bind_eq_some_iff.mp (show (namesOf elts).bind (fun xs => if ds.length = elts.length then some (setAll _ xs (ds.map .dat)) else .none) = some _ from hb)
      · by_cases hdl : ds.length = elts.length
        · rw [if_pos hdl] at hb
          cases hb
          obtain ⟨hb, hlen, hfi, hxl⟩ := binds_of (env := env) hn
          have hx' : ∀ x ∈ xs, x ≠ deckName ∧ Kind env x := fun x q => hx x (by show x ∈ (namesOf elts).getD []; rw [hn]; exact q)
          obtain ⟨a, o, vs, n, rfl, ho, hc, hdd, hr⟩ := reads_tuple_inv hr
          have e1 := readsAll_length hr
          rw [Array.length_toList] at e1
          refine wpAny_assign_Tuple ok.hd (items := vs) ⟨o, ho, hc, n, hdd⟩ (by rw [hlen, e1, hdl]) hfi fun h₂ he => ?_
          have st2 : Stays s.heap h₂ := fun b o e => he b o (Nat.ne_of_lt (Heap.lt_size e)) e
          have R₂ := R.stays st2
          have K₂ : KeepE m dk dk s.heap h₂ := KeepE.of_stays st2
          have hr₂ := ReadsAll.keeps st2 hr
          have Vs₂ : Vls prog w m σ s.heap h₂ vs.toList (ds.map .dat) := by
            refine ⟨by rw [List.length_map]; exact readsAll_length hr₂, ?_, ?_⟩
            · intro i v ρ hv hρ
              obtain ⟨d, hd, hrd⟩ := readsAll_get' hr₂ hv
              rw [List.getElem?_map, hd] at hρ
              cases hρ
              exact ⟨rfl, hrd⟩
            · intro i j v u ys _ _ _ hρ
              rw [List.getElem?_map] at hρ
              obtain ⟨_, _, q⟩ := Option.map_eq_some_iff.mp hρ
              cases q
          have hents : ∀ ds : List PyData, entsOf (ds.map fun _ => false) (ds.map .dat) = some (ds.map .dat) := by
            intro ds
            induction ds with
            | nil => rfl
            | cons d ds ih => simp only [List.map_cons, entsOf, entOf, ih]
          have hmix : mixOk (ds.map .dat) = true := by
            unfold mixOk
            rw [show (ds.map Res.dat).all Res.newOk = true from List.all_eq_true.mpr fun x hx => by obtain ⟨_, _, rfl⟩ := List.mem_map.mp hx; rfl]
            rfl
          have FA := fitsAll_of R R₂ K₂ (xs := xs) (by rw [List.length_map, hdl, hxl]) Vs₂ (hents ds) hmix hx'
          exact store_all V xs _ _ _ _ m σ _ hb R₂ K₂.step FA fun h' tk m' R' st' => hQ h' tk m' R' (St₀.trans st') st'
        · rw [if_neg hdl] at hb; cases hb
    | _ => cases hb
  | _ => cases hb
/-- a for loop over data -/
noncomputable def ForL (prog : Program) (w : World) (H0 : Heap) (k : Nat) (env : Env) (target : Expr) (body : List Stmt) : List PyData → Sto → Dk → (Out → Prop) → Prop
  | [], σ, dk, K => K (.next σ dk)
  | d :: r, σ, dk, K => ∃ σ₁, bindT target d σ = some σ₁ ∧ S prog w H0 k env σ₁ dk (execs body env) fun o => match o with
    | .next σ' dk' => ForL prog w H0 k env target body r σ' dk' K
    | .ret ρ dk' => K (.ret ρ dk')
/-- an iterator's object is there -/
noncomputable def IterAt (h : Heap) (I : Addr) : Prop := ∃ o vs, h.get? I = some o ∧ o.data = .fields vs
theorem hideJ {C : Prop} (J₀ : Nat → Shared → Prop) (h : ∀ J : Nat → Shared → Prop, (∀ n s, J n s → J₀ n s) → (∀ n s, J₀ n s → J n s) → C) : C := h J₀ (fun _ _ x => x) (fun _ _ x => x)
/-- what holds between the turns of a loop -/
structure ForI (prog : Program) (w : World) (H0 : Heap) (k : Nat) (env : Env) (h₀ : Heap) (m₀ : Vals) (σ₀ : Sto) (dk₀ : Dk) (target : Expr) (body : List Stmt) (fp : List Addr) (P : Nat → Value → Prop) (St : Nat → Heap → Prop) (xs : List PyData) (K : Out → Prop) (i : Nat) (h' : Heap) (m' : Vals) (σ' : Sto) (dk' : Dk) : Prop where
  hi : i ≤ xs.length
  hst : St i h'
  R : Rel prog w H0 env h' m' σ' dk'
  S : Step env h₀ m₀ σ₀ dk₀ h' m' σ' dk'
  hfp : ∀ b ∈ fp, (∃ o, h'.get? b = some o) ∧ ¬ Mut env m' σ' dk' b
  hrd : ∀ i v, P i v → ∃ d, xs[i]? = some d ∧ Reads h' v d []
  hL : ForL prog w H0 k env target body (xs.drop i) σ' dk' K
noncomputable abbrev forJ (prog : Program) (w : World) (H0 : Heap) (k : Nat) (env : Env) (h₀ : Heap) (m₀ : Vals) (σ₀ : Sto) (dk₀ : Dk) (target : Expr) (body : List Stmt) (fp : List Addr) (P : Nat → Value → Prop) (St : Nat → Heap → Prop) (xs : List PyData) (K : Out → Prop) (s : Shared) (n : Nat) (s' : Shared) : Prop :=
  ∃ i h' tk m' σ' dk', n = xs.length + 1 - i ∧ s' = ⟨h', s.gens, s.drawn, tk, s.os⟩ ∧ ForI prog w H0 k env h₀ m₀ σ₀ dk₀ target body fp P St xs K i h' m' σ' dk'
theorem for_core {A : Around} {R : Result → Shared → Prop} {s : Shared} {m m₀ : Vals} {σ σ₀ : Sto} {dk dk₀ : Dk} {h₀ : Heap} {target : Expr} {body : List Stmt} {I : Addr} {fp : List Addr} {P : Nat → Value → Prop} {St : Nat → Heap → Prop} {xs : List PyData} {K : Out → Prop}
    (ok : Okay k A) (V : EnvOk env) (hx : ∀ x ∈ tgtNames target, x ≠ deckName ∧ Kind env x) (W : Walks prog w A I fp [I] xs.length P St) (hI : ∀ i h, St i h → IterAt h I) (hI0 : h₀.get? I = .none) (hH0 : H0.get? I = .none)
    (hgo : ∀ i v (s' : Shared) (Q : Unit → Shared → Prop) (X : Value → Shared → Prop), St i s'.heap → Q () s' → wpAny (model prog w) A (letOwnedTupleGo target (.ref I) v) Q X s')
    (R₀ : Rel prog w H0 env s.heap m σ dk) (S₀ : Step env h₀ m₀ σ₀ dk₀ s.heap m σ dk) (hst : St 0 s.heap) (hfp : ∀ b ∈ fp, (∃ o, s.heap.get? b = some o) ∧ ¬ Mut env m σ dk b)
    (hrd : ∀ i v, P i v → ∃ d, xs[i]? = some d ∧ Reads s.heap v d [])
    (hL : ForL prog w H0 k env target body xs σ dk K)
    (hQ : ∀ f h' tk o, K o → OutOk prog w H0 env h₀ m₀ σ₀ dk₀ f h' o → R (.ok f) ⟨h', s.gens, s.drawn, tk, s.os⟩) :
    codeAny (model prog w) A (.forLoop target (.ref I) body [] env) R s := by
  refine hideJ (forJ prog w H0 k env h₀ m₀ σ₀ dk₀ target body fp P St xs K s) fun J jIn jOut => ?_
  refine codeAny_forLoop_any J ?_ (xs.length + 1)
    (jOut _ _ ⟨0, s.heap, s.toks, m, σ, dk, rfl, rfl, ⟨Nat.zero_le _, hst, R₀, S₀, hfp, hrd, by simpa using hL⟩⟩)
  intro n s' hj
  obtain ⟨i, h', tk, m', σ', dk', rfl, rfl, ⟨hi, hst', R', S', hfp', hrd', hL'⟩⟩ := jIn _ _ hj
  clear jIn hj
  have stepBut : ∀ h₁ : Heap, (∀ b o, b ≠ I → h'.get? b = some o → h₁.get? b = some o) → Step env h₀ m₀ σ₀ dk₀ h₁ m' σ' dk' := by
    intro h₁ hk
    refine ⟨fun b o ho hn => hk b o (by rintro rfl; rw [hI0] at ho; cases ho) (S'.get b o ho hn), fun b o ho => ?_, S'.own, S'.dkm, S'.dkn⟩
    obtain ⟨o', ho'⟩ := S'.dom b o ho
    exact ⟨o', hk b o' (by rintro rfl; rw [hI0] at ho; cases ho) ho'⟩
  by_cases hlt : i < xs.length
  · refine W.item i _ _ _ hlt hst' fun v h₁ tk₁ hPv hst₁ hk₁ => ?_
    have hk : ∀ b o, b ≠ I → h'.get? b = some o → h₁.get? b = some o := fun b o hb => hk₁ b o (by simpa using hb)
    obtain ⟨R₁, seq⟩ := R'.but (hI i h' hst') hH0 hk
    have S₁ := stepBut h₁ hk
    obtain ⟨d, hd, hr⟩ := hrd' i v hPv
    have e : xs.drop i = d :: xs.drop (i + 1) := by
      obtain ⟨hi', hd'⟩ := List.getElem?_eq_some_iff.mp hd
      rw [List.drop_eq_getElem_cons hi', hd']
    rw [e] at hL'
    obtain ⟨σ₁, hb, hS⟩ := hL'
    refine hgo (i + 1) v _ _ _ hst₁ ?_
    refine assign_step (k := k) ok V R₁ S₁ hx hb (reads_seq seq hr) fun h₂ tk₂ m₂ R₂ S₂ L₂ => ?_
    refine hS A _ m₂ ok R₂ _ _ fun f h₃ tk₃ o hK hO => ?_
    cases o with
    | ret ρ dk₃ =>
      obtain ⟨v', m₃, σ₃, rfl, R₃, S₃, hv⟩ := hO
      exact hQ _ h₃ tk₃ _ hK ⟨v', m₃, σ₃, rfl, R₃, S₂.trans S₃, hv.later S₂⟩
    | next σ₃ dk₃ =>
      obtain ⟨rfl, m₃, R₃, S₃⟩ := hO
      have L₃ := L₂.trans S₃
      have alive : ∀ b ∈ fp, ∃ o, h₁.get? b = some o := fun b hb => by
        by_cases q : b = I
        · subst q; obtain ⟨o, _, ho, _⟩ := hI _ _ hst₁; exact ⟨o, ho⟩
        · obtain ⟨o, ho⟩ := (hfp' b hb).1; exact ⟨o, hk b o q ho⟩
      have nm : ∀ b ∈ fp, ¬ Mut env m₃ σ₃ dk₃ b := by
        intro b hb
        have h0 := (hfp' b hb).2
        obtain ⟨o, ho⟩ := alive b hb
        rintro (q | q | q | q)
        · exact h0 (.inl q)
        · exact h0 (.inr (.inl q))
        · rcases L₃.own b q with q | q
          · exact h0 (.inr (.inr (.inl q)))
          · rw [ho] at q; cases q
        · rcases L₃.dkn b q with q | q
          · exact h0 (.inr (.inr (.inr q)))
          · rw [ho] at q; cases q
      have kept : ∀ b ∈ fp, ∀ o, h₁.get? b = some o → h₃.get? b = some o := fun b hb o ho => L₃.get b o ho (hfp' b hb).2
      refine ⟨xs.length + 1 - (i + 1), by omega, jOut _ _ ⟨i + 1, h₃, tk₃, m₃, σ₃, dk₃, rfl, rfl, ⟨hlt, W.frame _ _ _ hst₁ kept, R₃, S₁.trans L₃, fun b hb => ⟨?_, nm b hb⟩, ?_, hK⟩⟩⟩
      · obtain ⟨o, ho⟩ := alive b hb; exact ⟨o, kept b hb o ho⟩
      · intro j u hu
        obtain ⟨d', hd', hr'⟩ := hrd' j u hu
        exact ⟨d', hd', reads_tup (R₁.step_tup L₃) (reads_seq seq hr')⟩
  · have hin : i = xs.length := by omega
    subst hin
    refine W.done _ _ _ hst' fun h₁ tk₁ hk₁ => ?_
    have hk : ∀ b o, b ≠ I → h'.get? b = some o → h₁.get? b = some o := fun b o hb => hk₁ b o (by simpa using hb)
    obtain ⟨R₁, seq⟩ := R'.but (hI _ h' hst') hH0 hk
    rw [List.drop_length] at hL'
    exact wpAny_execs_nil (hQ .next h₁ tk₁ _ hL' ⟨rfl, m', R₁, stepBut h₁ hk⟩)
end
end
section -- Core13
section
variable {prog : Program} {w : World} {H0 : Heap} {k : Nat} {env : Env} {σ : Sto} {dk : Dk} {K : Out → Prop}
theorem Rel.fields_not {h : Heap} {m : Vals} (R : Rel prog w H0 env h m σ dk) {b : Addr} {o : Obj} {vs : Array Value} (ho : h.get? b = some o) (hd : o.data = .fields vs) : ¬ Mut env m σ dk b := by
  rintro (q | ⟨x, hk, hc⟩ | q | ⟨hs, hm⟩)
  · subst q
    obtain ⟨_, ⟨o', _, _, ho', hd', _⟩, _⟩ := R.frm.ns
    rw [ho] at ho'; cases ho'; rw [hd] at hd'; cases hd'
  · obtain ⟨o', ho', hd'⟩ := R.frm.cl x b hk hc
    rw [ho] at ho'; cases ho'; rw [hd] at hd'; cases hd'
  · obtain ⟨xs, vs', ⟨n, p⟩, _⟩ := R.own_lst q
    rw [ho] at p; cases p; cases hd
  · obtain ⟨⟨l, c, t⟩, rfl⟩ := Option.isSome_iff_exists.mp hs
    obtain ⟨a, h1, ⟨_, ⟨o', _, _, ho', _, hd', _⟩, _⟩, _⟩ := R.dek l c t rfl
    rw [hm] at h1; cases h1
    rw [ho] at ho'; cases ho'; rw [hd] at hd'; cases hd'
/-- a list met by a tree, no own one, is not to change -/
theorem Rel.lst_not {h₀ h : Heap} {m : Vals} {dk₀ : Dk} (R₀ : Rel prog w H0 env h₀ m σ dk₀) (R : Rel prog w H0 env h m σ dk) {a : Addr} {xs : List PyData} {fl : Fl} (hl : Lst h a xs) (hf : fl = .fresh → h₀.get? a = .none) (hs : fl = .safe → ¬ OwnA m σ a) (hfl : fl ≠ .ownd) : ¬ Mut env m σ dk a := by
  obtain ⟨vs, ⟨n, p⟩, r⟩ := hl
  obtain ⟨t1, t2, t3⟩ := R.tup_not p rfl
  rintro (q | q | q | q)
  · exact t1 q
  · exact t3 q
  · cases fl with
    | fresh =>
      obtain ⟨_, _, ⟨_, e⟩, _⟩ := R₀.own_lst q
      rw [hf rfl] at e; cases e
    | safe => exact hs rfl q
    | ownd => exact hfl rfl
  · exact t2 q
noncomputable def isTgt : Expr → Bool
  | .Name .. => true
  | .Tuple .. => true
  | _ => false
theorem go_list {A : Around} {X : Value → Shared → Prop} {s : Shared} {target : Expr} {I l : Addr} {i : Nat} {v : Value} {Q : Unit → Shared → Prop} (ht : isTgt target = true) (hit : s.heap.IsListIter I l i) (hQ : Q () s) : wpAny (model prog w) A (letOwnedTupleGo target (.ref I) v) Q X s := by
  cases target with
  | Name x p => exact wpAny_pure hQ
  | Tuple elts k1 p =>
    cases v with
    | ref T => exact wpAny_letOwnedTupleGo_listiter hit hQ
    | _ => exact wpAny_pure hQ
  | _ => cases ht
noncomputable abbrev kS_forList_1 (prog : Program) (w : World) (H0 : Heap) (k : Nat) (env : Env) (σ : Sto) (K : Out → Prop) (target : Expr) (body : List Stmt) (ρ : Res) (dk₁ : Dk) : Prop := ∃ fl xs, ρ = .lst fl xs ∧ fl ≠ .ownd ∧ ForL prog w H0 k env target body xs σ dk₁ K
theorem S.forList {target iter : Expr} {body : List Stmt} {pos : Pos} (V : EnvOk env) (hx : ∀ x ∈ tgtNames target, x ≠ deckName ∧ Kind env x) (ht : isTgt target = true)
    (h : E prog w H0 k env σ dk (eval iter env) (kS_forList_1 prog w H0 k env σ K target body)) (hs : ∀ x, foldedSetIterable iter env x = pure x := by intro _; rfl) :
    S prog w H0 k env σ dk (exec (.For target iter body [] pos) env) K := by
  intro A s m ok R Q X hQ
  refine wpAny_For (h A s m ok R _ _ ?_) hs
  rintro v h₁ tk₁ ρ dk₁ ⟨fl, xs, rfl, hfl, hL⟩ R₁ K₁ V₁
  obtain ⟨a, rfl, hl, hf, hsf⟩ := V₁
  obtain ⟨vs, ⟨n, p⟩, r⟩ := id hl
  refine wpAny_pyIter_list ⟨_, p, rfl, n, rfl⟩ ?_
  have e1 := readsAll_length r
  rw [Array.length_toList] at e1
  have st := push_stays h₁ { cls := .type "list_iterator", data := .fields #[.ref a, .int 0 0] }
  have R₂ := R₁.stays st
  have hI : (h₁.push { cls := .type "list_iterator", data := .fields #[.ref a, .int 0 0] }).get? h₁.objs.size = some { cls := .type "list_iterator", data := .fields #[.ref a, .int 0 0] } := Heap.get?_push_size _ rfl
  have hne : a ≠ h₁.objs.size := Nat.ne_of_lt (Heap.lt_size p)
  have hnI : s.heap.get? h₁.objs.size = .none := K₁.dom.none (new_none _)
  have W := Walks.list (prog := prog) (w := w) ok.hd h₁.objs.size a hne vs
  rw [e1] at W
  refine for_core (k := k) (h₀ := s.heap) (m₀ := m) (σ₀ := σ) (dk₀ := dk) (m := m) (σ := σ) (dk := dk₁) (K := K) ok V hx W (fun i h ⟨hh, _⟩ => ?_) hnI (R.base.dom.none hnI) (fun i v s' Q X hst hq => go_list ht hst.1 hq) R₂ (K₁.trans (KeepE.of_stays st)).step
    ⟨⟨_, hI, rfl, rfl⟩, ⟨_, st _ _ p, rfl, n, rfl⟩⟩ ?_ ?_ hL fun f h' tk o hK hO => hQ f h' tk o hK hO
  · obtain ⟨o, ho, _, hd⟩ := hh; exact ⟨o, _, ho, hd⟩
  · intro b hb
    rcases List.mem_cons.mp hb with rfl | hb
    · exact ⟨⟨_, hI⟩, R₂.fields_not hI rfl⟩
    · rw [List.mem_singleton.mp hb]
      exact ⟨⟨_, st _ _ p⟩, R.lst_not R₂ (lst_stays hl st) hf hsf hfl⟩
  · intro i v hv
    obtain ⟨d, hd, hr⟩ := readsAll_get' (ReadsAll.keeps st r) (i := i) (v := v) (by rw [Array.getElem?_toList]; exact hv)
    exact ⟨d, hd, hr⟩
/-- a while loop -/
noncomputable def WhileL (prog : Program) (w : World) (H0 : Heap) (k : Nat) (env : Env) (test : Expr) (body : List Stmt) : Nat → Sto → Dk → (Out → Prop) → Prop
  | 0, _, _, _ => False
  | n + 1, σ, dk, K => T prog w H0 k env σ dk (isTrue test env (eval test env)) fun b dk₁ => (b = false → K (.next σ dk₁)) ∧ (b = true → S prog w H0 k env σ dk₁ (execs body env) fun o => match o with
    | .next σ' dk' => WhileL prog w H0 k env test body n σ' dk' K
    | .ret ρ dk' => K (.ret ρ dk'))
theorem S.whil {test : Expr} {body : List Stmt} {pos : Pos} (n : Nat) (h : WhileL prog w H0 k env test body n σ dk K) : S prog w H0 k env σ dk (exec (.While test body [] pos) env) K := by
  intro A s m ok R Q X hQ
  refine wpAny_While (codeAny_whileLoop (fun n s' => ∃ h' tk m' σ' dk', s' = ⟨h', s.gens, s.drawn, tk, s.os⟩ ∧ Rel prog w H0 env h' m' σ' dk' ∧ Step env s.heap m σ dk h' m' σ' dk' ∧ WhileL prog w H0 k env test body n σ' dk' K) ?_ n ⟨s.heap, s.toks, m, σ, dk, rfl, R, .refl, h⟩)
  rintro n s' ⟨h', tk, m', σ', dk', rfl, R', S', hW⟩
  cases n with
  | zero => exact hW.elim
  | succ n =>
    refine hW A _ m' ok R' _ _ fun b h₁ tk₁ dk₁ ⟨hF, hT⟩ R₁ K₁ => ?_
    cases b with
    | false => exact wpAny_execs_nil (hQ .next h₁ tk₁ _ (hF rfl) ⟨rfl, m', R₁, S'.trans K₁.step⟩)
    | true =>
      refine hT rfl A _ m' ok R₁ _ _ fun f h₂ tk₂ o hK hO => ?_
      cases o with
      | next σ₂ dk₂ =>
        obtain ⟨rfl, m₂, R₂, S₂⟩ := hO
        exact ⟨n, Nat.lt_succ_self _, h₂, tk₂, m₂, σ₂, dk₂, rfl, R₂, (S'.trans K₁.step).trans S₂, hK⟩
      | ret ρ dk₂ =>
        obtain ⟨v, m₂, σ₂, rfl, R₂, S₂, hv⟩ := hO
        exact hQ _ h₂ tk₂ _ hK ⟨v, m₂, σ₂, rfl, R₂, (S'.trans K₁.step).trans S₂, hv.later (S'.trans K₁.step)⟩
end
end
section -- Core14
/-- what the frame's world gives -/
structure Gnd (H0 : Heap) (mg mb : Vals) : Prop where
  g : H0.Ns mainGlobals mg
  b : H0.Ns builtinsNs mb
  lim : H0.NoLimit
  len : mg (Str.ofString "len") = .none ∧ mb (Str.ofString "len") = some (.builtin "len")
  sum : mg (Str.ofString "sum") = .none ∧ mb (Str.ofString "sum") = some (.builtin "sum")
  list : mg (Str.ofString "list") = .none ∧ mb (Str.ofString "list") = some (.type "list")
  int : mg (Str.ofString "int") = .none ∧ mb (Str.ofString "int") = some (.type "int")
  range : mg (Str.ofString "range") = .none ∧ mb (Str.ofString "range") = some (.type "range")
section
variable {prog : Program} {w : World} {H0 : Heap} {mg mb : Vals} {k : Nat} {env : Env} {σ : Sto} {dk : Dk}
theorem ld_bi {A : Around} {X : Value → Shared → Prop} {s : Shared} {x : Str} {pos : Pos} {v : Value} {Q : Value → Shared → Prop} (G : Gnd H0 mg mb) (V : EnvOk env) (R : Stays H0 s.heap) (hk : env.kindOf x = some .globalImplicit)
    (hb : mg x = .none ∧ mb x = some v) (hQ : Q v s) (hd : (x == ("__debug__" : Str)) = false := by decide) : wpAny (model prog w) A (eval (.Name x pos) env) Q X s :=
  Name_function_global V.fn hk (loadGlobal_builtin (by rw [V.gl]; exact G.g.keeps R) hb.1 (by rw [V.bl]; exact G.b.keeps R) hb.2 hQ) hd
theorem ld_gl {A : Around} {X : Value → Shared → Prop} {s : Shared} {x : Str} {pos : Pos} {v : Value} {Q : Value → Shared → Prop} (G : Gnd H0 mg mb) (V : EnvOk env) (R : Stays H0 s.heap) (hk : env.kindOf x = some .globalImplicit)
    (hb : mg x = some v) (hQ : Q v s) (hd : (x == ("__debug__" : Str)) = false := by decide) : wpAny (model prog w) A (eval (.Name x pos) env) Q X s :=
  Name_function_global V.fn hk (loadGlobal_global (by rw [V.gl]; exact G.g.keeps R) hb hQ) hd
/-- a global's datum -/
theorem E.glob {x : Str} {pos : Pos} {v : Value} {d : PyData} {P : Res → Dk → Prop} (G : Gnd H0 mg mb) (V : EnvOk env) (hk : env.kindOf x = some .globalImplicit) (hv : mg x = some v) (hr : ∀ h : Heap, Reads h v d []) (h : P (.dat d) dk)
    (hd : (x == ("__debug__" : Str)) = false := by decide) : E prog w H0 k env σ dk (eval (.Name x pos) env) P :=
  fun _ s _ _ R _ _ hQ => ld_gl G V R.base hk hv (hQ v s.heap s.toks _ dk h R .refl (hr _)) hd
theorem plain_back {pos : Pos} : ∀ {es : List Expr}, noStar es = true → (backTo pos (starEach es env)).any (·.1) = false
  | [], _ => rfl
  | e :: r, h => by
    have hr : noStar r = true := by cases e <;> first | exact h | cases h
    have he : starEach (e :: r) env = (false, eval e env) :: starEach r env := starEach_plain fun a p q => by subst q; cases h
    rw [he]
    show (false || (backTo pos (starEach r env)).any (·.1)) = false
    rw [plain_back hr]; rfl
theorem noStar_tail {e : Expr} {r : List Expr} (h : noStar (e :: r) = true) : noStar r = true := by cases e <;> first | exact h | cases h
theorem noStar_eq {e : Expr} {r : List Expr} (h : noStar (e :: r) = true) : starEach (e :: r) env = (false, eval e env) :: starEach r env := starEach_plain fun a p q => by subst q; cases h
theorem one_arg {A : Around} {X : Value → Shared → Prop} {s : Shared} {m : Vals} {e : Expr} {pos : Pos} {P : Res → Dk → Prop} {Q : List Value → Shared → Prop} (ok : Okay k A) (R : Rel prog w H0 env s.heap m σ dk) (hn : noStar [e] = true) (h : E prog w H0 k env σ dk (eval e env) P)
    (hQ : ∀ v h' tk ρ dk', P ρ dk' → Rel prog w H0 env h' m σ dk' → KeepE m dk dk' s.heap h' → Vl prog w m σ s.heap h' v ρ → Q [v] ⟨h', s.gens, s.drawn, tk, s.os⟩) : wpAny (model prog w) A (spliced (backTo pos (starEach [e] env))) Q X s :=
  args_cons (h A s m ok R _ _ fun v h' tk ρ dk' hP R' K' V' => args_nil (hQ v h' tk ρ dk' hP R' K' V')) (noStar_eq hn)
inductive LenR : Res → Nat → Prop
  | lst (f : Fl) (xs : List PyData) : LenR (.lst f xs) xs.length
  | tup (ds : List PyData) : LenR (.dat (.tuple ds)) ds.length
noncomputable abbrev kE_len_1 (P : Res → Dk → Prop) (ρ : Res) (dk₁ : Dk) : Prop := ∃ n : Nat, LenR ρ n ∧ n ≤ 10000 ∧ P (.dat (.int n)) dk₁
theorem E.len {e : Expr} {p pos : Pos} {P : Res → Dk → Prop} (G : Gnd H0 mg mb) (V : EnvOk env) (hk : env.kindOf (Str.ofString "len") = some .globalImplicit)
    (h : E prog w H0 k env σ dk (eval e env) (kE_len_1 P)) (hn : noStar [e] = true := by rfl) :
    E prog w H0 k env σ dk (eval (.Call (.Name (Str.ofString "len") p) [e] [] pos) env) P := by
  intro A s m ok R Q X hQ
  refine Call_ (ld_bi G V R.base hk G.len (PyProof.Rows.callWith_builtin1 (one_arg ok R hn h ?_) (noStar_eq hn) (plain_back (noStar_tail hn)))) (by rfl)
  rintro v h₁ tk₁ ρ dk₁ ⟨n, hL, hle, hP⟩ R₁ K₁ V₁
  cases hL with
  | lst f xs =>
    obtain ⟨a, rfl, ⟨vs, p, r⟩, _⟩ := V₁
    have e1 := readsAll_length r
    rw [Array.length_toList] at e1
    refine len_list p.isList (by omega) ?_
    rw [e1]
    exact hQ _ h₁ _ _ dk₁ hP R₁ K₁ (.int ..)
  | tup ds =>
    obtain ⟨a, o, vs, n, rfl, ho, hc, hdd, hr⟩ := reads_tuple_inv V₁
    have e1 := readsAll_length hr
    rw [Array.length_toList] at e1
    refine len_tuple ⟨o, ho, hc, n, hdd⟩ (by omega) ?_
    rw [e1]
    exact hQ _ h₁ _ _ dk₁ hP R₁ K₁ (.int ..)
theorem sum_le : ∀ (is : List Int), (∀ i ∈ is, 0 ≤ i ∧ i ≤ 1000) → 0 ≤ is.sum ∧ is.sum ≤ 1000 * is.length
  | [], _ => by simp
  | i :: r, h => by
    obtain ⟨a, b⟩ := sum_le r fun x hx => h x (.tail _ hx)
    obtain ⟨c, d⟩ := h i (.head _)
    simp only [List.sum_cons, List.length_cons]
    omega
noncomputable abbrev kE_sum_1 (P : Res → Dk → Prop) (ρ : Res) (dk₁ : Dk) : Prop := ∃ (f : Fl) (is : List Int), ρ = .lst f (is.map .int) ∧ is.length ≤ 1000 ∧ (∀ i ∈ is, 0 ≤ i ∧ i ≤ 1000) ∧ P (.dat (.int is.sum)) dk₁
theorem E.sum {e : Expr} {p pos : Pos} {P : Res → Dk → Prop} (G : Gnd H0 mg mb) (V : EnvOk env) (hk : env.kindOf (Str.ofString "sum") = some .globalImplicit)
    (h : E prog w H0 k env σ dk (eval e env) (kE_sum_1 P)) (hn : noStar [e] = true := by rfl) :
    E prog w H0 k env σ dk (eval (.Call (.Name (Str.ofString "sum") p) [e] [] pos) env) P := by
  intro A s m ok R Q X hQ
  refine Call_ (ld_bi G V R.base hk G.sum (PyProof.Rows.callWith_builtin1 (one_arg ok R hn h ?_) (noStar_eq hn) (plain_back (noStar_tail hn)))) (by rfl)
  rintro v h₁ tk₁ ρ dk₁ ⟨f, is, rfl, hle, hb, hP⟩ R₁ K₁ V₁
  obtain ⟨a, rfl, ⟨vs, ⟨n, p⟩, r⟩, _⟩ := V₁
  have e1 := readsAll_length r
  rw [Array.length_toList, List.length_map] at e1
  have hne : a ≠ h₁.objs.size := Nat.ne_of_lt (Heap.lt_size p)
  refine call_sum_walk (wpAny_pyIter_list ⟨_, p, rfl, n, rfl⟩ ?_)
  have st := push_stays h₁ { cls := .type "list_iterator", data := .fields #[.ref a, .int 0 0] }
  refine ⟨h₁.objs.size, _, _, is.length, _, _, fun i => is.getD i 0, rfl, e1 ▸ Walks.list (prog := prog) (w := w) (A := A.in1) ok.hd h₁.objs.size a hne vs, ⟨⟨_, Heap.get?_push_size _ rfl, rfl, rfl⟩, ⟨_, st _ _ p, rfl, n, rfl⟩⟩, ?_, ?_, ?_, ?_⟩
  · intro b hb
    show b < (h₁.push _).objs.size
    rw [Heap.size_push]
    rcases List.mem_cons.mp hb with rfl | hb
    · exact Nat.lt_succ_self _
    · rw [List.mem_singleton.mp hb]; exact Nat.lt_succ_of_lt (Heap.lt_size p)
  · intro i v hv
    obtain ⟨d, hd, hr⟩ := readsAll_get' r (i := i) (v := v) (by rw [Array.getElem?_toList]; exact hv)
    rw [List.getElem?_map] at hd
    obtain ⟨j, hj, rfl⟩ := Option.map_eq_some_iff.mp hd
    obtain ⟨t, rfl, _⟩ := reads_int_inv hr
    exact ⟨t, by show _ = Value.int (is.getD i 0) t; rw [List.getD_eq_getElem?_getD, hj]; rfl⟩
  · intro j hj
    have h1 : ∀ i ∈ is.take (j + 1), 0 ≤ i ∧ i ≤ 1000 := fun i hi => hb i (List.mem_of_mem_take hi)
    have h2 := sum_le _ h1
    rw [preSum_getD]
    have h3 : (is.take (j + 1)).length ≤ 1000 := by rw [List.length_take]; omega
    have h4 := hb (is.getD j 0) (by rw [List.getD_eq_getElem?_getD, List.getElem?_eq_getElem hj]; exact List.getElem_mem hj)
    refine ⟨⟨?_, ?_⟩, ⟨?_, ?_⟩⟩ <;> (try dsimp only) <;> omega
  · intro h' tk t' hk
    have st' : Stays h₁ h' := fun b o ho => hk b o (by
      intro q
      rw [List.mem_singleton.mp q] at ho
      exact absurd (Heap.lt_size ho) (Nat.lt_irrefl _)) (st b o ho)
    rw [preSum_getD, List.take_length]
    exact hQ _ h' tk _ dk₁ hP (R₁.stays st') (K₁.trans (KeepE.of_stays st')) (.int ..)
noncomputable abbrev kE_listOf_1 (P : Res → Dk → Prop) (ρ : Res) (dk₁ : Dk) : Prop := ∃ f xs, ρ = .lst f xs ∧ xs.length ≤ 10000 ∧ P (.lst .fresh xs) dk₁
theorem E.listOf {e : Expr} {p pos : Pos} {P : Res → Dk → Prop} (G : Gnd H0 mg mb) (V : EnvOk env) (hk : env.kindOf (Str.ofString "list") = some .globalImplicit)
    (h : E prog w H0 k env σ dk (eval e env) (kE_listOf_1 P)) (hn : noStar [e] = true := by rfl) :
    E prog w H0 k env σ dk (eval (.Call (.Name (Str.ofString "list") p) [e] [] pos) env) P := by
  intro A s m ok R Q X hQ
  refine Call_ (ld_bi G V R.base hk G.list (PyProof.Rows.callWith_type1 (one_arg ok R hn h ?_) (noStar_eq hn) (plain_back (noStar_tail hn)))) (by rfl)
  rintro v h₁ tk₁ ρ dk₁ ⟨f, xs, rfl, hle, hP⟩ R₁ K₁ V₁
  obtain ⟨a, rfl, ⟨vs, ⟨n, p⟩, r⟩, _⟩ := V₁
  have e1 := readsAll_length r
  rw [Array.length_toList] at e1
  refine call_list_seq a (T := "list") (.inl rfl) p rfl rfl (fun h' c' st hl => ?_) (by rw [e1, sizeLine_eq]; omega)
  have st' : Stays h₁ h' := st
  exact hQ _ h' tk₁ _ dk₁ hP (R₁.stays st') (K₁.trans (KeepE.of_stays st')) ⟨_, rfl, ⟨vs, ⟨c', hl⟩, ReadsAll.keeps st' r⟩, fun _ => K₁.dom.none (new_none _), (by intro q; cases q)⟩
inductive IntR : Res → Int → Prop
  | int (i : Int) : IntR (.dat (.int i)) i
  | bool (b : Bool) : IntR (.dat (.bool b)) (if b then 1 else 0)
noncomputable abbrev kE_intOf_1 (P : Res → Dk → Prop) (ρ : Res) (dk₁ : Dk) : Prop := ∃ i, IntR ρ i ∧ P (.dat (.int i)) dk₁
theorem E.intOf {e : Expr} {p pos : Pos} {P : Res → Dk → Prop} (G : Gnd H0 mg mb) (V : EnvOk env) (hk : env.kindOf (Str.ofString "int") = some .globalImplicit)
    (h : E prog w H0 k env σ dk (eval e env) (kE_intOf_1 P)) (hn : noStar [e] = true := by rfl) :
    E prog w H0 k env σ dk (eval (.Call (.Name (Str.ofString "int") p) [e] [] pos) env) P := by
  intro A s m ok R Q X hQ
  refine Call_ (ld_bi G V R.base hk G.int (PyProof.Rows.callWith_type1 (one_arg ok R hn h ?_) (noStar_eq hn) (plain_back (noStar_tail hn)))) (by rfl)
  rintro v h₁ tk₁ ρ dk₁ ⟨i, hI, hP⟩ R₁ K₁ V₁
  cases hI with
  | int i =>
    obtain ⟨t, rfl, _⟩ := reads_int_inv V₁
    exact call_int_int (hQ _ h₁ _ _ dk₁ hP R₁ K₁ (.int ..))
  | bool b =>
    obtain ⟨rfl, _⟩ := reads_bool_inv V₁
    exact call_int_bool (hQ _ h₁ _ _ dk₁ hP R₁ K₁ (.int ..))
end
end
section -- Core15
section
variable {prog : Program} {w : World} {H0 : Heap} {mg mb : Vals} {k : Nat} {env : Env} {σ : Sto} {dk : Dk} {K : Out → Prop}
noncomputable def rangeD (n : Nat) : List PyData := (List.range n).map fun (i : Nat) => .int (i : Int)
theorem rangeD_get {n i : Nat} (h : i < n) : (rangeD n)[i]? = some (.int i) := by
  unfold rangeD; rw [List.getElem?_map, List.getElem?_range h]; rfl
theorem rangeD_length (n : Nat) : (rangeD n).length = n := by unfold rangeD; simp
/-- what an iterator over a range gives -/
structure RangeAt (prog : Program) (w : World) (A : Around) (h : Heap) (I : Addr) (n : Nat) (St : Nat → Heap → Prop) : Prop where
  walk : Walks prog w A I [I] [I] n (fun i v => ∃ t, v = .int (0 + (i : Nat) * 1) t) St
  start : St 0 h
  iter : ∀ i h', St i h' → IterAt h' I
/-- range(n) and its iterator -/
theorem range_iter {A : Around} {X : Value → Shared → Prop} {s : Shared} {m : Vals} {e : Expr} {p pos : Pos} {P : Nat → Dk → Prop} {Q : Value → Shared → Prop} (ok : Okay k A) (G : Gnd H0 mg mb) (V : EnvOk env) (hk : env.kindOf (Str.ofString "range") = some .globalImplicit) (R : Rel prog w H0 env s.heap m σ dk)
    (hn : noStar [e] = true) (h : E prog w H0 k env σ dk (eval e env) fun ρ dk₁ => ∃ n : Nat, ρ = .dat (.int n) ∧ n ≤ 10000 ∧ P n dk₁)
    (hQ : ∀ I h' tk n dk₁ St, P n dk₁ → Rel prog w H0 env h' m σ dk₁ → KeepE m dk dk₁ s.heap h' → n ≤ 10000 → s.heap.get? I = .none → RangeAt prog w A h' I n St → (∃ o, h'.get? I = some o) → Q (.ref I) ⟨h', s.gens, s.drawn, tk, s.os⟩) :
    wpAny (model prog w) A (eval (.Call (.Name (Str.ofString "range") p) [e] [] pos) env) (fun x s₁ => wpAny (model prog w) A (pyIter x) Q X s₁) X s := by
  refine Call_ (ld_bi G V R.base hk G.range (PyProof.Rows.callWith_type1 (one_arg ok R hn h ?_) (noStar_eq hn) (plain_back (noStar_tail hn)))) (by rfl)
  rintro v h₁ tk₁ ρ dk₁ ⟨n, rfl, hle, hP⟩ R₁ K₁ V₁
  obtain ⟨t, rfl, _⟩ := reads_int_inv V₁
  refine call_range_1 ?_
  have st1 := push_stays h₁ { cls := .type "range", data := .fields #[.int 0 tk₁, .int n t, .int 1 (tk₁ + 1)] }
  have hsm : Builtin.Range.small 0 n 1 = true := by
    unfold Builtin.Range.small Builtin.Range.rangeFitsLong Builtin.Range.rangeSize
    simp; omega
  have hsz : Builtin.Range.rangeSize 0 n 1 = (n : Int) := by
    unfold Builtin.Range.rangeSize
    simp; omega
  refine wpAny_pyIter_range (Heap.get?_push_size _ rfl) hsm ?_
  rw [hsz]
  have st2 := push_stays (h₁.push { cls := .type "range", data := .fields #[.int 0 tk₁, .int n t, .int 1 (tk₁ + 1)] }) { cls := .type "range_iterator", data := .fields #[rawInt 0, rawInt n, rawInt 1] }
  have st : Stays h₁ ((h₁.push { cls := .type "range", data := .fields #[.int 0 tk₁, .int n t, .int 1 (tk₁ + 1)] }).push { cls := .type "range_iterator", data := .fields #[rawInt 0, rawInt n, rawInt 1] }) := fun b o e => st2 b o (st1 b o e)
  refine hQ _ _ _ n dk₁ _ hP (R₁.stays st) (K₁.trans (KeepE.of_stays st)) hle ((K₁.dom.trans st1.dom).none (new_none _)) ⟨Walks.range ok.hd _ 0 1 n, ?_, ?_⟩ ⟨_, Heap.get?_push_size _ rfl⟩
  · have e1 : (0 : Int) + ((0 : Nat) : Int) * 1 = 0 := by decide
    have e2 : (n : Int) - ((0 : Nat) : Int) = n := by simp
    show IsRangeIter _ _ (0 + ((0 : Nat) : Int) * 1) ((n : Int) - ((0 : Nat) : Int)) 1
    rw [e1, e2]
    exact Heap.get?_push_size _ rfl
  · intro i h' hi
    exact ⟨_, _, hi, rfl⟩
theorem range_reads {n : Nat} {h : Heap} : ∀ (i : Nat) (v : Value), i < n → (∃ t, v = Value.int (0 + (i : Nat) * 1) t) → ∃ d, (rangeD n)[i]? = some d ∧ Reads h v d [] := by
  rintro i v hi ⟨t, rfl⟩
  refine ⟨_, rangeD_get hi, ?_⟩
  rw [show (0 : Int) + (i : Nat) * 1 = (i : Int) by omega]
  exact .int ..
noncomputable abbrev kS_forRange_1 (prog : Program) (w : World) (H0 : Heap) (k : Nat) (env : Env) (σ : Sto) (K : Out → Prop) (x : Str) (px : Pos) (body : List Stmt) (ρ : Res) (dk₁ : Dk) : Prop := ∃ n : Nat, ρ = .dat (.int n) ∧ n ≤ 10000 ∧ ForL prog w H0 k env (.Name x px) body (rangeD n) σ dk₁ K
theorem S.forRange {x : Str} {px p pos cpos : Pos} {e : Expr} {body : List Stmt} (G : Gnd H0 mg mb) (V : EnvOk env) (hk : env.kindOf (Str.ofString "range") = some .globalImplicit) (hx : x ≠ deckName ∧ Kind env x)
    (h : E prog w H0 k env σ dk (eval e env) (kS_forRange_1 prog w H0 k env σ K x px body)) (hn : noStar [e] = true := by rfl)
    (hs : ∀ v, foldedSetIterable (.Call (.Name (Str.ofString "range") p) [e] [] cpos) env v = pure v := by intro _; rfl) :
    S prog w H0 k env σ dk (exec (.For (.Name x px) (.Call (.Name (Str.ofString "range") p) [e] [] cpos) body [] pos) env) K := by
  intro A s m ok R Q X hQ
  refine wpAny_For (range_iter ok G V hk R hn h fun I h' tk n dk₁ St hL R₁ K₁ hle hnI hR hal => ?_) hs
  obtain ⟨W, hst, hit⟩ := hR
  have W' : Walks prog w A I [I] [I] (rangeD n).length (fun i v => i < n ∧ ∃ t, v = .int (0 + (i : Nat) * 1) t) St := by
    rw [rangeD_length]
    exact ⟨W.sub, W.frame, fun i s' Q X hi hs hq => W.item i s' Q X hi hs fun v h' tk hp => hq v h' tk ⟨hi, hp⟩, W.done, W.self⟩
  refine for_core (k := k) (h₀ := s.heap) (m₀ := m) (σ₀ := σ) (dk₀ := dk) (m := m) (σ := σ) (dk := dk₁) (K := K) ok V (fun y hy => by rw [List.mem_singleton.mp hy]; exact hx) W' hit hnI (R.base.dom.none hnI) (fun i v s' Q X hst hq => wpAny_pure hq) R₁ K₁.step
    hst ?_ (fun i v hv => range_reads i v hv.1 hv.2) hL fun f h' tk o hK hO => hQ f h' tk o hK hO
  intro b hb
  rw [List.mem_singleton.mp hb]
  obtain ⟨o, vs, ho, hd⟩ := hit 0 _ hst
  exact ⟨hal, R₁.fields_not ho hd⟩
end
end
section -- Core16
section
variable {prog : Program} {w : World} {H0 : Heap} {mg mb : Vals} {k : Nat} {env : Env} {σ : Sto} {dk : Dk} {K : Out → Prop}
/-- an object c that the frame does not know changes -/
structure Apart (H0 : Heap) (env : Env) (h : Heap) (m : Vals) (σ : Sto) (dk : Dk) (c : Addr) : Prop where
  h0 : H0.get? c = .none
  L : c ≠ env.locals
  D : ¬ DkA m dk c
  cell : ¬ (∃ x, env.kindOf x = some .cell ∧ env.cells.lookup x = some c)
  lst : ∀ x o xs, σ x = some (.lst o xs) → m x ≠ some (.ref c)
  dl : ∀ l c' t, dk = some (l, c', t) → l ≠ c
  notup : ∀ o vs n, h.get? c = some o → o.cls = .type "tuple" → o.data ≠ .seq vs n
  nocost : NoCost σ
theorem Rel.other {h h' : Heap} {m : Vals} {c : Addr} (R : Rel prog w H0 env h m σ dk) (a : Apart H0 env h m σ dk c) (hk : ∀ b o, b ≠ c → h.get? b = some o → h'.get? b = some o) : Rel prog w H0 env h' m σ dk := by
  have tup : StaysTup h h' := fun b o vs n ho hc hd => hk b o (by rintro rfl; exact a.notup o vs n ho hc hd) ho
  refine ⟨fun b o ho => hk b o (by rintro rfl; rw [a.h0] at ho; cases ho) (R.base b o ho), ?_, R.newL, R.newC, ?_, R.own, R.cst, ?_⟩
  · refine ⟨?_, fun x d hx hc => ?_⟩
    · obtain ⟨mL, ⟨o, es, ep, ho, r⟩, hm⟩ := R.frm.ns
      exact ⟨mL, ⟨o, es, ep, hk _ o (Ne.symm a.L) ho, r⟩, hm⟩
    · obtain ⟨o, ho, hd⟩ := R.frm.cl x d hx hc
      exact ⟨o, hk _ o (by rintro rfl; exact a.cell ⟨x, hx, hc⟩) ho, hd⟩
  · intro x e hx
    obtain ⟨v, hv, hh⟩ := R.hold x e hx
    refine ⟨v, hv, ?_⟩
    cases e with
    | dat d => exact reads_tup tup hh
    | lst o xs =>
      obtain ⟨b, rfl, ⟨vs, ⟨n, p⟩, r⟩, h0⟩ := hh
      exact ⟨b, rfl, ⟨vs, ⟨n, hk _ _ (by rintro rfl; exact a.lst x o xs hx hv) p⟩, readsAll_tup tup r⟩, h0⟩
    | cost dx ps ds => exact absurd hx (a.nocost x dx ps ds)
  · intro l c' t hdk
    obtain ⟨b, h1, ⟨tok, ⟨o, es, ep, ho, r⟩, ⟨vs, ⟨n, p⟩, r'⟩⟩, h3⟩ := R.dek l c' t hdk
    have hb : b ≠ c := by rintro rfl; exact a.D ⟨by rw [hdk]; rfl, h1⟩
    exact ⟨b, h1, ⟨tok, ⟨o, es, ep, hk _ o hb ho, r⟩, ⟨vs, ⟨n, hk _ _ (a.dl l c' t hdk) p⟩, readsAll_tup tup r'⟩⟩, h3⟩
/-- what is not there yet is apart -/
theorem Rel.apart {h₀ h : Heap} {m : Vals} {dk₀ : Dk} {c : Addr} (R : Rel prog w H0 env h₀ m σ dk₀) (K : KeepE m dk₀ dk h₀ h) (hc : h₀.get? c = .none) (hn : ∀ o vs n, h.get? c = some o → o.cls = .type "tuple" → o.data ≠ .seq vs n) (nc : NoCost σ) : Apart H0 env h m σ dk c := by
  refine ⟨R.base.dom.none hc, ?_, ?_, ?_, ?_, ?_, hn, nc⟩
  · rintro rfl
    obtain ⟨_, ⟨_, _, _, ho, _⟩, _⟩ := R.frm.ns
    rw [hc] at ho; cases ho
  · rintro ⟨hs, hm⟩
    rw [K.dk] at hs
    obtain ⟨⟨l, c', t⟩, rfl⟩ := Option.isSome_iff_exists.mp hs
    obtain ⟨b, h1, ⟨_, ⟨_, _, _, ho, _⟩, _⟩, _⟩ := R.dek l c' t rfl
    rw [hm] at h1; cases h1
    rw [hc] at ho; cases ho
  · rintro ⟨x, hx, hl⟩
    obtain ⟨o, ho, _⟩ := R.frm.cl x c hx hl
    rw [hc] at ho; cases ho
  · intro x o xs hx hm
    obtain ⟨v, hv, b, rfl, ⟨_, ⟨_, p⟩, _⟩, _⟩ := R.hold x _ hx
    rw [hm] at hv; cases hv
    rw [hc] at p; cases p
  · rintro l c' t hdk rfl
    have e := K.dkl
    rw [hdk] at e
    obtain ⟨⟨l', c'', t'⟩, hdk', e'⟩ := Option.map_eq_some_iff.mp e.symm
    have e'' : l' = l := e'
    subst e''
    obtain ⟨_, _, ⟨_, _, ⟨_, ⟨_, p⟩, _⟩⟩, _⟩ := R.dek _ c'' t' hdk'
    rw [hc] at p; cases p
/-- what a block of a comprehension sees of the frame around it: the names that it closes over -/
noncomputable def weaken : Ent → Ent
  | .lst _ xs => .lst false xs
  | e => e
noncomputable def Caught (cenv : Env) (σ σc : Sto) : Prop := ∀ x e, σc x = some e → cenv.kindOf x = some .cell ∧ ∃ e', σ x = some e' ∧ e = weaken e'
structure BlockOk (env : Env) (scope : Scope) (cl : List (Str × Addr)) : Prop where
  clos : closureFor scope env = pure cl
  nocell : ∀ x ∈ scope.names, x.2 ≠ .cell
  kind : scope.kind = .function
  names : ∀ x ∈ scope.names, x.2 = .local → scope.names.lookup x.1 = some .local
  sub : ∀ x c, cl.lookup x = some c → env.kindOf x = some .cell ∧ env.cells.lookup x = some c
theorem block_env (V : EnvOk env) {scope : Scope} {cl : List (Str × Addr)} (B : BlockOk env scope cl) (C : Addr) : EnvOk (compEnvC scope cl C env) :=
  ⟨B.kind, V.gl, V.bl, fun x y c hx hy => V.inj x y c (B.sub x c hx).2 (B.sub y c hy).2⟩
/-- the block's frame, each turn anew -/
theorem block_rel (V : EnvOk env) {scope : Scope} {cl : List (Str × Addr)} (B : BlockOk env scope cl) {C : Addr} {h : Heap} {m : Vals} {mL : Vals} {σc σi : Sto} (R : Rel prog w H0 env h m σ dk) (hC : h.Ns C mL) (hC0 : H0.get? C = .none) (hCL : ¬ DkA m dk C)
    (hc : Caught (compEnvC scope cl C env) σ σc) (hi : ∀ x e, σi x = some e → ((compEnvC scope cl C env).kindOf x = some .local ∧ ∃ v d, mL x = some v ∧ e = .dat d ∧ Reads h v d []) ∨ ((compEnvC scope cl C env).kindOf x = some .cell ∧ σc x = some e)) (nc : NoCost σ)
    {dki : Dk} (hdk : dki = .none ∨ (dki = dk ∧ (compEnvC scope cl C env).kindOf deckName = some .cell)) :
    Rel prog w H0 (compEnvC scope cl C env) h (fun x => if (compEnvC scope cl C env).kindOf x = some .cell then m x else mL x) σi dki := by
  have own : ∀ b, ¬ OwnA (fun x => if (compEnvC scope cl C env).kindOf x = some .cell then m x else mL x) σi b := by
    rintro b ⟨x, xs, hx, _⟩
    rcases hi x _ hx with ⟨_, _, _, _, q, _⟩ | ⟨q1, q2⟩
    · cases q
    · obtain ⟨_, e', _, q⟩ := hc x _ q2
      cases e' <;> cases q
  refine ⟨R.base, ⟨⟨mL, hC, fun x hx => ?_⟩, fun x c hx hl => ?_⟩, hC0, fun x c hl => R.newC x c (B.sub x c hl).2, ?_, ?_, ?_, ?_⟩
  · rw [if_neg (by rw [hx]; intro q; cases q)]
  · rw [if_pos hx]
    exact R.frm.cl x c (B.sub x c hl).1 (B.sub x c hl).2
  · intro x e hx
    rcases hi x e hx with ⟨hk, v, d, hv, rfl, hr⟩ | ⟨hk, hcx⟩
    · exact ⟨v, by rw [if_neg (by rw [hk]; intro q; cases q)]; exact hv, hr⟩
    · obtain ⟨_, e', he', rfl⟩ := hc x e hcx
      obtain ⟨v, hv, hh⟩ := R.hold x e' he'
      refine ⟨v, by rw [if_pos hk]; exact hv, ?_⟩
      cases e' with
      | dat d => exact hh
      | lst o xs => obtain ⟨a, q1, q2, _⟩ := hh; exact ⟨a, q1, q2, by intro q; cases q⟩
      | cost dx ps ds => exact hh
  · intro x xs hx a hm
    exact absurd ⟨x, xs, hx, hm⟩ (own a)
  · intro x dx ps ds hx
    rcases hi x _ hx with ⟨_, _, _, _, q, _⟩ | ⟨q1, q2⟩
    · cases q
    · obtain ⟨_, e', he', q⟩ := hc x _ q2
      cases e' <;> cases q
      exact absurd he' (nc x dx ps ds)
  · intro l c t hd
    rcases hdk with q | ⟨q, hcell⟩
    · rw [q] at hd; cases hd
    · rw [q] at hd
      obtain ⟨a, h1, h2, h3, h4, h5⟩ := R.dek l c t hd
      refine ⟨a, by rw [if_pos hcell]; exact h1, h2, h3, ?_, own l⟩
      rintro rfl
      exact hCL ⟨by rw [hd]; rfl, h1⟩
/-- the deck moves on -/
theorem Rel.dkstep {h h' : Heap} {m : Vals} {l : Addr} {c c' : List Int} {t t' : Int} {ad : Addr} (R : Rel prog w H0 env h m σ (some (l, c, t))) (had : m deckName = some (.ref ad)) (hk : ∀ b o, b ≠ ad → h.get? b = some o → h'.get? b = some o) (hD : DeckAt prog w h' ad l c' t') (nc : NoCost σ) :
    Rel prog w H0 env h' m σ (some (l, c', t')) ∧ KeepE m (some (l, c, t)) (some (l, c', t')) h h' := by
  obtain ⟨a, h1, h2, h3, h4, h5⟩ := R.dek l c t rfl
  rw [had] at h1; cases h1
  have hDk : DkA m (some (l, c, t)) ad := ⟨rfl, had⟩
  have tup : StaysTup h h' := fun b o vs n ho _ hd => hk b o (by rintro rfl; exact deck_not_seq h2 ho hd rfl) ho
  refine ⟨⟨fun b o ho => hk b o (by rintro rfl; rw [h3] at ho; cases ho) (R.base b o ho), ?_, R.newL, R.newC, ?_, R.own, R.cst, ?_⟩, ⟨fun b o ho hn => hk b o (by rintro rfl; exact hn hDk) ho, fun b o ho => ?_, rfl⟩⟩
  · refine ⟨?_, fun x d hx hc => ?_⟩
    · obtain ⟨mL, ⟨o, es, ep, ho, r⟩, hm⟩ := R.frm.ns
      exact ⟨mL, ⟨o, es, ep, hk _ o (Ne.symm h4) ho, r⟩, hm⟩
    · obtain ⟨o, ho, hd⟩ := R.frm.cl x d hx hc
      refine ⟨o, hk _ o ?_ ho, hd⟩
      rintro rfl
      obtain ⟨_, ⟨o', _, _, ho', _, hd', _⟩, _⟩ := h2
      rw [ho] at ho'; cases ho'; rw [hd] at hd'; cases hd'
  · intro x e hx
    obtain ⟨v, hv, hh⟩ := R.hold x e hx
    refine ⟨v, hv, ?_⟩
    cases e with
    | dat d => exact reads_tup tup hh
    | lst o xs =>
      obtain ⟨b, rfl, ⟨vs, ⟨n, p⟩, r⟩, h0⟩ := hh
      exact ⟨b, rfl, ⟨vs, ⟨n, hk _ _ (deck_not_seq h2 p rfl) p⟩, readsAll_tup tup r⟩, h0⟩
    | cost dx ps ds => exact absurd hx (nc x dx ps ds)
  · intro l' c'' t'' hd
    cases hd
    exact ⟨ad, had, hD, h3, h4, h5⟩
  · by_cases q : b = ad
    · subst q; obtain ⟨_, ⟨o', _, _, ho', _⟩, _⟩ := hD; exact ⟨o', ho'⟩
    · exact ⟨o, hk b o q ho⟩
end
end
section -- Core17
section
variable {prog : Program} {w : World} {H0 : Heap} {mg mb : Vals} {k : Nat} {env : Env} {σ : Sto} {dk : Dk} {K : Out → Prop}
/-- the tests of a block -/
noncomputable def testsOf (ifs : List Expr) (cenv : Env) : Sem Bool :=
  forIn ifs true fun c r => if r = true then do let ok ← isTrue c cenv (eval c cenv); pure (ForInStep.yield ok) else pure (ForInStep.yield r)
/-- a block's turns, the tuple of an iterator let go or not -/
theorem blockTurns {A : Around} {R : Result → Shared → Prop} {s : Shared} {elt target iter : Expr} {ifs : List Expr} {scope : Scope} {pos : Pos} {it acc : Value} {cenv : Env} (J : Nat → Shared → Prop)
    (turn : ∀ n s, J n s → ∀ X : Value → Shared → Prop, wpAny (model prog w) A (pyNext it) (fun r s₁ => match r with
      | .none => R (.ok .next) s₁
      | some v => wpAny (model prog w) A (letOwnedTupleGo target it v) (fun _ s₁' => wpAny (model prog w) A (assign target cenv v) (fun _ s₂ => wpAny (model prog w) A (testsOf ifs cenv) (fun ok s₃ =>
          (ok = true → wpAny (model prog w) A (eval elt cenv) (fun x s₄ => wpAny (model prog w) A (call (.builtin "list.append") [acc, x]) (fun _ s₅ => ∃ m, m < n ∧ J m s₅) X s₄) X s₃) ∧ (ok = false → ∃ m, m < n ∧ J m s₃)) X s₂) X s₁') X s₁) X s)
    (n : Nat) (h : J n s) : codeAny (model prog w) A (.compLoop (.ListComp elt [⟨target, iter, ifs, 0⟩] scope pos) 0 it acc cenv) R s := by
  refine codeAny_loop rfl J (fun n s hJ => ?_) n h
  show wpAny _ A ((compTurn (.ListComp elt [⟨target, iter, ifs, 0⟩] scope pos) 0 it acc cenv).onRaise (fun x => do noteFrame x cenv; theTreesLotGoes x)) _ _ s
  refine wpAny_noted ?_
  rw [compTurn_list]
  refine wpAny_bind (wpAny_standAt (wpAny_bind (wpAny_mono (turn n s hJ _) (fun r s₁ h₁ => ?_) fun _ _ e => e)))
  cases r with
  | none => exact wpAny_pure h₁
  | some v =>
    refine wpAny_bind (wpAny_mono h₁ (fun _ s₁' h₁' => wpAny_bind (wpAny_mono h₁' (fun _ s₂ h₂ => wpAny_bind (wpAny_mono h₂ (fun ok s₃ h₃ => ?_) fun _ _ e => e)) fun _ _ e => e)) fun _ _ e => e)
    cases ok with
    | false => exact wpAny_pure ⟨rfl, h₃.2 rfl⟩
    | true => exact wpAny_bind (wpAny_bind (wpAny_mono (h₃.1 rfl) (fun x s₄ h₄ => wpAny_bind (wpAny_mono h₄ (fun _ s₅ h₅ => wpAny_pure (wpAny_pure ⟨rfl, h₅⟩)) fun _ _ e => e)) fun _ _ e => e))
noncomputable def Tests (prog : Program) (w : World) (H0 : Heap) (k : Nat) (cenv : Env) (σ : Sto) (dk : Dk) : List Expr → (Bool → Dk → Prop) → Prop
  | [], P => P true dk
  | [c], P => T prog w H0 k cenv σ dk (isTrue c cenv (eval c cenv)) P
  | _, _ => False
theorem tests_sound {A : Around} {X : Value → Shared → Prop} {s : Shared} {m : Vals} {cenv : Env} {ifs : List Expr} {P : Bool → Dk → Prop} {Q : Bool → Shared → Prop} (ok : Okay k A) (R : Rel prog w H0 cenv s.heap m σ dk) (h : Tests prog w H0 k cenv σ dk ifs P)
    (hQ : ∀ b h' tk dk', P b dk' → Rel prog w H0 cenv h' m σ dk' → KeepE m dk dk' s.heap h' → Q b ⟨h', s.gens, s.drawn, tk, s.os⟩) : wpAny (model prog w) A (testsOf ifs cenv) Q X s := by
  match ifs, h with
  | [], h => exact wpAny_tests_nil (hQ true s.heap s.toks dk h R .refl)
  | [c], h => exact wpAny_tests_one (h A s m ok R Q X hQ)
/-- a list comprehension's turns -/
noncomputable def CompL (prog : Program) (w : World) (H0 : Heap) (k : Nat) (cenv : Env) (target elt : Expr) (ifs : List Expr) (σc : Sto) : List PyData → Dk → List PyData → (List PyData → Dk → Prop) → Prop
  | [], dk, acc, K => K acc dk
  | d :: r, dk, acc, K => ∃ σ₁, bindT target d σc = some σ₁ ∧ Tests prog w H0 k cenv σ₁ dk ifs fun b dk₁ =>
    (b = false → CompL prog w H0 k cenv target elt ifs σc r dk₁ acc K) ∧ (b = true → E prog w H0 k cenv σ₁ dk₁ (eval elt cenv) fun ρ dk₂ => ∃ y, ρ = .dat y ∧ CompL prog w H0 k cenv target elt ifs σc r dk₂ (acc ++ [y]) K)
/-- what the block's own namespace says -/
noncomputable def Tells (cenv : Env) (σc : Sto) (h : Heap) (mL : Vals) (σ : Sto) : Prop :=
  ∀ x e, σ x = some e → (cenv.kindOf x = some .local ∧ ∃ v d, mL x = some v ∧ e = .dat d ∧ Reads h v d []) ∨ (cenv.kindOf x = some .cell ∧ σc x = some e)
theorem Tells.set {cenv : Env} {σc : Sto} {h h' : Heap} {mL : Vals} {σ : Sto} {x : Str} {v : Value} {d : PyData} (t : Tells cenv σc h mL σ) (hx : cenv.kindOf x = some .local) (st : StaysTup h h') (hr : Reads h v d []) : Tells cenv σc h' (fun y => if y = x then some v else mL y) (σ.set x (.dat d)) := by
  intro y e hy
  by_cases q : y = x
  · subst q
    rw [Sto.set_same] at hy; cases hy
    exact .inl ⟨hx, v, d, if_pos rfl, rfl, reads_tup st hr⟩
  · rw [Sto.set_ne _ _ q] at hy
    rcases t y e hy with ⟨a, u, d', b, c, r⟩ | z
    · exact .inl ⟨a, u, d', (if_neg q).trans b, c, reads_tup st r⟩
    · exact .inr z
theorem ns_tup {h h' : Heap} {C : Addr} {mL : Vals} (hn : h.Ns C mL) (hs : Heap.SameBut C h h') : StaysTup h h' := fun b o vs n ho _ hd => by
  refine (hs.2 b ?_).trans ho
  rintro rfl
  obtain ⟨_, _, _, ho', hd', _⟩ := hn
  rw [ho] at ho'; cases ho'; rw [hd] at hd'; cases hd'
theorem names_store {A : Around} {X : Value → Shared → Prop} {cenv : Env} {σc : Sto} (V : EnvOk cenv) : ∀ (xs : List Str) (ts : List (Value → Sem Unit)) (vs : List Value) (ds : List PyData) (s : Shared) (mL : Vals) (σ : Sto) (Q : Unit → Shared → Prop), Binds cenv ts xs → (∀ x ∈ xs, cenv.kindOf x = some .local) → ds.length = xs.length →
    s.heap.Ns cenv.locals mL → Tells cenv σc s.heap mL σ → ReadsAll s.heap vs ds [] →
    (∀ h' tk mL', h'.Ns cenv.locals mL' → Tells cenv σc h' mL' (setAll σ xs (ds.map .dat)) → Heap.SameBut cenv.locals s.heap h' → Q () ⟨h', s.gens, s.drawn, tk, s.os⟩) → wpAny (model prog w) A (assignInOrder ts vs) Q X s := by
  intro xs
  induction xs with
  | nil =>
    intro ts vs ds s mL σ Q B _ hl hn ht hr hQ
    cases B
    have e1 : ds = [] := List.length_eq_zero_iff.mp hl
    subst e1
    cases hr
    exact wpAny_pure (hQ s.heap s.toks mL hn ht (.refl ..))
  | cons x xs ih =>
    intro ts vs ds s mL σ Q B hk hl hn ht hr hQ
    cases B with
    | cons hb B =>
      match ds, vs, hl, hr with
      | d :: ds, v :: vs, hl, hr =>
        obtain ⟨h1, h2⟩ := readsAll_cases hr
        refine assignInOrder_cons (hb _ _ _ _ _ _ (wpAny_storeName_local (hk x (.head _)) hn (fun h' hn' hs' => ?_) V.plain))
        have st := ns_tup hn hs'
        exact ih _ vs ds _ _ _ Q B (fun y hy => hk y (.tail _ hy)) (Nat.succ.inj hl) hn' (ht.set (hk x (.head _)) st h1) (readsAll_tup st h2) fun h'' tk mL' hn'' ht'' hs'' => hQ h'' tk mL' hn'' ht'' (hs'.trans hs'')
theorem block_assign {A : Around} {X : Value → Shared → Prop} {cenv : Env} {σc σ₁ : Sto} {s : Shared} {mL : Vals} {target : Expr} {v : Value} {d : PyData} {Q : Unit → Shared → Prop} (hh : A.handled = .none) (V : EnvOk cenv) (hx : ∀ x ∈ tgtNames target, cenv.kindOf x = some .local) (hb : bindT target d σc = some σ₁)
    (hn : s.heap.Ns cenv.locals mL) (hr : Reads s.heap v d []) (hc : ∀ x e, σc x = some e → cenv.kindOf x = some .cell)
    (hQ : ∀ h' tk mL', h'.Ns cenv.locals mL' → Tells cenv σc h' mL' σ₁ → (∀ b o, b ≠ cenv.locals → s.heap.get? b = some o → h'.get? b = some o) → Q () ⟨h', s.gens, s.drawn, tk, s.os⟩) : wpAny (model prog w) A (assign target cenv v) Q X s := by
  have t0 : ∀ (h : Heap) (mL : Vals), Tells cenv σc h mL σc := fun h mL x e hxe => .inr ⟨hc x e hxe, hxe⟩
  cases target with
  | Name x p =>
    cases hb
    have hk := hx x (List.mem_singleton.mpr rfl)
    exact wpAny_assign_Name (wpAny_storeName_local hk hn (fun h' hn' hs' => hQ h' _ _ hn' ((t0 _ _).set hk (ns_tup hn hs') hr) fun b o hb ho => (hs'.2 b hb).trans ho) V.plain)
  | Tuple elts k1 tp =>
    cases d with
    | tuple ds =>
      obtain ⟨xs, hnm, hb⟩ := Option.bind_eq_some_iff.mp (show (namesOf elts).bind (fun xs => if ds.length = elts.length then some (setAll _ xs (ds.map .dat)) else .none) = some _ from hb)
      · by_cases hdl : ds.length = elts.length
        · rw [if_pos hdl] at hb
          cases hb
          obtain ⟨hb, hlen, hfi, hxl⟩ := binds_of (env := cenv) hnm
          have hx' : ∀ x ∈ xs, cenv.kindOf x = some .local := fun x q => hx x (by show x ∈ (namesOf elts).getD []; rw [hnm]; exact q)
          obtain ⟨a, o, vs, n, rfl, ho, hc', hdd, hr⟩ := reads_tuple_inv hr
          have e1 := readsAll_length hr
          rw [Array.length_toList] at e1
          refine wpAny_assign_Tuple hh (items := vs) ⟨o, ho, hc', n, hdd⟩ (by rw [hlen, e1, hdl]) hfi fun h₂ he => ?_
          have st2 : Stays s.heap h₂ := fun b o e => he b o (Nat.ne_of_lt (Heap.lt_size e)) e
          refine names_store V xs _ _ ds _ mL σc _ hb hx' (by rw [hdl, hxl]) (hn.keeps st2) (t0 _ _) (ReadsAll.keeps st2 hr) fun h' tk mL' hn' ht' hs' => hQ h' tk mL' hn' ht' fun b o hb ho => (hs'.2 b hb).trans (st2 b o ho)
        · rw [if_neg hdl] at hb; cases hb
    | _ => cases hb
  | _ => cases hb
theorem KeepE.but {h₀ h h' : Heap} {m : Vals} {dk dk' : Dk} {c : Addr} (K : KeepE m dk dk' h₀ h) (hk : ∀ b o, b ≠ c → h.get? b = some o → h'.get? b = some o) (hc : h₀.get? c = .none) : KeepE m dk dk' h₀ h' :=
  ⟨fun b o ho hn => hk b o (by rintro rfl; rw [hc] at ho; cases ho) (K.get b o ho hn), fun b o ho => by
    obtain ⟨o', ho'⟩ := K.dom b o ho
    exact ⟨o', hk b o' (by rintro rfl; rw [hc] at ho; cases ho) ho'⟩, K.dkl⟩
/-- the deck within the block: not known, or as it stands -/
inductive Link : Bool → Dk → Dk → Dk → Prop
  | out (dk : Dk) : Link false .none dk dk
  | inn (d dk : Dk) : Link true d d dk
end
end
section -- Core18
section
variable {prog : Program} {w : World} {H0 : Heap} {mg mb : Vals} {k : Nat} {env : Env} {σ : Sto} {dk : Dk} {K : Out → Prop}
/-- a tree within the block, seen from the frame around it -/
theorem block_outer {h₀ h h' : Heap} {m mc : Vals} {dk₀ dki dki' dko dk : Dk} {bd : Bool} {cenv : Env} {σi : Sto} (R₀ : Rel prog w H0 env h₀ m σ dk₀) (R : Rel prog w H0 env h m σ dko) (K : KeepE m dk₀ dko h₀ h) (nc : NoCost σ)
    (Ki : KeepE mc dki dki' h h') (Ri : Rel prog w H0 cenv h' mc σi dki') (hl : Link bd dki dko dk) (hm : dki = .none ∨ mc deckName = m deckName) :
    ∃ dko', Rel prog w H0 env h' m σ dko' ∧ KeepE m dk₀ dko' h₀ h' ∧ Link bd dki' dko' dk ∧ (dki = .none → dki' = .none) ∧ (∀ b o, h.get? b = some o → ¬ DkA m dk₀ b → h'.get? b = some o) := by
  have dn : dki = .none → dki' = .none := fun q => by
    have := Ki.dk
    rw [q] at this
    cases dki' with
    | none => rfl
    | some z => cases this
  have all : dki = .none → Stays h h' := fun q b o ho => Ki.get b o ho fun z => by rw [q] at z; cases z.1
  cases hl with
  | out =>
    have st := all rfl
    rw [dn rfl]
    exact ⟨_, R.stays st, K.trans (KeepE.of_stays st), .out _, fun _ => rfl, fun b o ho _ => st b o ho⟩
  | inn =>
    cases dki with
    | none =>
      have st := all rfl
      rw [dn rfl]
      exact ⟨.none, R.stays st, K.trans (KeepE.of_stays st), .inn .none _, fun _ => rfl, fun b o ho _ => st b o ho⟩
    | some z =>
      obtain ⟨l, c, t⟩ := z
      obtain ⟨⟨l', c', t'⟩, e1, e2⟩ : ∃ z, dki' = some z ∧ z.1 = l := by
        have := Ki.dkl
        cases dki' with
        | none => cases this
        | some z => exact ⟨z, rfl, by simpa using this⟩
      subst e1
      have e3 : l' = l := e2
      subst e3
      obtain ⟨a, h1, h2, _⟩ := Ri.dek l' c' t' rfl
      have hmm : mc deckName = m deckName := hm.elim (fun q => by cases q) id
      rw [hmm] at h1
      have keep : ∀ b o, b ≠ a → h.get? b = some o → h'.get? b = some o := fun b o hb ho => Ki.get b o ho fun z => by
        have z2 := z.2
        rw [hmm, h1] at z2; cases z2; exact hb rfl
      obtain ⟨R', K'⟩ := R.dkstep h1 keep h2 nc
      exact ⟨_, R', K.trans K', .inn _ _, (by intro q; cases q), fun b o ho hn => keep b o (by rintro rfl; exact hn ⟨by rw [← K.dk]; rfl, h1⟩) ho⟩
/-- what holds between the turns of a block -/
structure CompI (prog : Program) (w : World) (H0 : Heap) (k : Nat) (env : Env) (σ : Sto) (dk : Dk) (h₀ : Heap) (m : Vals) (dk₀ : Dk) (bd : Bool) (cenv : Env) (C D : Addr) (target elt : Expr) (ifs : List Expr) (fp : List Addr) (P : Nat → Value → Prop) (St : Nat → Heap → Prop) (xs : List PyData) (σc : Sto) (KK : List PyData → Dk → Prop) (i : Nat) (h' : Heap) (mL' : Vals) (ys : Array Value) (acc : List PyData) (dko dki' : Dk) : Prop where
  hi : i ≤ xs.length
  hst : St i h'
  R : Rel prog w H0 env h' m σ dko
  K : KeepE m dk₀ dko h₀ h'
  hn : h'.Ns C mL'
  hacc : h'.PlainList D ys
  hra : ReadsAll h' ys.toList acc []
  hal : acc.length ≤ i
  hlk : Link bd dki' dko dk
  hfp : ∀ b ∈ fp, ∃ o, h'.get? b = some o
  hrd : ∀ i v, P i v → ∃ d, xs[i]? = some d ∧ Reads h' v d []
  hL : CompL prog w H0 k cenv target elt ifs σc (xs.drop i) dki' acc KK
noncomputable abbrev compJ (prog : Program) (w : World) (H0 : Heap) (k : Nat) (env : Env) (σ : Sto) (dk : Dk) (h₀ : Heap) (m : Vals) (dk₀ : Dk) (bd : Bool) (cenv : Env) (C D : Addr) (target elt : Expr) (ifs : List Expr) (fp : List Addr) (P : Nat → Value → Prop) (St : Nat → Heap → Prop) (xs : List PyData) (σc : Sto) (KK : List PyData → Dk → Prop) (s : Shared) (n : Nat) (s' : Shared) : Prop :=
  ∃ i h' tk mL' ys acc dko dki', n = xs.length + 1 - i ∧ s' = ⟨h', s.gens, s.drawn, tk, s.os⟩ ∧ CompI prog w H0 k env σ dk h₀ m dk₀ bd cenv C D target elt ifs fp P St xs σc KK i h' mL' ys acc dko dki'
theorem comp_core {A : Around} {R : Result → Shared → Prop} {s : Shared} {h₀ : Heap} {m : Vals} {dk₀ dki : Dk} {bd : Bool} {scope : Scope} {cl : List (Str × Addr)} {C D I : Addr} {mL : Vals} {target elt iter : Expr} {ifs : List Expr} {pos : Pos} {fp : List Addr} {P : Nat → Value → Prop} {St : Nat → Heap → Prop} {xs : List PyData} {σc : Sto} {KK : List PyData → Dk → Prop}
    (ok : Okay k A) (V : EnvOk env) (B : BlockOk env scope cl) (R₀ : Rel prog w H0 env h₀ m σ dk₀) (nc : NoCost σ) (W : Walks prog w A I fp [I] xs.length P St) (hI : ∀ i h, St i h → IterAt h I)
    (hgo : ∀ i v (s' : Shared) (Q : Unit → Shared → Prop) (X : Value → Shared → Prop), St i s'.heap → Q () s' → wpAny (model prog w) A (letOwnedTupleGo target (.ref I) v) Q X s')
    (hC0 : h₀.get? C = .none) (hD0 : h₀.get? D = .none) (hI0 : h₀.get? I = .none) (hCD : C ≠ D) (hCI : C ≠ I) (hDI : D ≠ I) (hCf : C ∉ fp) (hDf : D ∉ fp)
    (hx : ∀ x ∈ tgtNames target, (compEnvC scope cl C env).kindOf x = some .local) (hc : Caught (compEnvC scope cl C env) σ σc) (hcap : bd = false ∨ (compEnvC scope cl C env).kindOf deckName = some .cell) (hle : xs.length ≤ 10000)
    (R₁ : Rel prog w H0 env s.heap m σ dk) (K₁ : KeepE m dk₀ dk h₀ s.heap) (hl : Link bd dki dk dk) (hst : St 0 s.heap) (hfp : ∀ b ∈ fp, (∃ o, s.heap.get? b = some o) ∧ ¬ DkA m dk₀ b) (hn : s.heap.Ns C mL) (hacc : s.heap.PlainList D #[]) (hrd : ∀ i v, P i v → ∃ d, xs[i]? = some d ∧ Reads s.heap v d [])
    (hL : CompL prog w H0 k (compEnvC scope cl C env) target elt ifs σc xs dki [] KK)
    (hR : ∀ h' tk mL' ys acc dko dki', KK acc dki' → Link bd dki' dko dk → Rel prog w H0 env h' m σ dko → KeepE m dk₀ dko h₀ h' → h'.Ns C mL' → h'.PlainList D ys → ReadsAll h' ys.toList acc [] → R (.ok .next) ⟨h', s.gens, s.drawn, tk, s.os⟩) :
    codeAny (model prog w) A (.compLoop (.ListComp elt [⟨target, iter, ifs, 0⟩] scope pos) 0 (.ref I) (.ref D) (compEnvC scope cl C env)) R s := by
  have Vc := block_env V B C
  refine hideJ (compJ prog w H0 k env σ dk h₀ m dk₀ bd (compEnvC scope cl C env) C D target elt ifs fp P St xs σc KK s) fun J jIn jOut => ?_
  refine blockTurns J ?_ (xs.length + 1)
    (jOut _ _ ⟨0, s.heap, s.toks, mL, #[], [], dk, dki, rfl, rfl, ⟨Nat.zero_le _, hst, R₁, K₁, hn, hacc, .nil, Nat.zero_le _, hl, fun b hb => (hfp b hb).1, hrd, by simpa using hL⟩⟩)
  intro n s' hj X
  obtain ⟨i, h', tk, mL', ys, acc, dko, dki', rfl, rfl, ⟨hi, hst', R', K', hn', hacc', hra, hal, hlk, hfp', hrd', hL'⟩⟩ := jIn _ _ hj
  clear jIn hj
  have iterNe : ∀ {h : Heap} {o : Obj}, IterAt h I → h.get? I = some o → o.cls ≠ .type "tuple" ∨ ∃ vs, o.data = .fields vs := by
    rintro h o ⟨o', vs, ho', hd'⟩ ho
    rw [ho] at ho'; cases ho'; exact .inr ⟨vs, hd'⟩
  have dkb : ∀ {dk' : Dk}, KeepE m dk₀ dk' h₀ h' → ∀ b ∈ fp, ¬ DkA m dk' b := fun K b hb q => (hfp b hb).2 ⟨K.dk ▸ q.1, q.2⟩
  -- the iterator's own object moves
  have stepI : ∀ h₁ : Heap, (∀ b o, b ≠ I → h'.get? b = some o → h₁.get? b = some o) → Rel prog w H0 env h₁ m σ dko ∧ KeepE m dk₀ dko h₀ h₁ ∧ h₁.Ns C mL' ∧ h₁.PlainList D ys ∧ StaysSeq h' h₁ := by
    intro h₁ hk
    obtain ⟨R₁', seq⟩ := R'.but (hI i h' hst') (R₀.base.dom.none hI0) hk
    refine ⟨R₁', K'.but hk hI0, ?_, ?_, seq⟩
    · obtain ⟨o, es, ep, ho, r⟩ := hn'; exact ⟨o, es, ep, hk C o hCI ho, r⟩
    · obtain ⟨n, p⟩ := hacc'; exact ⟨n, hk D _ hDI p⟩
  by_cases hlt : i < xs.length
  · refine W.item i _ _ _ hlt hst' fun v h₁ tk₁ hPv hst₁ hk₁ => ?_
    have hk : ∀ b o, b ≠ I → h'.get? b = some o → h₁.get? b = some o := fun b o hb => hk₁ b o (by simpa using hb)
    obtain ⟨R₁', K₁', hn₁, ha₁, seq⟩ := stepI h₁ hk
    obtain ⟨d, hd, hr⟩ := hrd' i v hPv
    have e : xs.drop i = d :: xs.drop (i + 1) := by
      obtain ⟨hi', hd'⟩ := List.getElem?_eq_some_iff.mp hd
      rw [List.drop_eq_getElem_cons hi', hd']
    rw [e] at hL'
    obtain ⟨σ₁, hb, hT⟩ := hL'
    refine hgo (i + 1) v _ _ _ hst₁ ?_
    refine block_assign ok.hd Vc hx hb hn₁ (reads_seq seq hr) (fun x e he => (hc x e he).1) fun h₂ tk₂ mL₂ hn₂ ht₂ hk₂ => ?_
    have hk₂' : ∀ b o, b ≠ C → h₁.get? b = some o → h₂.get? b = some o := hk₂
    have hn₂' : h₂.Ns C mL₂ := hn₂
    have nsC : ∀ {h : Heap} {mm : Vals}, h.Ns C mm → ∀ o, h.get? C = some o → ∀ vs n, o.data ≠ .seq vs n := by
      rintro h mm ⟨o', es, ep, ho', hd', _⟩ o ho vs n hds
      rw [ho] at ho'; cases ho'; rw [hds] at hd'; cases hd'
    have R₂ : Rel prog w H0 env h₂ m σ dko := R₁'.other (R₀.apart K₁' hC0 (fun o vs n ho _ hd => nsC hn₁ o ho vs n hd) nc) hk₂'
    have K₂ := K₁'.but hk₂' hC0
    have hdki : dki' = .none ∨ (dki' = dko ∧ (compEnvC scope cl C env).kindOf deckName = some .cell) := by
      cases hlk with
      | out => exact .inl rfl
      | inn => exact .inr ⟨rfl, hcap.elim (by intro q; cases q) id⟩
    have hCD' : ¬ DkA m dko C := (R₀.apart K₂ hC0 (fun o vs n ho _ hd => nsC hn₂' o ho vs n hd) nc).D
    have Ri := block_rel V B R₂ hn₂' (R₀.base.dom.none hC0) hCD' hc ht₂ nc hdki
    have hmc : dki' = .none ∨ (fun x => if (compEnvC scope cl C env).kindOf x = some .cell then m x else mL₂ x) deckName = m deckName := hdki.imp id fun q => if_pos q.2
    refine tests_sound (k := k) ok Ri hT fun b h₃ tk₃ dk₃ ⟨hF, hTr⟩ Ri₃ Ki₃ => ?_
    obtain ⟨dko₃, R₃, K₃, hlk₃, hdn₃, fr₃⟩ := block_outer R₀ R₂ K₂ nc Ki₃ Ri₃ hlk hmc
    have fr : ∀ b o, b ≠ C → ¬ DkA m dk₀ b → h₁.get? b = some o → h₃.get? b = some o := fun b o hb hd ho => fr₃ b o (hk₂' b o hb ho) hd
    have nDk : ∀ c, h₀.get? c = .none → ¬ DkA m dk₀ c := by
      rintro c hcn ⟨hs, hm⟩
      obtain ⟨⟨l, c', t⟩, rfl⟩ := Option.isSome_iff_exists.mp hs
      obtain ⟨a, h1, ⟨_, ⟨_, _, _, ho, _⟩, _⟩, _⟩ := R₀.dek l c' t rfl
      rw [hm] at h1; cases h1; rw [hcn] at ho; cases ho
    have hn₃ : h₃.Ns C mL₂ := by
      obtain ⟨o, es, ep, ho, r⟩ := hn₂'
      exact ⟨o, es, ep, fr₃ C o ho (nDk C hC0), r⟩
    have ha₃ : h₃.PlainList D ys := by
      obtain ⟨n, p⟩ := ha₁; exact ⟨n, fr D _ (Ne.symm hCD) (nDk D hD0) p⟩
    have toDk : ∀ {b : Addr}, DkA m dk₀ b → DkA m dko b := fun q => ⟨by rw [K₁'.dk]; exact q.1, q.2⟩
    have tup₃ : StaysTup h₁ h₃ := by
      intro b o vs n ho hcl hds
      obtain ⟨_, t2, _⟩ := R₁'.tup_not ho hds
      exact fr b o (by rintro rfl; exact nsC hn₁ o ho vs n hds) (fun q => t2 (toDk q)) ho
    have hra₃ : ReadsAll h₃ ys.toList acc [] := readsAll_tup tup₃ (readsAll_seq seq hra)
    have alive₁ : ∀ b ∈ fp, ∃ o, h₁.get? b = some o := fun b hb => by
      by_cases q : b = I
      · subst q; obtain ⟨o, _, ho, _⟩ := hI _ _ hst₁; exact ⟨o, ho⟩
      · obtain ⟨o, ho⟩ := hfp' b hb; exact ⟨o, hk b o q ho⟩
    have fpk : ∀ b ∈ fp, ∀ o, h₁.get? b = some o → h₃.get? b = some o := fun b hb o ho => fr b o (by rintro rfl; exact hCf hb) (hfp b hb).2 ho
    have rd₃ : ∀ i v, P i v → ∃ d, xs[i]? = some d ∧ Reads h₃ v d [] := fun j u hu => by
      obtain ⟨d', hd', hr'⟩ := hrd' j u hu
      exact ⟨d', hd', reads_tup tup₃ (reads_seq seq hr')⟩
    refine ⟨fun hb => ?_, fun hb => ?_⟩
    · refine hTr hb A _ _ ok Ri₃ _ _ ?_
      rintro v₄ h₄ tk₄ ρ dk₄ ⟨y, rfl, hL₄⟩ Ri₄ Ki₄ V₄
      have hmc₃ : dk₃ = .none ∨ (fun x => if (compEnvC scope cl C env).kindOf x = some .cell then m x else mL₂ x) deckName = m deckName := hmc.imp hdn₃ id
      obtain ⟨dko₄, R₄, K₄, hlk₄, hdn₄, fr₄⟩ := block_outer R₀ R₃ K₃ nc Ki₄ Ri₄ hlk₃ hmc₃
      have hn₄ : h₄.Ns C mL₂ := by
        obtain ⟨o, es, ep, ho, r⟩ := hn₃
        exact ⟨o, es, ep, fr₄ C o ho (nDk C hC0), r⟩
      have ha₄ : h₄.PlainList D ys := by
        obtain ⟨n, p⟩ := ha₃; exact ⟨n, fr₄ D _ p (nDk D hD0)⟩
      have toDk₃ : ∀ {b : Addr}, DkA m dk₀ b → DkA m dko₃ b := fun q => ⟨by rw [K₃.dk]; exact q.1, q.2⟩
      have tup₄ : StaysTup h₃ h₄ := by
        intro b o vs n ho hcl hds
        obtain ⟨_, t2, _⟩ := R₃.tup_not ho hds
        exact fr₄ b o ho fun q => t2 (toDk₃ q)
      have hra₄ := readsAll_tup tup₄ hra₃
      have hys : ys.size = acc.length := by
        have := readsAll_length hra₄
        rwa [Array.length_toList] at this
      refine wpAny_list_append_plain (hsz := by rw [hys, sizeLine_eq]; omega) ha₄ fun h₅ ha₅ sb => ?_
      have hk₅ : ∀ b o, b ≠ D → h₄.get? b = some o → h₅.get? b = some o := fun b o hb ho => (sb.2 b hb).trans ho
      have notD : ∀ o vs n, h₄.get? D = some o → o.cls = .type "tuple" → o.data ≠ .seq vs n := by
        intro o vs n ho hcl _
        obtain ⟨n', p⟩ := ha₄
        rw [p] at ho; cases ho
        exact absurd (show Value.type "list" = Value.type "tuple" from hcl) (by decide)
      have R₅ : Rel prog w H0 env h₅ m σ dko₄ := R₄.other (R₀.apart K₄ hD0 notD nc) hk₅
      have K₅ := K₄.but hk₅ hD0
      have tup₅ : StaysTup h₄ h₅ := fun b o vs n ho hcl hds => hk₅ b o (by rintro rfl; exact notD o vs n ho hcl hds) ho
      have hn₅ : h₅.Ns C mL₂ := by
        obtain ⟨o, es, ep, ho, r⟩ := hn₄
        exact ⟨o, es, ep, hk₅ C o hCD ho, r⟩
      refine ⟨xs.length + 1 - (i + 1), by omega, jOut _ _ ⟨i + 1, h₅, tk₄, mL₂, ys.push v₄, acc ++ [y], dko₄, dk₄, rfl, rfl, ⟨hlt, W.frame _ _ _ hst₁ (fun b hb o ho => hk₅ b o (by rintro rfl; exact hDf hb) (fr₄ b o (fpk b hb o ho) (hfp b hb).2)), R₅, K₅, hn₅, ha₅, ?_, ?_, hlk₄, ?_, ?_, hL₄⟩⟩⟩
      · rw [Array.toList_push]
        exact readsAll_append (readsAll_tup tup₅ hra₄) (readsAll_cons (reads_tup tup₅ V₄) .nil)
      · rw [List.length_append, List.length_singleton]; omega
      · intro b hb
        obtain ⟨o, ho⟩ := alive₁ b hb
        exact ⟨o, hk₅ b o (by rintro rfl; exact hDf hb) (fr₄ b o (fpk b hb o ho) (hfp b hb).2)⟩
      · intro j u hu
        obtain ⟨d', hd', hr'⟩ := rd₃ j u hu
        exact ⟨d', hd', reads_tup tup₅ (reads_tup tup₄ hr')⟩
    · refine ⟨xs.length + 1 - (i + 1), by omega, jOut _ _ ⟨i + 1, h₃, tk₃, mL₂, ys, acc, dko₃, dk₃, rfl, rfl, ⟨hlt, W.frame _ _ _ hst₁ fpk, R₃, K₃, hn₃, ha₃, hra₃, by omega, hlk₃, ?_, rd₃, hF hb⟩⟩⟩
      intro b hb
      obtain ⟨o, ho⟩ := alive₁ b hb
      exact ⟨o, fpk b hb o ho⟩
  · have hin : i = xs.length := by omega
    subst hin
    refine W.done _ _ _ hst' fun h₁ tk₁ hk₁ => ?_
    have hk : ∀ b o, b ≠ I → h'.get? b = some o → h₁.get? b = some o := fun b o hb => hk₁ b o (by simpa using hb)
    obtain ⟨R₁', K₁', hn₁, ha₁, seq⟩ := stepI h₁ hk
    rw [List.drop_length] at hL'
    exact hR h₁ tk₁ mL' ys acc dko dki' hL' hlk R₁' K₁' hn₁ ha₁ (readsAll_seq seq hra)
end
end
section -- Core19
section
variable {prog : Program} {w : World} {H0 : Heap} {mg mb : Vals} {k : Nat} {env : Env} {σ : Sto} {dk : Dk} {K : Out → Prop}
theorem comp_run {A : Around} {X : Value → Shared → Prop} {s : Shared} {h₀ : Heap} {m : Vals} {dk₀ dki : Dk} {bd : Bool} {scope : Scope} {cl : List (Str × Addr)} {I : Addr} {target elt iter : Expr} {ifs : List Expr} {pos : Pos} {fp : List Addr} {P : Nat → Value → Prop} {St : Nat → Heap → Prop} {xs : List PyData} {σc : Sto} {KK : List PyData → Dk → Prop} {RR : Value → Addr → Result → Shared → Prop}
    (ok : Okay k A) (V : EnvOk env) (B : BlockOk env scope cl) (R₀ : Rel prog w H0 env h₀ m σ dk₀) (nc : NoCost σ) (W : Walks prog w A I fp [I] xs.length P St) (hI : ∀ i h, St i h → IterAt h I)
    (hgo : ∀ i v (s' : Shared) (Q : Unit → Shared → Prop) (X : Value → Shared → Prop), St i s'.heap → Q () s' → wpAny (model prog w) A (letOwnedTupleGo target (.ref I) v) Q X s')
    (hI0 : h₀.get? I = .none) (hx : ∀ C, ∀ x ∈ tgtNames target, (compEnvC scope cl C env).kindOf x = some .local) (hc : ∀ C, Caught (compEnvC scope cl C env) σ σc) (hcap : ∀ C, bd = false ∨ (compEnvC scope cl C env).kindOf deckName = some .cell) (hle : xs.length ≤ 10000)
    (R₁ : Rel prog w H0 env s.heap m σ dk) (K₁ : KeepE m dk₀ dk h₀ s.heap) (hl : Link bd dki dk dk) (hst : St 0 s.heap) (hfp : ∀ b ∈ fp, (∃ o, s.heap.get? b = some o) ∧ ¬ DkA m dk₀ b) (hIf : I ∈ fp) (hrd : ∀ i v, P i v → ∃ d, xs[i]? = some d ∧ Reads s.heap v d [])
    (hL : ∀ C, CompL prog w H0 k (compEnvC scope cl C env) target elt ifs σc xs dki [] KK)
    (hR : ∀ D C h' tk mL' ys acc dko dki', KK acc dki' → Link bd dki' dko dk → Rel prog w H0 env h' m σ dko → KeepE m dk₀ dko h₀ h' → h'.Ns C mL' → h'.PlainList D ys → ReadsAll h' ys.toList acc [] → h₀.get? D = .none → h₀.get? C = .none → C ≠ D →
      RR (.ref D) C (.ok .next) ⟨h', s.gens, s.drawn, tk, s.os⟩) :
    wpAny (model prog w) A (newList []) (fun acc s₃ => wpAny (model prog w) A (newFunctionEnv scope env.globals cl [] env.qual none .none (some env)) (fun cenv s₄ =>
      codeAny (model prog w) A (.compStart (.ListComp elt [⟨target, iter, ifs, 0⟩] scope pos) 0 (.ref I) acc { cenv with scope := relabel scope env }) (RR acc cenv.locals) s₄) X s₃) X s := by
  refine wpAny_newList (wpAny_newFunctionEnv B.nocell (by intro y hy; cases hy) (fun h₁ hns hsb => ?_) B.kind) (by show 0 ≤ _; exact Nat.zero_le _)
  dsimp only at hns hsb ⊢
  generalize hH2 : s.heap.push { cls := .type "list", dict := none, data := .seq ([] : List Value).toArray } = H2 at hns hsb ⊢
  have hC : H2.objs.size = s.heap.objs.size + 1 := by rw [← hH2, Heap.size_push]
  have hCD : H2.objs.size ≠ s.heap.objs.size := by omega
  have st2 : Stays s.heap H2 := hH2 ▸ push_stays _ _
  have st1 : Stays s.heap h₁ := fun b o e => (hsb.2 b (Nat.ne_of_lt (by rw [hC]; exact Nat.lt_succ_of_lt (Heap.lt_size e)))).trans (Heap.get?_push_of_some _ (st2 b o e))
  have hD0 : h₀.get? s.heap.objs.size = .none := K₁.dom.none (new_none _)
  have hC0 : h₀.get? H2.objs.size = .none := (K₁.dom.trans st2.dom).none (new_none _)
  have lt : ∀ b ∈ fp, b < s.heap.objs.size := fun b hb => by obtain ⟨o, ho⟩ := (hfp b hb).1; exact Heap.lt_size ho
  have hacc : h₁.PlainList s.heap.objs.size #[] := ⟨_, (hsb.2 _ (Ne.symm hCD)).trans (Heap.get?_push_of_some _ (hH2 ▸ Heap.get?_push_size _ rfl))⟩
  have hst₁ : St 0 h₁ := W.frame _ _ _ hst fun b _ o e => st1 b o e
  have loop : codeAny (model prog w) A (.compLoop (.ListComp elt [⟨target, iter, ifs, 0⟩] scope pos) 0 (.ref I) (.ref s.heap.objs.size) (compEnvC scope cl H2.objs.size env)) (RR (.ref s.heap.objs.size) H2.objs.size) ⟨h₁, s.gens, s.drawn, s.toks + ([] : List (Str × Value)).length, s.os⟩ := by
    refine comp_core (k := k) (s := ⟨h₁, s.gens, s.drawn, s.toks + ([] : List (Str × Value)).length, s.os⟩) (h₀ := h₀) (dk₀ := dk₀) (dk := dk) (KK := KK) ok V B R₀ nc W hI hgo hC0 hD0 hI0 hCD (fun q => ?_) (fun q => ?_) (fun q => ?_) (fun q => ?_) (hx _) (hc _) (hcap _) hle (R₁.stays st1) (K₁.trans (KeepE.of_stays st1)) hl hst₁
      (fun b hb => ⟨let ⟨o, ho⟩ := (hfp b hb).1; ⟨o, st1 b o ho⟩, (hfp b hb).2⟩) hns hacc (fun i v hv => let ⟨d, hd, hr⟩ := hrd i v hv; ⟨d, hd, Reads.keeps st1 hr⟩) (hL _) fun h' tk mL' ys acc dko dki' a1 a2 a4 a5 a6 a7 a8 => hR _ _ h' tk mL' ys acc dko dki' a1 a2 a4 a5 a6 a7 a8 hD0 hC0 hCD
    · have h9 := lt I hIf; rw [← q, hC] at h9; exact absurd h9 (Nat.not_lt.mpr (Nat.le_succ _))
    · have h9 := lt I hIf; rw [← q] at h9; exact Nat.lt_irrefl _ h9
    · have h9 := lt _ q; rw [hC] at h9; exact absurd h9 (Nat.not_lt.mpr (Nat.le_succ _))
    · exact Nat.lt_irrefl _ (lt _ q)
  exact codeAny_compStart_list loop (W.self 0 _ _ _ hst₁ loop)
theorem post_none {A : Around} {X : Value → Shared → Prop} {Q : Value → Shared → Prop} {acc : Value} {C : Addr} {s' : Shared} (h : ∃ mm, s'.heap.Ns C mm ∧ ∀ h', Heap.SameBut C s'.heap h' → Q acc { s' with heap := h' }) : compPost (model prog w) A X .none Q acc C (.ok .next) s' := h
/-- the last turn behind: the frame and the made list -/
theorem comp_end {h₀ h' h'' : Heap} {m : Vals} {dk₀ dko : Dk} {D C : Addr} {mL' : Vals} {ys : Array Value} {acc : List PyData} (R₀ : Rel prog w H0 env h₀ m σ dk₀) (nc : NoCost σ) (R : Rel prog w H0 env h' m σ dko) (K : KeepE m dk₀ dko h₀ h') (hn : h'.Ns C mL') (hp : h'.PlainList D ys) (hr : ReadsAll h' ys.toList acc []) (hD0 : h₀.get? D = .none) (hC0 : h₀.get? C = .none) (hCD : C ≠ D)
    (hs : Heap.SameBut C h' h'') : Rel prog w H0 env h'' m σ dko ∧ KeepE m dk₀ dko h₀ h'' ∧ Vl prog w m σ h₀ h'' (.ref D) (.lst .fresh acc) := by
  have nsC : ∀ o vs n, h'.get? C = some o → o.cls = .type "tuple" → o.data ≠ .seq vs n := by
    rintro o vs n ho _ hds
    obtain ⟨o', es, ep, ho', hd', _⟩ := hn
    rw [ho] at ho'; cases ho'; rw [hds] at hd'; cases hd'
  have hk : ∀ b o, b ≠ C → h'.get? b = some o → h''.get? b = some o := fun b o hb ho => (hs.2 b hb).trans ho
  refine ⟨R.other (R₀.apart K hC0 nsC nc) hk, K.but hk hC0, D, rfl, ⟨ys, ?_, ?_⟩, fun _ => hD0, (by intro q; cases q)⟩
  · obtain ⟨n, p⟩ := hp; exact ⟨n, hk D _ (Ne.symm hCD) p⟩
  · exact readsAll_tup (fun b o vs n ho hc hd => hk b o (by rintro rfl; exact nsC o vs n ho hc hd) ho) hr
/-- [elt for target in iter if ..], iter a list; the block knows nothing of the deck or all -/
theorem E.comp {target elt iter : Expr} {ifs : List Expr} {scope : Scope} {cl : List (Str × Addr)} {pos : Pos} {P : Res → Dk → Prop} (σc : Sto) (deck : Bool) (V : EnvOk env) (B : BlockOk env scope cl) (nc : NoCost σ) (ht : isTgt target = true)
    (hx : ∀ C, ∀ x ∈ tgtNames target, (compEnvC scope cl C env).kindOf x = some .local) (hc : ∀ C, Caught (compEnvC scope cl C env) σ σc) (hcap : deck = true → ∀ C, (compEnvC scope cl C env).kindOf deckName = some .cell)
    (h : E prog w H0 k env σ dk (eval iter env) fun ρ dk₁ => ∃ fl xs, ρ = .lst fl xs ∧ xs.length ≤ 10000 ∧
      ∀ C, CompL prog w H0 k (compEnvC scope cl C env) target elt ifs σc xs (if deck then dk₁ else .none) [] fun ys dk₂ => P (.lst .fresh ys) (if deck then dk₂ else dk₁))
    (hs : ∀ x, foldedSetIterable iter env x = pure x := by intro _; rfl) :
    E prog w H0 k env σ dk (eval (.ListComp elt [⟨target, iter, ifs, 0⟩] scope pos) env) P := by
  intro A s m ok R Q X hQ
  rw [eval_ListComp]
  refine wpAny_comprehension_free (use := .none) (g := ⟨target, iter, ifs, 0⟩) (gs := []) rfl hs B.clos B.kind B.names (h A s m ok R _ _ ?_)
  rintro v h₁ tk₁ ρ dk₁ ⟨fl, xs, rfl, hle, hL⟩ R₁ K₁ V₁
  obtain ⟨a, rfl, hlst, _⟩ := V₁
  obtain ⟨vs, ⟨n, p⟩, r⟩ := id hlst
  refine wpAny_pyIter_list ⟨_, p, rfl, n, rfl⟩ ?_
  have e1 := readsAll_length r
  rw [Array.length_toList] at e1
  have st := push_stays h₁ { cls := .type "list_iterator", data := .fields #[.ref a, .int 0 0] }
  have R₂ := R₁.stays st
  have hne : a ≠ h₁.objs.size := Nat.ne_of_lt (Heap.lt_size p)
  have W := Walks.list (prog := prog) (w := w) ok.hd h₁.objs.size a hne vs
  rw [e1] at W
  have hIat : (h₁.push { cls := .type "list_iterator", data := .fields #[.ref a, .int 0 0] }).get? h₁.objs.size = some { cls := .type "list_iterator", data := .fields #[.ref a, .int 0 0] } := Heap.get?_push_size _ rfl
  have dk0 : ∀ {b : Addr}, DkA m dk b → DkA m dk₁ b := fun q => ⟨by rw [K₁.dk]; exact q.1, q.2⟩
  refine comp_run (k := k) (h₀ := s.heap) (dk₀ := dk) (dk := dk₁) (dki := if deck then dk₁ else .none) (bd := deck) (σc := σc) (KK := fun ys dk₂ => P (.lst .fresh ys) (if deck then dk₂ else dk₁)) (RR := fun acc C => compPost (model prog w) A X .none Q acc C) ok V B R nc W (fun i h hh => ?_) (fun i v s' Q X hst hq => go_list ht hst.1 hq) (K₁.dom.none (new_none _)) hx hc (fun C => ?_) hle R₂ (K₁.trans (KeepE.of_stays st)) ?_
    ⟨⟨_, hIat, rfl, rfl⟩, ⟨_, st _ _ p, rfl, n, rfl⟩⟩ (fun b hb => ?_) (.head _) (fun i v hv => ?_) hL ?_
  · obtain ⟨⟨o, ho, _, hd⟩, _⟩ := hh; exact ⟨o, _, ho, hd⟩
  · cases deck with
    | true => exact .inr (hcap rfl C)
    | false => exact .inl rfl
  · cases deck with
    | true => exact .inn _ _
    | false => exact .out _
  · rcases List.mem_cons.mp hb with rfl | hb
    · exact ⟨⟨_, hIat⟩, fun q => (R₂.fields_not hIat rfl) (.inr (.inr (.inr (dk0 q))))⟩
    · rw [List.mem_singleton.mp hb]
      exact ⟨⟨_, st _ _ p⟩, fun q => (R₂.tup_not (st _ _ p) rfl).2.1 (dk0 q)⟩
  · obtain ⟨d, hd, hr⟩ := readsAll_get' (ReadsAll.keeps st r) (i := i) (v := v) (by rw [Array.getElem?_toList]; exact hv)
    exact ⟨d, hd, hr⟩
  · intro D C h' tk mL' ys acc dko dki' hP hlk R' K' hn hp hr hD0 hC0 hCD
    refine post_none ⟨mL', hn, fun h'' hs' => ?_⟩
    obtain ⟨R'', K'', Vd⟩ := comp_end R nc R' K' hn hp hr hD0 hC0 hCD hs'
    refine hQ _ h'' tk _ dko ?_ R'' K'' Vd
    cases hlk with
    | out => exact hP
    | inn => exact hP
end
end
section -- Core20
section
variable {prog : Program} {w : World} {H0 : Heap} {mg mb : Vals} {k : Nat} {env : Env} {σ : Sto} {dk : Dk} {K : Out → Prop}
/-- [elt for x in range(n) if ..] -/
theorem E.compR {x : Str} {px p cpos : Pos} {e elt : Expr} {ifs : List Expr} {scope : Scope} {cl : List (Str × Addr)} {pos : Pos} {P : Res → Dk → Prop} (σc : Sto) (deck : Bool) (G : Gnd H0 mg mb) (V : EnvOk env) (B : BlockOk env scope cl) (nc : NoCost σ)
    (hk : env.kindOf (Str.ofString "range") = some .globalImplicit) (hx : ∀ C, (compEnvC scope cl C env).kindOf x = some .local) (hc : ∀ C, Caught (compEnvC scope cl C env) σ σc) (hcap : deck = true → ∀ C, (compEnvC scope cl C env).kindOf deckName = some .cell)
    (h : E prog w H0 k env σ dk (eval e env) fun ρ dk₁ => ∃ n : Nat, ρ = .dat (.int n) ∧ n ≤ 10000 ∧
      ∀ C, CompL prog w H0 k (compEnvC scope cl C env) (.Name x px) elt ifs σc (rangeD n) (if deck then dk₁ else .none) [] fun ys dk₂ => P (.lst .fresh ys) (if deck then dk₂ else dk₁))
    (hn : noStar [e] = true := by rfl) (hs : ∀ v, foldedSetIterable (.Call (.Name (Str.ofString "range") p) [e] [] cpos) env v = pure v := by intro _; rfl) :
    E prog w H0 k env σ dk (eval (.ListComp elt [⟨.Name x px, .Call (.Name (Str.ofString "range") p) [e] [] cpos, ifs, 0⟩] scope pos) env) P := by
  intro A s m ok R Q X hQ
  rw [eval_ListComp]
  refine wpAny_comprehension_free (use := .none) (g := ⟨.Name x px, .Call (.Name (Str.ofString "range") p) [e] [] cpos, ifs, 0⟩) (gs := []) rfl hs B.clos B.kind B.names ?_
  refine range_iter ok G V hk R hn h fun I h₁ tk₁ n dk₁ St hL R₁ K₁ hle hnI hR hal => ?_
  obtain ⟨W, hst, hit⟩ := hR
  have W' : Walks prog w A I [I] [I] (rangeD n).length (fun i v => i < n ∧ ∃ t, v = .int (0 + (i : Nat) * 1) t) St := by
    rw [rangeD_length]
    exact ⟨W.sub, W.frame, fun i s' Q X hi hs hq => W.item i s' Q X hi hs fun v h' tk hp => hq v h' tk ⟨hi, hp⟩, W.done, W.self⟩
  have dk0 : ∀ {b : Addr}, DkA m dk b → DkA m dk₁ b := fun q => ⟨by rw [K₁.dk]; exact q.1, q.2⟩
  refine comp_run (k := k) (h₀ := s.heap) (dk₀ := dk) (dk := dk₁) (dki := if deck then dk₁ else .none) (bd := deck) (σc := σc) (KK := fun ys dk₂ => P (.lst .fresh ys) (if deck then dk₂ else dk₁)) (RR := fun acc C => compPost (model prog w) A X .none Q acc C) ok V B R nc W' hit (fun i v s' Q X hst hq => wpAny_pure hq) hnI
    (fun C y hy => by rw [List.mem_singleton.mp hy]; exact hx C) hc (fun C => ?_) (by rw [rangeD_length]; exact hle) R₁ K₁ ?_ hst (fun b hb => ?_) (.head _) (fun i v hv => range_reads i v hv.1 hv.2) hL ?_
  · cases deck with
    | true => exact .inr (hcap rfl C)
    | false => exact .inl rfl
  · cases deck with
    | true => exact .inn _ _
    | false => exact .out _
  · rw [List.mem_singleton.mp hb]
    obtain ⟨o, vs, ho, hd⟩ := hit 0 _ hst
    exact ⟨hal, fun q => (R₁.fields_not ho hd) (.inr (.inr (.inr (dk0 q))))⟩
  · intro D C h' tk mL' ys acc dko dki' hP hlk R' K' hn hp hr hD0 hC0 hCD
    refine post_none ⟨mL', hn, fun h'' hs' => ?_⟩
    obtain ⟨R'', K'', Vd⟩ := comp_end R nc R' K' hn hp hr hD0 hC0 hCD hs'
    refine hQ _ h'' tk _ dko ?_ R'' K'' Vd
    cases hlk with
    | out => exact hP
    | inn => exact hP
/-- y = [elt for target in iter if ..], y a local apart from the block's names: the store comes first -/
theorem S.assignComp {y : Str} {py spos : Pos} {target elt iter : Expr} {ifs : List Expr} {scope : Scope} {cl : List (Str × Addr)} {pos : Pos} (own : Bool) (σc : Sto) (V : EnvOk env) (B : BlockOk env scope cl) (nc : NoCost σ) (ht : isTgt target = true) (hy : y ≠ deckName ∧ env.kindOf y = some .local)
    (hsw : swapsWith (.ListComp elt [⟨target, iter, ifs, 0⟩] scope pos) (some (.Name y py)) spos.line env = pure true)
    (hx : ∀ C, ∀ x ∈ tgtNames target, (compEnvC scope cl C env).kindOf x = some .local) (hc : ∀ C, Caught (compEnvC scope cl C env) σ σc)
    (h : E prog w H0 k env σ dk (eval iter env) fun ρ dk₁ => ∃ fl xs, ρ = .lst fl xs ∧ xs.length ≤ 10000 ∧
      ∀ C, CompL prog w H0 k (compEnvC scope cl C env) target elt ifs σc xs .none [] fun ys _ => K (.next (σ.set y (.lst own ys)) dk₁))
    (hs : ∀ x, foldedSetIterable iter env x = pure x := by intro _; rfl) :
    S prog w H0 k env σ dk (exec (.Assign [.Name y py] (.ListComp elt [⟨target, iter, ifs, 0⟩] scope pos) spos) env) K := by
  intro A s m ok R Q X hQ
  rw [exec_Assign_Name_used _ _ _ _ hsw]
  refine wpAny_bind (wpAny_standAt (wpAny_bind ?_))
  show wpAny _ A (do let _ ← comprehension (.ListComp elt [⟨target, iter, ifs, 0⟩] scope pos) scope env _ (newList []) false (eval iter env) (some (PySem.assign (.Name y py) env))) _ _ s
  refine wpAny_bind (wpAny_mono (wpAny_comprehension_free (use := some (PySem.assign (.Name y py) env)) (Q := fun _ s' => Q .next s') (g := ⟨target, iter, ifs, 0⟩) (gs := []) rfl hs B.clos B.kind B.names (h A s m ok R _ X ?_)) (fun _ s' hq => wpAny_pure (wpAny_pure hq)) fun _ _ e => e)
  rintro v h₁ tk₁ ρ dk₁ ⟨fl, xs, rfl, hle, hL⟩ R₁ K₁ V₁
  obtain ⟨a, rfl, hlst, _⟩ := V₁
  obtain ⟨vs, ⟨n, p⟩, r⟩ := id hlst
  refine wpAny_pyIter_list ⟨_, p, rfl, n, rfl⟩ ?_
  have e1 := readsAll_length r
  rw [Array.length_toList] at e1
  have st := push_stays h₁ { cls := .type "list_iterator", data := .fields #[.ref a, .int 0 0] }
  have R₂ := R₁.stays st
  have hne : a ≠ h₁.objs.size := Nat.ne_of_lt (Heap.lt_size p)
  have W := Walks.list (prog := prog) (w := w) ok.hd h₁.objs.size a hne vs
  rw [e1] at W
  have hIat : (h₁.push { cls := .type "list_iterator", data := .fields #[.ref a, .int 0 0] }).get? h₁.objs.size = some { cls := .type "list_iterator", data := .fields #[.ref a, .int 0 0] } := Heap.get?_push_size _ rfl
  have dk0 : ∀ {b : Addr}, DkA m dk b → DkA m dk₁ b := fun q => ⟨by rw [K₁.dk]; exact q.1, q.2⟩
  refine comp_run (k := k) (h₀ := s.heap) (dk₀ := dk) (dk := dk₁) (dki := .none) (bd := false) (σc := σc) (KK := fun ys _ => K (.next (σ.set y (.lst own ys)) dk₁)) (RR := fun acc C => compPost (model prog w) A X (some (PySem.assign (.Name y py) env)) (fun _ s' => Q .next s') acc C) ok V B R nc W (fun i h hh => ?_) (fun i v s' Q X hst hq => go_list ht hst.1 hq) (K₁.dom.none (new_none _)) hx hc (fun C => .inl rfl) hle R₂ (K₁.trans (KeepE.of_stays st)) (.out _)
    ⟨⟨_, hIat, rfl, rfl⟩, ⟨_, st _ _ p, rfl, n, rfl⟩⟩ (fun b hb => ?_) (.head _) (fun i v hv => ?_) hL ?_
  · obtain ⟨⟨o, ho, _, hd⟩, _⟩ := hh; exact ⟨o, _, ho, hd⟩
  · rcases List.mem_cons.mp hb with rfl | hb
    · exact ⟨⟨_, hIat⟩, fun q => (R₂.fields_not hIat rfl) (.inr (.inr (.inr (dk0 q))))⟩
    · rw [List.mem_singleton.mp hb]
      exact ⟨⟨_, st _ _ p⟩, fun q => (R₂.tup_not (st _ _ p) rfl).2.1 (dk0 q)⟩
  · obtain ⟨d, hd, hr⟩ := readsAll_get' (ReadsAll.keeps st r) (i := i) (v := v) (by rw [Array.getElem?_toList]; exact hv)
    exact ⟨d, hd, hr⟩
  · intro D C h' tk mL' ys acc dko dki' hP hlk R' K' hn hp hr hD0 hC0 hCD
    cases hlk
    have Vd : Vl prog w m σ s.heap h' (.ref D) (.lst .fresh acc) := ⟨D, rfl, ⟨ys, hp, hr⟩, fun _ => hD0, (by intro q; cases q)⟩
    obtain ⟨F, hf⟩ := fits_of_vl (own := own) R R' K' hy.1 Vd rfl
    show wpAny _ A (PySem.assign (.Name y py) env (.ref D)) _ X _
    refine wpAny_assign_Name (store_step V R' (.inl hy.2) F K'.step hf fun h₂ tk₂ R₂' st₂ _ _ kp => ?_)
    have nsC : ∀ (o : Obj) (vs : Array Value) (n : Nat), h'.get? C = some o → o.cls = .type "tuple" → o.data ≠ .seq vs n := by
      intro o vs n ho _ hds
      obtain ⟨o', es, ep, ho', hd', _⟩ := hn
      rw [ho] at ho'; cases ho'; rw [hds] at hd'; cases hd'
    have a := R.apart K' hC0 nsC nc
    have hn₂ : h₂.Ns C mL' := by
      obtain ⟨o, es, ep, ho, r⟩ := hn
      exact ⟨o, es, ep, kp C o a.L a.cell ho, r⟩
    refine ⟨mL', hn₂, fun h₃ hs₃ => ?_⟩
    have hk₃ : ∀ b o, b ≠ C → h₂.get? b = some o → h₃.get? b = some o := fun b o hb ho => (hs₃.2 b hb).trans ho
    have mdeck : setV m y (.ref D) deckName = m deckName := setV_ne _ _ (Ne.symm hy.1)
    have a₂ : Apart H0 env h₂ (setV m y (.ref D)) (σ.set y (.lst own acc)) dk₁ C := by
      refine ⟨a.h0, a.L, fun q => a.D ⟨q.1, mdeck ▸ q.2⟩, a.cell, ?_, a.dl, ?_, nc.set (by rfl)⟩
      · intro x o xs hx hm
        by_cases q : x = y
        · subst q
          rw [setV_same] at hm
          exact hCD (Option.some.inj hm |> fun z => by cases z; rfl)
        · rw [Sto.set_ne _ _ q] at hx
          rw [setV_ne _ _ q] at hm
          exact a.lst x o xs hx hm
      · intro o vs n ho _ hds
        obtain ⟨o', es, ep, ho', hd', _⟩ := hn₂
        rw [ho] at ho'; cases ho'; rw [hds] at hd'; cases hd'
    refine hQ .next h₃ _ _ hP ⟨rfl, _, R₂'.other a₂ hk₃, ?_⟩
    refine ⟨fun b o ho hm => hk₃ b o (by rintro rfl; rw [hC0] at ho; cases ho) (st₂.get b o ho hm), fun b o ho => ?_, st₂.own, st₂.dkm, st₂.dkn⟩
    obtain ⟨o', ho'⟩ := st₂.dom b o ho
    exact ⟨o', hk₃ b o' (by rintro rfl; rw [hC0] at ho; cases ho) ho'⟩
end
end
section -- Core21
noncomputable def Res.isNew : Res → Bool
  | .dat _ => true
  | .lst .fresh _ => true
  | .deck .. => true
  | .cost true _ _ _ => true
  | _ => false
noncomputable def Res.ent : Res → Ent
  | .dat d => .dat d
  | .lst _ xs => .lst false xs
  | .cost _ dx ps ds => .cost dx ps ds
  | .deck .. => .dat .none
section
variable (prog : Program) (w : World) (H0 : Heap) (mg : Vals)
/-- an argument, as the called def finds it -/
noncomputable def ArgOk (h : Heap) (v : Value) : Res → Prop
  | .dat d => Reads h v d []
  | .lst _ xs => ∃ a, v = .ref a ∧ Lst h a xs
  | .cost _ dx ps ds => ∃ a, v = .ref a ∧ CostAt h a dx ps ds
  | .deck .. => False
inductive ArgsOk (h : Heap) : List Value → List Res → Prop
  | nil : ArgsOk h [] []
  | cons {v : Value} {ρ : Res} {vs : List Value} {ρs : List Res} : ArgOk h v ρ → ArgsOk h vs ρs → ArgsOk h (v :: vs) (ρ :: ρs)
/-- a new value -/
noncomputable def VlF (hz h : Heap) (v : Value) : Res → Prop
  | .dat d => Reads h v d []
  | .lst _ xs => ∃ a, v = .ref a ∧ Lst h a xs ∧ hz.get? a = .none
  | .deck l c t => ∃ a, v = .ref a ∧ DeckAt prog w h a l c t ∧ hz.get? a = .none ∧ hz.get? l = .none
  | .cost _ dx ps ds => ∃ a, v = .ref a ∧ CostAt h a dx ps ds ∧ hz.get? a = .none ∧ hz.get? dx = .none
/-- a def's contract -/
noncomputable def FnP (k : Nat) (f : Str) (args : List Res) (P : Res → Prop) : Prop :=
  ∀ (A : Around) (s : Shared) (fa : Addr) (vs : List Value), Okay k A → Stays H0 s.heap → mg f = some (.ref fa) → ArgsOk s.heap vs args → ∀ (Q X : Value → Shared → Prop),
    (∀ v h' tk ρ, P ρ → ρ.isNew = true → Stays s.heap h' → VlF prog w s.heap h' v ρ → Q v ⟨h', s.gens, s.drawn, tk, s.os⟩) → wpAny (model prog w) A (call (.ref fa) vs) Q X s
/-- a def's contract, its first argument the deck -/
noncomputable def FnD (k : Nat) (f : Str) (c : List Int) (t : Int) (args : List Res) (P : Res → List Int → Int → Prop) : Prop :=
  ∀ (A : Around) (s : Shared) (fa ad l : Addr) (vs : List Value), Okay k A → Stays H0 s.heap → mg f = some (.ref fa) → DeckAt prog w s.heap ad l c t → H0.get? ad = .none → ArgsOk s.heap vs args → ∀ (Q X : Value → Shared → Prop),
    (∀ v h' tk ρ c' t', P ρ c' t' → ρ.isNew = true → (∀ b o, b ≠ ad → s.heap.get? b = some o → h'.get? b = some o) → DeckAt prog w h' ad l c' t' → VlF prog w s.heap h' v ρ → Q v ⟨h', s.gens, s.drawn, tk, s.os⟩) →
    wpAny (model prog w) A (call (.ref fa) (.ref ad :: vs)) Q X s
structure FnAt (name : Str) (params : Arguments) (body : List Stmt) (scope : Scope) : Prop where
  at_ : ∃ a o pm cd doc, mg name = some (.ref a) ∧ H0.get? a = some o ∧ o.data = .func (docDef name params body scope pm cd doc) ∧ H0.CodeRec cd name
variable {prog w H0 mg}
variable {mb : Vals} {k : Nat} {env : Env} {σ : Sto} {dk : Dk} {K : Out → Prop}
theorem argOk_of_vl {m : Vals} {hz h : Heap} {v : Value} : ∀ {ρ : Res}, ρ.calm = true → Vl prog w m σ hz h v ρ → ArgOk h v ρ := by
  intro ρ y0 y1
  cases ρ with
  | dat d0 => exact y1
  | lst f0 xs0 => obtain ⟨a, e, x, _⟩ := y1; exact ⟨a, e, x⟩
  | cost r0 dx0 ps0 ds0 => obtain ⟨a, e, x, _⟩ := y1; exact ⟨a, e, x⟩
  | deck l0 c0 t0 => cases y0
theorem argsOk_of_vls {m : Vals} {hz h : Heap} : ∀ {vs : List Value} {ρs : List Res}, Vls prog w m σ hz h vs ρs → ArgsOk h vs ρs
  | [], [], _ => .nil
  | [], _ :: _, x => by have := x.len; cases this
  | _ :: _, [], x => by have := x.len; cases this
  | v :: vs, ρ :: ρs, x => by
    obtain ⟨c1, c2⟩ := x.val 0 v ρ rfl rfl
    exact .cons (argOk_of_vl c1 c2) (argsOk_of_vls ⟨Nat.succ.inj x.len, fun i u ρ' a b => x.val (i + 1) u ρ' a b, fun i j a b xs h1 h2 h3 h4 => x.apart (i + 1) (j + 1) a b xs (by omega) h2 h3 h4⟩)
theorem vl_of_vlF {m : Vals} {hz h : Heap} {v : Value} : ∀ {ρ : Res}, ρ.isNew = true → VlF prog w hz h v ρ → Vl prog w m σ hz h v ρ
  | .dat _, _, x => x
  | .lst .fresh _, _, ⟨a, e, x, y⟩ => ⟨a, e, x, fun _ => y, (by intro q; cases q)⟩
  | .deck .., _, x => x
  | .cost true _ _ _, _, ⟨a, e, x, y⟩ => ⟨a, e, x, fun _ => y⟩
/-- f(a, b, ..), f a def of the text -/
theorem E.callP {f : Str} {p pos : Pos} {e : Expr} {es : List Expr} {P : Res → Dk → Prop} {params : Arguments} {body : List Stmt} {scope : Scope} (G : Gnd H0 mg mb) (V : EnvOk env) (hk : env.kindOf f = some .globalImplicit) (hF : FnAt H0 mg f params body scope)
    (h : Er prog w H0 k env σ (e :: es) dk [] fun ρs dk₁ => FnP prog w H0 mg k f ρs fun ρ => P ρ dk₁) (hn : noStar (e :: es) = true := by rfl) (hd : (f == ("__debug__" : Str)) = false := by decide) :
    E prog w H0 k env σ dk (eval (.Call (.Name f p) (e :: es) [] pos) env) P := by
  intro A s m ok R Q X hQ
  obtain ⟨a, o, pm, cd, doc, hm, ho, hdat, _⟩ := hF.at_
  refine Call_ (ld_gl G V R.base hk hm (callWith_def (o := o) hdat (er_spliced (m := m) ok (e :: es) dk [] [] s s.heap _ _ hn h R .nil .refl fun vs h₁ tk₁ ρs dk₁ hP R₁ K₁ Vs => ⟨R₁.base a o ho, ?_⟩) (noStar_eq hn)) hd) (by rfl)
  rw [List.nil_append] at Vs
  refine hP A _ a vs ok R₁.base hm (argsOk_of_vls Vs) _ _ fun v h' tk ρ hp hnew st hv => ?_
  exact hQ v h' tk ρ dk₁ hp (R₁.stays st) (K₁.trans (KeepE.of_stays st)) ((vl_of_vlF hnew hv).later K₁.dom)
/-- f(deck, a, ..), f a def of the text -/
theorem E.callD {f : Str} {p dp pos : Pos} {es : List Expr} {P : Res → Dk → Prop} {params : Arguments} {body : List Stmt} {scope : Scope} {l : Addr} {c : List Int} {t : Int} (G : Gnd H0 mg mb) (V : EnvOk env) (hk : env.kindOf f = some .globalImplicit) (hF : FnAt H0 mg f params body scope) (nc : NoCost σ)
    (hdn : Kind env deckName) (hdk : dk = some (l, c, t))
    (h : Er prog w H0 k env σ es dk [] fun ρs dk₁ => dk₁ = some (l, c, t) ∧ FnD prog w H0 mg k f c t ρs fun ρ c' t' => P ρ (some (l, c', t'))) (hn : noStar es = true := by rfl) (hd : (f == ("__debug__" : Str)) = false := by decide) :
    E prog w H0 k env σ dk (eval (.Call (.Name f p) (.Name deckName dp :: es) [] pos) env) P := by
  intro A s m ok R Q X hQ
  obtain ⟨a, o, pm, cd, doc, hm, ho, hdat, _⟩ := hF.at_
  obtain ⟨ad, had, hD, hD0, _⟩ := R.dek l c t hdk
  have hn' : noStar (.Name deckName dp :: es) = true := hn
  refine Call_ (ld_gl G V R.base hk hm (callWith_def (o := o) hdat (args_cons ?_ (by rfl)) (by rfl)) hd) (by rfl)
  have name : ∀ (Q' : Value → Shared → Prop), Q' (.ref ad) s → wpAny (model prog w) A (eval (.Name deckName dp) env) Q' X s := by
    intro Q' hq
    rcases hdn with hk | ⟨hk, cc, hc'⟩
    · obtain ⟨mL, hns, hmm⟩ := R.frm.ns
      exact wpAny_Name (wpAny_loadName_local V.fn hk hns ((hmm _ hk).trans had) hq) (by decide)
    · have := R.frm.cl _ cc hk hc'
      rw [had] at this
      exact wpAny_Name (wpAny_loadName_cell V.fn hk hc' this hq) (by decide)
  refine name _ (er_spliced (m := m) ok es dk [] [] s s.heap _ _ hn h R .nil .refl fun vs h₁ tk₁ ρs dk₁ ⟨hdk₁, hP⟩ R₁ K₁ Vs => ⟨R₁.base a o ho, ?_⟩)
  rw [List.nil_append] at Vs
  subst hdk₁
  obtain ⟨ad', had', hD', _⟩ := R₁.dek l c t rfl
  rw [had] at had'; cases had'
  refine hP A _ a ad l vs ok R₁.base hm hD' hD0 (argsOk_of_vls Vs) _ _ fun v h' tk ρ c' t' hp hnew hk' hDk hv => ?_
  obtain ⟨R', K'⟩ := R₁.dkstep had hk' hDk nc
  exact hQ v h' tk ρ _ hp R' (K₁.trans K') ((vl_of_vlF hnew hv).later K₁.dom)
/-- the names bound: what is said of them -/
theorem lookup_pairs {α : Type} (σ : Sto) : ∀ (ns : List Str) (es : List Ent) (x : Str), setAll σ ns es x = ((ns.zip es).reverse.lookup x).or (σ x)
  | [], _, x => by simp [setAll]
  | n :: ns, [], x => by simp [setAll]
  | n :: ns, e :: es, x => by
    show setAll (σ.set n e) ns es x = _
    rw [lookup_pairs (α := α) (σ.set n e) ns es x]
    simp only [List.zip_cons_cons, List.reverse_cons, List.lookup_append, Option.or_assoc]
    congr 1
    unfold Sto.set
    by_cases q : x = n
    · subst q; simp [List.lookup_cons]
    · have hb : (x == n) = false := beq_eq_false_iff_ne.mpr q
      simp [List.lookup_cons, hb, q]
theorem lookup_vals {h : Heap} : ∀ {ns : List Str} {vs : List Value} {ρs : List Res}, ArgsOk h vs ρs → ns.length = ρs.length → ∀ (x : Str) (e : Ent), ((ns.zip (ρs.map Res.ent)).reverse.lookup x) = some e → ∃ v, (ns.zip vs).reverse.lookup x = some v ∧ ∀ H0 : Heap, Holds H0 h v e := by
  intro ns
  induction ns with
  | nil => intro vs ρs _ _ x e hx; simp at hx
  | cons n ns ih =>
    intro vs ρs ha hl x e hx
    cases ha with
    | nil => cases hl
    | cons h1 h2 =>
      rename_i v ρ vs ρs
      simp only [List.map_cons, List.zip_cons_cons, List.reverse_cons, List.lookup_append] at hx ⊢
      cases hq : (ns.zip (ρs.map Res.ent)).reverse.lookup x with
      | some e' =>
        rw [hq] at hx
        cases hx
        obtain ⟨u, hu, hh⟩ := ih h2 (Nat.succ.inj hl) x _ hq
        exact ⟨u, by rw [hu]; rfl, hh⟩
      | none =>
        rw [hq] at hx
        have hnone : ∀ (vs : List Value) (ρs : List Res), ArgsOk h vs ρs → ns.length = ρs.length → (ns.zip (ρs.map Res.ent)).reverse.lookup x = .none → (ns.zip vs).reverse.lookup x = .none := by
          intro vs ρs ha hl hq
          rw [List.lookup_eq_none_iff] at hq ⊢
          intro p hp
          rw [List.mem_reverse] at hp
          obtain ⟨i, hi⟩ := List.getElem?_of_mem hp
          have hp1 : ns[i]? = some p.1 := by
            rw [List.getElem?_zip_eq_some] at hi; exact hi.1
          have hil : i < (ρs.map Res.ent).length := by
            rw [List.length_map, ← hl]; exact (List.getElem?_eq_some_iff.mp hp1).1
          have : (p.1, (ρs.map Res.ent)[i]) ∈ (ns.zip (ρs.map Res.ent)).reverse := by
            rw [List.mem_reverse]
            refine List.mem_of_getElem? (i := i) ?_
            rw [List.getElem?_zip_eq_some]
            exact ⟨hp1, List.getElem?_eq_getElem hil⟩
          exact hq _ this
        rw [hnone vs ρs h2 (Nat.succ.inj hl) hq]
        simp only [Option.none_or, List.lookup_cons, List.lookup_nil] at hx ⊢
        cases hb : (x == n) with
        | false => rw [hb] at hx; cases hx
        | true =>
          rw [hb] at hx
          cases hx
          refine ⟨v, rfl, fun H0 => ?_⟩
          cases ρ with
          | dat d => exact h1
          | lst fl xs => obtain ⟨a, e1, e2⟩ := h1; exact ⟨a, e1, e2, by intro q; cases q⟩
          | cost fr dx ps ds => exact h1
          | deck => exact h1.elim
end
end
section -- Core22
section
variable {prog : Program} {w : World} {H0 : Heap} {mg mb : Vals} {k : Nat}
noncomputable def noSto : Sto := fun _ => .none
theorem fenv_ok (name : Str) (scope : Scope) (L a : Addr) (cd : Value) (hk : scope.kind = .function) : EnvOk (envOf name scope L a cd) := ⟨hk, rfl, rfl, by intro x y c h; cases h⟩
theorem ent_noCost : ∀ {ρ : Res} {dx : Addr} {ps ds : List Int}, ρ.ent = .cost dx ps ds → ∃ fr, ρ = .cost fr dx ps ds
  | .cost fr dx ps ds, _, _, _, h => by cases h; exact ⟨fr, rfl⟩
  | .dat _, _, _, _, h => by cases h
  | .lst _ _, _, _, _, h => by cases h
  | .deck .., _, _, _, h => by cases h
theorem setAll_from {σ : Sto} : ∀ {ns : List Str} {es : List Ent} {x : Str} {e : Ent}, setAll σ ns es x = some e → e ∈ es ∨ σ x = some e
  | [], _, x, e, h => by simp [setAll] at h; exact .inr h
  | n :: ns, [], x, e, h => by simp [setAll] at h; exact .inr h
  | n :: ns, f :: es, x, e, h => by
    have h' : setAll (σ.set n f) ns es x = some e := h
    rcases setAll_from h' with q | q
    · exact .inl (.tail _ q)
    · unfold Sto.set at q
      split at q
      · cases q; exact .inl (.head _)
      · exact .inr q
theorem ArgsOk.len {h : Heap} {vs : List Value} {ρs : List Res} (q : ArgsOk h vs ρs) : vs.length = ρs.length := by
  induction q with
  | nil => rfl
  | cons _ _ ih => rw [List.length_cons, List.length_cons, ih]
theorem ArgsOk.stays {h h₀ : Heap} (st : Stays h h₀) {vs : List Value} {ρs : List Res} (q : ArgsOk h vs ρs) : ArgsOk h₀ vs ρs := by
  induction q with
  | nil => exact .nil
  | cons q1 _ ih =>
    refine .cons ?_ ih
    rename_i v ρ _ _ _
    cases ρ with
    | dat d => exact Reads.keeps st q1
    | lst fl xs => obtain ⟨b, e1, e2⟩ := q1; exact ⟨b, e1, lst_stays e2 st⟩
    | cost fr dx ps ds => obtain ⟨b, e1, e2⟩ := q1; exact ⟨b, e1, costAt_stays e2 st⟩
    | deck => exact q1.elim
theorem ArgsOk.costNe {h : Heap} {vs : List Value} {ρs : List Res} (q : ArgsOk h vs ρs) : ∀ dx ps ds, Ent.cost dx ps ds ∈ ρs.map Res.ent → dx ≠ h.objs.size := by
  induction q with
  | nil => intro dx ps ds hm; cases hm
  | cons q1 _ ih =>
    intro dx ps ds hm
    rename_i v ρ _ _ _
    rcases List.mem_cons.mp hm with e | e
    · obtain ⟨fr, rfl⟩ := ent_noCost e.symm
      obtain ⟨b, _, o', es, n, l, _, _, h3, _⟩ := q1
      exact Nat.ne_of_lt (Heap.lt_size h3)
    · exact ih dx ps ds e
theorem FnP.intro {name : Str} {params : Arguments} {body : List Stmt} {scope : Scope} {ns : List Str} {args : List Res} {P : Res → Prop} (G : Gnd H0 mg mb) (hF : FnAt H0 mg name params body scope) (hl : ns.length = args.length)
    (hbind : ∀ (vs : List Value) (pm cd doc : Value), vs.length = ns.length → bindArgs (docDef name params body scope pm cd doc) ⟨vs, []⟩ = pure (ns.zip vs))
    (hloc : ∀ x ∈ ns, scope.names.lookup x = some .local) (hcell : ∀ x ∈ scope.names, x.2 ≠ .cell) (hco : scope.isCoroutine = false) (hgen : scope.isGenerator = false) (hk : scope.kind = .function)
    (h : ∀ L a cd, S prog w H0 k (envOf name scope L a cd) (setAll noSto ns (args.map Res.ent)) .none (execs body (envOf name scope L a cd)) fun o => match o with | .ret ρ _ => ρ.isNew = true ∧ P ρ | .next .. => P (.dat .none)) :
    FnP prog w H0 mg (k + 1) name args P := by
  intro A s fa vs ok hB hm ha Q X hQ
  obtain ⟨a, o, pm, cd, doc, hm', ho, hdat, hcr⟩ := hF.at_
  rw [hm] at hm'; cases hm'
  have hlen : vs.length = ns.length := by
    rw [ArgsOk.len ha, hl]
  refine wpAny_call (codeAny_call_def (fd := docDef name params body scope pm cd doc) (body := body) (binds := ns.zip vs) ok.room (hB fa o ho) hdat (G.lim.keeps hB) (hcr.keeps hB) rfl (BindsTo.of_eq (hbind vs pm cd doc hlen)) hcell (fun x hx => hloc x.1 (by obtain ⟨x1, x2⟩ := x; exact (List.of_mem_zip hx).1)) (fun h₀ hns hst => ?_) hco hgen hk)
  have hst' : Stays s.heap h₀ := hst
  have hnL : s.heap.get? s.heap.objs.size = .none := new_none _
  have ha₀ : ArgsOk h₀ vs args := by
    exact ArgsOk.stays hst' ha
  have R : Rel prog w H0 (envOf name scope s.heap.objs.size fa cd) h₀ (fun x => (ns.zip vs).reverse.lookup x) (setAll noSto ns (args.map Res.ent)) .none := by
    refine ⟨fun b o e => hst b o (hB b o e), ⟨⟨_, hns, fun x _ => rfl⟩, (by intro x c _ hc; cases hc)⟩, hB.dom.none hnL, (by intro x c hc; cases hc), ?_, ?_, ?_, (by intro l c t q; cases q)⟩
    · intro x e hx
      rw [lookup_pairs (α := Nat)] at hx
      have : (noSto : Sto) x = .none := rfl
      rw [this, Option.or_none] at hx
      obtain ⟨v, hv, hh⟩ := lookup_vals ha₀ hl x e hx
      exact ⟨v, hv, hh H0⟩
    · intro x xs hx
      exfalso
      rcases setAll_from hx with q | q
      · obtain ⟨ρ, _, hρ⟩ := List.mem_map.mp q
        cases ρ <;> cases hρ
      · cases q
    · intro x dx ps ds hx
      rcases setAll_from hx with q | q
      · exact ArgsOk.costNe ha dx ps ds q
      · cases q
  have noOwn : ∀ b, ¬ OwnA (fun x => (ns.zip vs).reverse.lookup x) (setAll noSto ns (args.map Res.ent)) b := by
    rintro b ⟨x, xs, hx, _⟩
    rcases setAll_from hx with q | q
    · obtain ⟨ρ, _, hρ⟩ := List.mem_map.mp q
      cases ρ <;> cases hρ
    · cases q
  have noMut : ∀ b o, s.heap.get? b = some o → ¬ Mut (envOf name scope s.heap.objs.size fa cd) (fun x => (ns.zip vs).reverse.lookup x) (setAll noSto ns (args.map Res.ent)) .none b := by
    rintro b o hb (q | ⟨x, _, q⟩ | q | ⟨q, _⟩)
    · have q' : b = s.heap.objs.size := q
      subst q'; rw [hnL] at hb; cases hb
    · cases q
    · exact noOwn b q
    · cases q
  refine h s.heap.objs.size fa cd (A.deeper (callEnv (docDef name params body scope pm cd doc) s.heap.objs.size fa)) _ _ (ok.deeper _) R _ _ fun f h' tk o hK hO => ?_
  cases o with
  | next σ' dk' =>
    obtain ⟨rfl, m', R', S'⟩ := hO
    exact hQ .none h' tk (.dat .none) hK rfl (fun b o hb => S'.get b o (hst b o hb) (noMut b o hb)) .none
  | ret ρ dk' =>
    obtain ⟨v, m', σ', rfl, R', S', hv⟩ := hO
    obtain ⟨hnew, hP⟩ := hK
    refine hQ v h' tk ρ hP hnew (fun b o hb => S'.get b o (hst b o hb) (noMut b o hb)) ?_
    cases ρ with
    | dat d => exact hv
    | lst fl xs =>
      cases fl with
      | fresh =>
        obtain ⟨b, e1, e2, e3⟩ := hv
        exact ⟨b, e1, e2, hst'.dom.none ((e3 rfl).elim id fun q => absurd q (noOwn b))⟩
      | safe => cases hnew
      | ownd => cases hnew
    | deck l c t =>
      obtain ⟨b, e1, e2, e3, e4⟩ := hv
      exact ⟨b, e1, e2, hst'.dom.none e3, hst'.dom.none e4⟩
    | cost fr dx ps ds =>
      cases fr with
      | true =>
        obtain ⟨b, e1, e2, e3⟩ := hv
        exact ⟨b, e1, e2, hst'.dom.none (e3 rfl).1, hst'.dom.none (e3 rfl).2⟩
      | false => cases hnew
theorem FnD.intro {name : Str} {params : Arguments} {body : List Stmt} {scope : Scope} {ns : List Str} {c : List Int} {t : Int} {args : List Res} {P : Res → List Int → Int → Prop} (G : Gnd H0 mg mb) (hF : FnAt H0 mg name params body scope) (hl : ns.length = args.length)
    (hbind : ∀ (vs : List Value) (pm cd doc : Value), vs.length = (deckName :: ns).length → bindArgs (docDef name params body scope pm cd doc) ⟨vs, []⟩ = pure ((deckName :: ns).zip vs))
    (hloc : ∀ x ∈ deckName :: ns, scope.names.lookup x = some .local) (hnd : deckName ∉ ns) (hcell : ∀ x ∈ scope.names, x.2 ≠ .cell) (hco : scope.isCoroutine = false) (hgen : scope.isGenerator = false) (hk : scope.kind = .function)
    (h : ∀ L a cd l, S prog w H0 k (envOf name scope L a cd) (setAll noSto ns (args.map Res.ent)) (some (l, c, t)) (execs body (envOf name scope L a cd)) fun o => match o with | .ret ρ dk' => ρ.isNew = true ∧ ∃ c' t', dk' = some (l, c', t') ∧ P ρ c' t' | .next .. => False) :
    FnD prog w H0 mg (k + 1) name c t args P := by
  intro A s fa ad l vs ok hB hm hD hD0 ha Q X hQ
  obtain ⟨a, o, pm, cd, doc, hm', ho, hdat, hcr⟩ := hF.at_
  rw [hm] at hm'; cases hm'
  have hlen : vs.length = ns.length := by
    rw [ArgsOk.len ha, hl]
  refine wpAny_call (codeAny_call_def (fd := docDef name params body scope pm cd doc) (body := body) (binds := (deckName :: ns).zip (.ref ad :: vs)) ok.room (hB fa o ho) hdat (G.lim.keeps hB) (hcr.keeps hB) rfl (BindsTo.of_eq (hbind (.ref ad :: vs) pm cd doc (by rw [List.length_cons, List.length_cons, hlen]))) hcell (fun x hx => hloc x.1 (by obtain ⟨x1, x2⟩ := x; exact (List.of_mem_zip hx).1)) (fun h₀ hns hst => ?_) hco hgen hk)
  have hst' : Stays s.heap h₀ := hst
  have hnL : s.heap.get? s.heap.objs.size = .none := new_none _
  have ha₀ : ArgsOk h₀ vs args := by
    exact ArgsOk.stays hst' ha
  have mm : ∀ x, ((deckName :: ns).zip (Value.ref ad :: vs)).reverse.lookup x = ((ns.zip vs).reverse.lookup x).or (if x = deckName then some (.ref ad) else .none) := by
    intro x
    simp only [List.zip_cons_cons, List.reverse_cons, List.lookup_append]
    congr 1
    by_cases q : x = deckName
    · subst q; simp
    · have hb : (x == deckName) = false := beq_eq_false_iff_ne.mpr q
      simp [List.lookup_cons, hb, q]
  have hmd : ((deckName :: ns).zip (Value.ref ad :: vs)).reverse.lookup deckName = some (.ref ad) := by
    rw [mm, if_pos rfl]
    have : (ns.zip vs).reverse.lookup deckName = .none := by
      rw [List.lookup_eq_none_iff]
      intro p hp
      rw [List.mem_reverse] at hp
      obtain ⟨p1, p2⟩ := p
      have := (List.of_mem_zip hp).1
      show (deckName != p1) = true
      rw [bne_iff_ne]
      rintro rfl
      exact hnd this
    rw [this]; rfl
  have noOwn : ∀ b, ¬ OwnA (fun x => ((deckName :: ns).zip (Value.ref ad :: vs)).reverse.lookup x) (setAll noSto ns (args.map Res.ent)) b := by
    rintro b ⟨x, xs, hx, _⟩
    rcases setAll_from hx with q | q
    · obtain ⟨ρ, _, hρ⟩ := List.mem_map.mp q
      cases ρ <;> cases hρ
    · cases q
  have hadL : ad ≠ s.heap.objs.size := Nat.ne_of_lt hD.lt
  have R : Rel prog w H0 (envOf name scope s.heap.objs.size fa cd) h₀ (fun x => ((deckName :: ns).zip (Value.ref ad :: vs)).reverse.lookup x) (setAll noSto ns (args.map Res.ent)) (some (l, c, t)) := by
    refine ⟨fun b o e => hst b o (hB b o e), ⟨⟨_, hns, fun x _ => rfl⟩, (by intro x c _ hc; cases hc)⟩, hB.dom.none hnL, (by intro x c hc; cases hc), ?_, ?_, ?_, ?_⟩
    · intro x e hx
      rw [lookup_pairs (α := Nat)] at hx
      have : (noSto : Sto) x = .none := rfl
      rw [this, Option.or_none] at hx
      obtain ⟨v, hv, hh⟩ := lookup_vals ha₀ hl x e hx
      exact ⟨v, by rw [mm, hv]; rfl, hh H0⟩
    · intro x xs hx a hma
      exact absurd ⟨x, xs, hx, hma⟩ (noOwn a)
    · intro x dx ps ds hx
      rcases setAll_from hx with q | q
      · exact ArgsOk.costNe ha dx ps ds q
      · cases q
    · intro l' c' t' q
      cases q
      exact ⟨ad, hmd, deckAt_stays hD hst', hD0, hadL, noOwn l⟩
  have noMut : ∀ b o, b ≠ ad → s.heap.get? b = some o → ¬ Mut (envOf name scope s.heap.objs.size fa cd) (fun x => ((deckName :: ns).zip (Value.ref ad :: vs)).reverse.lookup x) (setAll noSto ns (args.map Res.ent)) (some (l, c, t)) b := by
    rintro b o hba hb (q | ⟨x, _, q⟩ | q | ⟨_, q⟩)
    · have q' : b = s.heap.objs.size := q
      subst q'; rw [hnL] at hb; cases hb
    · cases q
    · exact noOwn b q
    · have q' : ((deckName :: ns).zip (Value.ref ad :: vs)).reverse.lookup deckName = some (.ref b) := q
      rw [hmd] at q'; cases q'; exact hba rfl
  refine h s.heap.objs.size fa cd l (A.deeper (callEnv (docDef name params body scope pm cd doc) s.heap.objs.size fa)) _ _ (ok.deeper _) R _ _ fun f h' tk o hK hO => ?_
  cases o with
  | next σ' dk' => exact hK.elim
  | ret ρ dk' =>
    obtain ⟨v, m', σ', rfl, R', S', hv⟩ := hO
    obtain ⟨hnew, c', t', rfl, hP⟩ := hK
    have hD' : DeckAt prog w h' ad l c' t' := by
      obtain ⟨a', h1, h2, _⟩ := R'.dek l c' t' rfl
      have h3 : m' deckName = some (.ref ad) := (S'.dkm rfl).2.trans hmd
      rw [h3] at h1; cases h1
      exact h2
    refine hQ v h' tk ρ c' t' hP hnew (fun b o hba hb => S'.get b o (hst b o hb) (noMut b o hba hb)) hD' ?_
    cases ρ with
    | dat d => exact hv
    | lst fl xs =>
      cases fl with
      | fresh =>
        obtain ⟨b, e1, e2, e3⟩ := hv
        exact ⟨b, e1, e2, hst'.dom.none ((e3 rfl).elim id fun q => absurd q (noOwn b))⟩
      | safe => cases hnew
      | ownd => cases hnew
    | deck l c t =>
      obtain ⟨b, e1, e2, e3, e4⟩ := hv
      exact ⟨b, e1, e2, hst'.dom.none e3, hst'.dom.none e4⟩
    | cost fr dx ps ds =>
      cases fr with
      | true =>
        obtain ⟨b, e1, e2, e3⟩ := hv
        exact ⟨b, e1, e2, hst'.dom.none (e3 rfl).1, hst'.dom.none (e3 rfl).2⟩
      | false => cases hnew
end
end
section -- Core23
/-- what an entry is worth -/
inductive EntRes : Ent → Res → Prop
  | dat (d : PyData) : EntRes (.dat d) (.dat d)
  | own (xs : List PyData) : EntRes (.lst true xs) (.lst .ownd xs)
  | safe (xs : List PyData) : EntRes (.lst false xs) (.lst .safe xs)
  | cost (dx : Addr) (ps ds : List Int) : EntRes (.cost dx ps ds) (.cost false dx ps ds)
section
variable {prog : Program} {w : World} {H0 : Heap} {mg mb : Vals} {k : Nat} {env : Env} {σ : Sto} {dk : Dk} {K : Out → Prop}
theorem E.nameD {x : Str} {pos : Pos} {d : PyData} {P : Res → Dk → Prop} (V : EnvOk env) (hk : Kind env x) (hx : σ x = some (.dat d)) (hd : (x == ("__debug__" : Str)) = false) (h : P (.dat d) dk) : E prog w H0 k env σ dk (eval (.Name x pos) env) P := by
  rcases hk with hk | ⟨hk, c, hc⟩
  · exact E.name V hk hx h hd
  · exact E.nameC V hk hc hx h hd
theorem E.nameO {x : Str} {pos : Pos} {xs : List PyData} {P : Res → Dk → Prop} (V : EnvOk env) (hk : Kind env x) (hx : σ x = some (.lst true xs)) (hd : (x == ("__debug__" : Str)) = false) (h : P (.lst .ownd xs) dk) : E prog w H0 k env σ dk (eval (.Name x pos) env) P := by
  rcases hk with hk | ⟨hk, c, hc⟩
  · exact E.name V hk hx h hd
  · exact E.nameC V hk hc hx h hd
theorem E.nameS {x : Str} {pos : Pos} {xs : List PyData} {P : Res → Dk → Prop} (V : EnvOk env) (hk : Kind env x) (hx : σ x = some (.lst false xs)) (hd : (x == ("__debug__" : Str)) = false) (h : P (.lst .safe xs) dk) : E prog w H0 k env σ dk (eval (.Name x pos) env) P := by
  rcases hk with hk | ⟨hk, c, hc⟩
  · exact E.name V hk hx h hd
  · exact E.nameC V hk hc hx h hd
theorem E.nameK {x : Str} {pos : Pos} {dx : Addr} {ps ds : List Int} {P : Res → Dk → Prop} (V : EnvOk env) (hk : Kind env x) (hx : σ x = some (.cost dx ps ds)) (hd : (x == ("__debug__" : Str)) = false) (h : P (.cost false dx ps ds) dk) : E prog w H0 k env σ dk (eval (.Name x pos) env) P := by
  rcases hk with hk | ⟨hk, c, hc⟩
  · exact E.name V hk hx h hd
  · exact E.nameC V hk hc hx h hd
theorem E.nameG {x : Str} {pos : Pos} {e : Ent} {ρ : Res} {P : Res → Dk → Prop} (V : EnvOk env) (hk : Kind env x) (hx : σ x = some e) (hr : EntRes e ρ) (hd : (x == ("__debug__" : Str)) = false) (h : P ρ dk) : E prog w H0 k env σ dk (eval (.Name x pos) env) P := by
  cases hr with
  | dat d => exact E.nameD V hk hx hd h
  | own xs => exact E.nameO V hk hx hd h
  | safe xs => exact E.nameS V hk hx hd h
  | cost dx ps ds => exact E.nameK V hk hx hd h
/-- x[i], a place of a tuple that a name holds -/
theorem E.subN {x : Str} {p1 p2 pos : Pos} {kk : Nat} {ds : List PyData} {i : Int} {d : PyData} {P : Res → Dk → Prop} (V : EnvOk env) (hk : Kind env x) (hx : σ x = some (.dat (.tuple ds))) (hd : (x == ("__debug__" : Str)) = false) (lo : -(2 ^ 63) ≤ i) (hi : i < 2 ^ 63) (att : at? ds i = some d) (h : P (.dat d) dk) :
    E prog w H0 k env σ dk (eval (.Subscript (.Name x p1) (.Constant (.int i) kk p2) pos) env) P :=
  E.sub (E.nameD V hk hx hd ⟨rfl, E.int ⟨d, SubR.tup _ _ _ lo hi att, h⟩⟩) rfl
theorem CmpR.calm {op : CmpOp} {ρ₁ ρ₂ : Res} {b : Bool} (h : CmpR op ρ₁ ρ₂ b) : ρ₁.calm = true := by induction h <;> rfl
noncomputable abbrev kTag (op : CmpOp) (s : Str) (P : Bool → Dk → Prop) (ρ₁ : Res) (dk₁ : Dk) : Prop := ∃ b, CmpR op ρ₁ (.dat (.str s)) b ∧ P b dk₁
theorem T.cmpC {op : CmpOp} {l : Expr} {s : Str} {kk : Nat} {p pos : Pos} {whole : Sem Value} {P : Bool → Dk → Prop} (h : E prog w H0 k env σ dk (eval l env) (kTag op s P)) (hm : behindInMarks op (.Constant (.str s) kk p) = false) :
    T prog w H0 k env σ dk (isTrue (.Compare l [op] [.Constant (.str s) kk p] pos) env whole) P :=
  T.cmp (h.mono fun _ _ ⟨b, hb, hp⟩ => ⟨hb.calm, E.str ⟨b, hb, hp⟩⟩) hm
theorem E.cmpC {op : CmpOp} {l : Expr} {s : Str} {kk : Nat} {p pos : Pos} {P : Res → Dk → Prop} (h : E prog w H0 k env σ dk (eval l env) (kTag op s (kBoo P))) (hm : behindInMarks op (.Constant (.str s) kk p) = false) :
    E prog w H0 k env σ dk (eval (.Compare l [op] [.Constant (.str s) kk p] pos) env) P :=
  E.cmp (h.mono fun _ _ ⟨b, hb, hp⟩ => ⟨hb.calm, E.str ⟨b, hb, hp⟩⟩) hm
theorem E.globI {x : Str} {pos : Pos} {i : Int} {t : Tok} {P : Res → Dk → Prop} (G : Gnd H0 mg mb) (V : EnvOk env) (hk : env.kindOf x = some .globalImplicit) (hv : mg x = some (.int i t)) (hd : (x == ("__debug__" : Str)) = false) (h : P (.dat (.int i)) dk) : E prog w H0 k env σ dk (eval (.Name x pos) env) P :=
  E.glob G V hk hv (fun _ => .int ..) h hd
theorem Then.next {rest : List Stmt} (h : S prog w H0 k env σ dk (execs rest env) K) : Then prog w H0 k env rest K (.next σ dk) := h
theorem Then.ret {rest : List Stmt} {ρ : Res} (h : K (.ret ρ dk)) : Then prog w H0 k env rest K (.ret ρ dk) := h
theorem Er.cons {e : Expr} {r : List Expr} {acc : List Res} {P : List Res → Dk → Prop} (h : E prog w H0 k env σ dk (eval e env) fun ρ dk₁ => ρ.calm = true ∧ Er prog w H0 k env σ r dk₁ (acc ++ [ρ]) P) : Er prog w H0 k env σ (e :: r) dk acc P := h
theorem Er.nil {acc : List Res} {P : List Res → Dk → Prop} (h : P acc dk) : Er prog w H0 k env σ [] dk acc P := h
theorem Part.none {P : Option Int → Dk → Prop} (h : P .none dk) : Part prog w H0 k env σ dk .none P := h
theorem Part.some {e : Expr} {P : Option Int → Dk → Prop} (h : E prog w H0 k env σ dk (eval e env) fun ρ dk₁ => ∃ i, ρ = .dat (.int i) ∧ P (.some i) dk₁) : Part prog w H0 k env σ dk (.some e) P := h
theorem lk_ne {x y : Str} {e e' : Ent} (h : σ y = some e') (hne : y ≠ x) : σ.set x e y = some e' := (Sto.set_ne σ e hne).trans h
theorem and_rfl {p q : Prop} (h : p) (h' : q) : p ∧ q := ⟨h, h'⟩
end
end
section -- Core24
section
variable {prog : Program} {w : World} {H0 : Heap} {mg mb : Vals} {k : Nat} {env : Env} {σ : Sto} {dk : Dk} {K : Out → Prop}
theorem deck_name {A : Around} {X : Value → Shared → Prop} {s : Shared} {m : Vals} {ad : Addr} {p : Pos} {Q : Value → Shared → Prop} (V : EnvOk env) (R : Rel prog w H0 env s.heap m σ dk) (hk : Kind env deckName) (had : m deckName = some (.ref ad)) (hQ : Q (.ref ad) s) : wpAny (model prog w) A (eval (.Name deckName p) env) Q X s := by
  rcases hk with hk | ⟨hk, cc, hc'⟩
  · obtain ⟨mL, hns, hmm⟩ := R.frm.ns
    exact wpAny_Name (wpAny_loadName_local V.fn hk hns ((hmm _ hk).trans had) hQ) (by decide)
  · have := R.frm.cl _ cc hk hc'
    rw [had] at this
    exact wpAny_Name (wpAny_loadName_cell V.fn hk hc' this hQ) (by decide)
theorem deck_at {l : Value} {t : Value} : valueAt [(Str.ofString "cells", l), (Str.ofString "at", t)] (Str.ofString "at") = some t := by
  have ne : Str.ofString "cells" ≠ Str.ofString "at" := by decide
  simp [valueAt, List.find?_cons, ne]
theorem deck_cells {l : Value} {t : Value} : valueAt [(Str.ofString "cells", l), (Str.ofString "at", t)] (Str.ofString "cells") = some l := by
  simp [valueAt, List.find?_cons]
theorem deck_stored {l t t' : Value} : stored [(Str.ofString "cells", l), (Str.ofString "at", t)] (Str.ofString "at") t' = [(Str.ofString "cells", l), (Str.ofString "at", t')] := by
  have ne : Str.ofString "cells" ≠ Str.ofString "at" := by decide
  simp [stored, ne]
/-- deck['at'] -/
theorem E.deckAt {p q pos : Pos} {kk : Nat} {l : Addr} {c : List Int} {t : Int} {P : Res → Dk → Prop} (V : EnvOk env) (hk : Kind env deckName) (hdk : dk = some (l, c, t)) (h : P (.dat (.int t)) dk) :
    E prog w H0 k env σ dk (eval (.Subscript (.Name deckName p) (.Constant (.str (Str.ofString "at")) kk q) pos) env) P := by
  intro A s m ok R Q X hQ
  obtain ⟨ad, had, hD, _⟩ := R.dek l c t hdk
  obtain ⟨tok, hd, hl⟩ := id hD
  refine Subscript_ (deck_name V R hk had (wpAny_Constant_str ?_))
  refine tail_any (T := "dict") (s := ⟨s.heap, s.gens, s.drawn, s.toks + 1, s.os⟩) hd.typeIs slot_dict_getitem.lookup (wpAny_getItem_of (knd := PySem.strKind prog w) (PySem.strKind_is prog w _ _) hd.mapOf deck_at ?_) (subscripted_plain rfl)
  exact hQ _ s.heap _ _ dk h R .refl (.int ..)
/-- deck['cells'] -/
theorem E.deckCells {p q pos : Pos} {kk : Nat} {l : Addr} {c : List Int} {t : Int} {P : Res → Dk → Prop} (V : EnvOk env) (hk : Kind env deckName) (hdk : dk = some (l, c, t)) (h : P (.lst .safe (c.map .int)) dk) :
    E prog w H0 k env σ dk (eval (.Subscript (.Name deckName p) (.Constant (.str (Str.ofString "cells")) kk q) pos) env) P := by
  intro A s m ok R Q X hQ
  obtain ⟨ad, had, hD, _, _, hno⟩ := R.dek l c t hdk
  obtain ⟨tok, hd, hl⟩ := id hD
  refine Subscript_ (deck_name V R hk had (wpAny_Constant_str ?_))
  refine tail_any (T := "dict") (s := ⟨s.heap, s.gens, s.drawn, s.toks + 1, s.os⟩) hd.typeIs slot_dict_getitem.lookup (wpAny_getItem_of (knd := PySem.strKind prog w) (PySem.strKind_is prog w _ _) hd.mapOf deck_cells ?_) (subscripted_plain rfl)
  exact hQ _ s.heap _ _ dk h R .refl ⟨l, rfl, hl, (by intro q; cases q), fun _ => hno⟩
noncomputable abbrev kS_deckSet_1 (σ : Sto) (dk : Dk) (K : Out → Prop) (l : Addr) (c : List Int) (ρ : Res) (dk₁ : Dk) : Prop := ∃ t', ρ = .dat (.int t') ∧ dk₁ = dk ∧ K (.next σ (some (l, c, t')))
/-- deck['at'] = v -/
theorem S.deckSet {p q sp pos : Pos} {kk : Nat} {l : Addr} {c : List Int} {t : Int} {value : Expr} (V : EnvOk env) (hk : Kind env deckName) (hdk : dk = some (l, c, t)) (nc : NoCost σ)
    (h : E prog w H0 k env σ dk (eval value env) (kS_deckSet_1 σ dk K l c))
    (hs : swapsWith value (some (.Subscript (.Name deckName p) (.Constant (.str (Str.ofString "at")) kk q) sp)) pos.line env = pure false := by rfl) :
    S prog w H0 k env σ dk (exec (.Assign [.Subscript (.Name deckName p) (.Constant (.str (Str.ofString "at")) kk q) sp] value pos) env) K := by
  intro A s m ok R Q X hQ
  refine wpAny_Assign_Subscript (h A s m ok R _ _ ?_) hs
  rintro v₁ h₁ tk₁ ρ dk₁ ⟨t', rfl, rfl, hK⟩ R₁ K₁ V₁
  obtain ⟨u, rfl, _⟩ := reads_int_inv V₁
  obtain ⟨ad, had, hD, hD0, _⟩ := R₁.dek l c t hdk
  obtain ⟨tok, hd, hl⟩ := id hD
  refine deck_name (s := ⟨h₁, s.gens, s.drawn, tk₁, s.os⟩) V R₁ hk had (wpAny_Constant_str ?_)
  refine wpAny_setItem_pairs (knd := PySem.strKind prog w) (PySem.strKind_is prog w _ _) hd (fun h' hd' hsb => ?_) (by rw [sizeLine_eq]; exact Nat.le_of_ble_eq_true rfl)
  rw [deck_stored] at hd'
  subst hdk
  have hk' : ∀ b o, b ≠ ad → h₁.get? b = some o → h'.get? b = some o := fun b o hb ho => (hsb.2 b hb).trans ho
  obtain ⟨R', K'⟩ := R₁.dkstep had hk' ⟨_, hd', hl.seq (fun b o vs n ho hds => hk' b o (deck_not_seq hD ho hds) ho)⟩ nc
  exact hQ .next h' _ _ hK ⟨rfl, m, R', (K₁.trans K').step⟩
/-- a for loop, by what holds from turn to turn -/
theorem ForL.ind {α : Type} {f : α → PyData} {target : Expr} {body : List Stmt} (I : List α → Sto → Dk → Prop)
    (step : ∀ x r σ dk, I (x :: r) σ dk → ∃ σ₁, bindT target (f x) σ = some σ₁ ∧ S prog w H0 k env σ₁ dk (execs body env) fun o => match o with
      | .next σ' dk' => I r σ' dk'
      | .ret ρ dk' => K (.ret ρ dk'))
    (fin : ∀ σ dk, I [] σ dk → K (.next σ dk)) : ∀ (xs : List α) (σ : Sto) (dk : Dk), I xs σ dk → ForL prog w H0 k env target body (xs.map f) σ dk K
  | [], σ, dk, h => fin σ dk h
  | x :: r, σ, dk, h => by
    obtain ⟨σ₁, hb, hS⟩ := step x r σ dk h
    refine ⟨σ₁, hb, hS.mono fun o ho => ?_⟩
    cases o with
    | next σ' dk' => exact ForL.ind I step fin r σ' dk' ho
    | ret ρ dk' => exact ho
theorem CompL.ind {α : Type} {f : α → PyData} {target elt : Expr} {ifs : List Expr} {σc : Sto} {KK : List PyData → Dk → Prop} (I : List α → Dk → List PyData → Prop)
    (step : ∀ x r dk acc, I (x :: r) dk acc → ∃ σ₁, bindT target (f x) σc = some σ₁ ∧ Tests prog w H0 k env σ₁ dk ifs fun b dk₁ =>
      (b = false → I r dk₁ acc) ∧ (b = true → E prog w H0 k env σ₁ dk₁ (eval elt env) fun ρ dk₂ => ∃ y, ρ = .dat y ∧ I r dk₂ (acc ++ [y])))
    (fin : ∀ dk acc, I [] dk acc → KK acc dk) : ∀ (xs : List α) (dk : Dk) (acc : List PyData), I xs dk acc → CompL prog w H0 k env target elt ifs σc (xs.map f) dk acc KK
  | [], dk, acc, h => fin dk acc h
  | x :: r, dk, acc, h => by
    obtain ⟨σ₁, hb, hT⟩ := step x r dk acc h
    unfold CompL
    refine ⟨σ₁, hb, ?_⟩
    have mono : ∀ {P P' : Bool → Dk → Prop}, (∀ b d, P b d → P' b d) → Tests prog w H0 k env σ₁ dk ifs P → Tests prog w H0 k env σ₁ dk ifs P' := by
      intro P P' hp ht
      match ifs, ht with
      | [], ht => exact hp _ _ ht
      | [c], ht => exact T.mono ht hp
    refine mono (fun b d hbd => ⟨fun q => CompL.ind I step fin r d acc (hbd.1 q), fun q => (hbd.2 q).mono fun ρ d₂ ⟨y, e, hy⟩ => ⟨y, e, CompL.ind I step fin r d₂ _ hy⟩⟩) hT
/-- a comprehension that turns each x into g x, or drops it -/
theorem CompL.map {α : Type} {f : α → PyData} {g : α → Option PyData} {target elt : Expr} {ifs : List Expr} {σc : Sto} {KK : List PyData → Dk → Prop} {xs : List α} {dk : Dk}
    (step : ∀ x ∈ xs, ∃ σ₁, bindT target (f x) σc = some σ₁ ∧ Tests prog w H0 k env σ₁ dk ifs fun b dk₁ =>
      (b = false → dk₁ = dk ∧ g x = .none) ∧ (b = true → E prog w H0 k env σ₁ dk₁ (eval elt env) fun ρ dk₂ => ∃ y, ρ = .dat y ∧ dk₂ = dk ∧ g x = some y))
    (fin : KK (xs.filterMap g) dk) : CompL prog w H0 k env target elt ifs σc (xs.map f) dk [] KK := by
  refine CompL.ind (I := fun r d acc => d = dk ∧ acc ++ r.filterMap g = xs.filterMap g ∧ ∀ x ∈ r, x ∈ xs) ?_ ?_ xs dk [] ⟨rfl, rfl, fun _ h => h⟩
  · rintro x r d acc ⟨rfl, ha, hm⟩
    obtain ⟨σ₁, hb, hT⟩ := step x (hm x (.head _))
    have hm' : ∀ y ∈ r, y ∈ xs := fun y hy => hm y (.tail _ hy)
    refine ⟨σ₁, hb, ?_⟩
    have mono : ∀ {P P' : Bool → Dk → Prop}, (∀ b d, P b d → P' b d) → Tests prog w H0 k env σ₁ d ifs P → Tests prog w H0 k env σ₁ d ifs P' := by
      intro P P' hp ht
      match ifs, ht with
      | [], ht => exact hp _ _ ht
      | [c], ht => exact T.mono ht hp
    refine mono (fun b d' hbd => ⟨fun q => ?_, fun q => (hbd.2 q).mono ?_⟩) hT
    · obtain ⟨rfl, hg⟩ := hbd.1 q
      rw [List.filterMap_cons_none hg] at ha
      exact ⟨rfl, ha, hm'⟩
    · rintro ρ d₂ ⟨y, e, rfl, hg⟩
      rw [List.filterMap_cons_some hg] at ha
      exact ⟨y, e, rfl, by rw [List.append_assoc]; exact ha, hm'⟩
  · rintro d acc ⟨rfl, ha, _⟩
    rw [List.filterMap_nil, List.append_nil] at ha
    rw [ha]; exact fin
/-- a while loop, by what holds from turn to turn -/
theorem WhileL.ind {test : Expr} {body : List Stmt} (I : Nat → Sto → Dk → Prop)
    (step : ∀ n σ dk, I n σ dk → T prog w H0 k env σ dk (isTrue test env (eval test env)) fun b dk₁ => (b = false → K (.next σ dk₁)) ∧ (b = true → S prog w H0 k env σ dk₁ (execs body env) fun o => match o with
      | .next σ' dk' => ∃ m, m < n ∧ I m σ' dk'
      | .ret ρ dk' => K (.ret ρ dk'))) : ∀ (f n : Nat) (σ : Sto) (dk : Dk), n < f → I n σ dk → WhileL prog w H0 k env test body f σ dk K
  | 0, n, _, _, h, _ => absurd h (Nat.not_lt_zero n)
  | f + 1, n, σ, dk, h, hI => by
    unfold WhileL
    refine (step n σ dk hI).mono fun b dk₁ hb => ⟨hb.1, fun q => (hb.2 q).mono fun o ho => ?_⟩
    cases o with
    | next σ' dk' =>
      obtain ⟨m, hm, hI'⟩ := ho
      exact WhileL.ind I step f m σ' dk' (by omega) hI'
    | ret ρ dk' => exact ho
end
end
section -- Core25
section
variable {prog : Program} {w : World} {H0 : Heap} {mg mb : Vals} {k : Nat} {env : Env} {σ : Sto} {dk : Dk} {K : Out → Prop}
theorem noSto_nc : NoCost noSto := fun _ _ _ _ h => by cases h
theorem Tests.one {c : Expr} {P : Bool → Dk → Prop} (h : T prog w H0 k env σ dk (isTrue c env (eval c env)) P) : Tests prog w H0 k env σ dk [c] P := h
theorem Tests.nil {P : Bool → Dk → Prop} (h : P true dk) : Tests prog w H0 k env σ dk [] P := h
noncomputable abbrev kE_comp0_1 (P : Res → Dk → Prop) (dk₁ : Dk) (ys : List PyData) (dk₂ : Dk) : Prop := P (.lst .fresh ys) dk₁
noncomputable abbrev kE_comp0_2 (prog : Program) (w : World) (H0 : Heap) (k : Nat) (env : Env) (scope : Scope) (target : Expr) (elt : Expr) (ifs : List Expr) (P : Res → Dk → Prop) (ρ : Res) (dk₁ : Dk) : Prop := ∃ fl xs, ρ = .lst fl xs ∧ xs.length ≤ 10000 ∧
      ∀ C, EnvOk (compEnvC scope [] C env) → CompL prog w H0 k (compEnvC scope [] C env) target elt ifs noSto xs .none [] (kE_comp0_1 P dk₁)
/-- a comprehension over a list that closes over nothing -/
theorem E.comp0 {target elt iter : Expr} {ifs : List Expr} {scope : Scope} {pos : Pos} {P : Res → Dk → Prop} (V : EnvOk env) (B : BlockOk env scope []) (nc : NoCost σ) (ht : isTgt target = true)
    (hx : ∀ C, ∀ x ∈ tgtNames target, (compEnvC scope [] C env).kindOf x = some .local)
    (h : E prog w H0 k env σ dk (eval iter env) (kE_comp0_2 prog w H0 k env scope target elt ifs P))
    (hs : ∀ x, foldedSetIterable iter env x = pure x := by intro _; rfl) :
    E prog w H0 k env σ dk (eval (.ListComp elt [⟨target, iter, ifs, 0⟩] scope pos) env) P :=
  E.comp noSto false V B nc ht hx (fun _ _ _ h => by cases h) (fun h => by cases h) (h.mono fun ρ dk₁ ⟨fl, xs, e, hl, hC⟩ => ⟨fl, xs, e, hl, fun C => hC C (block_env V B C)⟩) hs
noncomputable abbrev kE_compD_1 (P : Res → Dk → Prop) (ys : List PyData) (dk₂ : Dk) : Prop := P (.lst .fresh ys) dk₂
noncomputable abbrev kE_compD_2 (prog : Program) (w : World) (H0 : Heap) (k : Nat) (env : Env) (scope : Scope) (cl : List (Str × Addr)) (x : Str) (px : Pos) (elt : Expr) (ifs : List Expr) (P : Res → Dk → Prop) (ρ : Res) (dk₁ : Dk) : Prop := ∃ n : Nat, ρ = .dat (.int n) ∧ n ≤ 10000 ∧
      ∀ C, EnvOk (compEnvC scope cl C env) → CompL prog w H0 k (compEnvC scope cl C env) (.Name x px) elt ifs noSto (rangeD n) dk₁ [] (kE_compD_1 P)
/-- the same with a deck -/
theorem E.compD {x : Str} {px p cpos : Pos} {e elt : Expr} {ifs : List Expr} {scope : Scope} {cl : List (Str × Addr)} {pos : Pos} {P : Res → Dk → Prop} (G : Gnd H0 mg mb) (V : EnvOk env) (B : BlockOk env scope cl) (nc : NoCost σ)
    (hk : env.kindOf (Str.ofString "range") = some .globalImplicit) (hx : ∀ C, (compEnvC scope cl C env).kindOf x = some .local) (hcap : ∀ C, (compEnvC scope cl C env).kindOf deckName = some .cell)
    (h : E prog w H0 k env σ dk (eval e env) (kE_compD_2 prog w H0 k env scope cl x px elt ifs P))
    (hn : noStar [e] = true := by rfl) (hs : ∀ v, foldedSetIterable (.Call (.Name (Str.ofString "range") p) [e] [] cpos) env v = pure v := by intro _; rfl) :
    E prog w H0 k env σ dk (eval (.ListComp elt [⟨.Name x px, .Call (.Name (Str.ofString "range") p) [e] [] cpos, ifs, 0⟩] scope pos) env) P :=
  E.compR noSto true G V B nc hk hx (fun _ _ _ h => by cases h) (fun _ => hcap) (h.mono fun ρ dk₁ ⟨n, e, hl, hC⟩ => ⟨n, e, hl, fun C => hC C (block_env V B C)⟩) hn hs
noncomputable abbrev kE_compR0_1 (P : Res → Dk → Prop) (dk₁ : Dk) (ys : List PyData) (dk₂ : Dk) : Prop := P (.lst .fresh ys) dk₁
noncomputable abbrev kE_compR0_2 (prog : Program) (w : World) (H0 : Heap) (k : Nat) (env : Env) (scope : Scope) (cl : List (Str × Addr)) (x : Str) (px : Pos) (elt : Expr) (ifs : List Expr) (σc : Sto) (P : Res → Dk → Prop) (ρ : Res) (dk₁ : Dk) : Prop := ∃ n : Nat, ρ = .dat (.int n) ∧ n ≤ 10000 ∧
      ∀ C, EnvOk (compEnvC scope cl C env) → CompL prog w H0 k (compEnvC scope cl C env) (.Name x px) elt ifs σc (rangeD n) .none [] (kE_compR0_1 P dk₁)
theorem E.compR0 {x : Str} {px p cpos : Pos} {e elt : Expr} {ifs : List Expr} {scope : Scope} {cl : List (Str × Addr)} {pos : Pos} {P : Res → Dk → Prop} (σc : Sto) (G : Gnd H0 mg mb) (V : EnvOk env) (B : BlockOk env scope cl) (nc : NoCost σ)
    (hk : env.kindOf (Str.ofString "range") = some .globalImplicit) (hx : ∀ C, (compEnvC scope cl C env).kindOf x = some .local) (hc : ∀ C, Caught (compEnvC scope cl C env) σ σc)
    (h : E prog w H0 k env σ dk (eval e env) (kE_compR0_2 prog w H0 k env scope cl x px elt ifs σc P))
    (hn : noStar [e] = true := by rfl) (hs : ∀ v, foldedSetIterable (.Call (.Name (Str.ofString "range") p) [e] [] cpos) env v = pure v := by intro _; rfl) :
    E prog w H0 k env σ dk (eval (.ListComp elt [⟨.Name x px, .Call (.Name (Str.ofString "range") p) [e] [] cpos, ifs, 0⟩] scope pos) env) P :=
  E.compR σc false G V B nc hk hx hc (fun h => by cases h) (h.mono fun ρ dk₁ ⟨n, e, hl, hC⟩ => ⟨n, e, hl, fun C => hC C (block_env V B C)⟩) hn hs
noncomputable abbrev kS_assignComp0_1 (σ : Sto) (K : Out → Prop) (y : Str) (own : Bool) (dk₁ : Dk) (ys : List PyData) (z : Dk) : Prop := K (.next (σ.set y (.lst own ys)) dk₁)
noncomputable abbrev kS_assignComp0_2 (prog : Program) (w : World) (H0 : Heap) (k : Nat) (env : Env) (σ : Sto) (K : Out → Prop) (scope : Scope) (target : Expr) (elt : Expr) (ifs : List Expr) (y : Str) (own : Bool) (ρ : Res) (dk₁ : Dk) : Prop := ∃ fl xs, ρ = .lst fl xs ∧ xs.length ≤ 10000 ∧
      ∀ C, EnvOk (compEnvC scope [] C env) → CompL prog w H0 k (compEnvC scope [] C env) target elt ifs noSto xs .none [] (kS_assignComp0_1 σ K y own dk₁)
/-- y = [..], the block closing over nothing -/
theorem S.assignComp0 {y : Str} {py spos : Pos} {target elt iter : Expr} {ifs : List Expr} {scope : Scope} {pos : Pos} (own : Bool) (V : EnvOk env) (B : BlockOk env scope []) (nc : NoCost σ) (ht : isTgt target = true) (hy : y ≠ deckName ∧ env.kindOf y = some .local)
    (hsw : swapsWith (.ListComp elt [⟨target, iter, ifs, 0⟩] scope pos) (some (.Name y py)) spos.line env = pure true)
    (hx : ∀ C, ∀ x ∈ tgtNames target, (compEnvC scope [] C env).kindOf x = some .local)
    (h : E prog w H0 k env σ dk (eval iter env) (kS_assignComp0_2 prog w H0 k env σ K scope target elt ifs y own))
    (hs : ∀ x, foldedSetIterable iter env x = pure x := by intro _; rfl) :
    S prog w H0 k env σ dk (exec (.Assign [.Name y py] (.ListComp elt [⟨target, iter, ifs, 0⟩] scope pos) spos) env) K :=
  S.assignComp own noSto V B nc ht hy hsw hx (fun _ _ _ h => by cases h) (h.mono fun ρ dk₁ ⟨fl, xs, e, hl, hC⟩ => ⟨fl, xs, e, hl, fun C => hC C (block_env V B C)⟩) hs
noncomputable abbrev kE_tup1_1 (P : Res → Dk → Prop) (ρ : Res) (dk₁ : Dk) : Prop := ∃ d, ρ = .dat d ∧ P (.dat (.tuple [d])) dk₁
noncomputable abbrev kE_tup2_1 (P : Res → Dk → Prop) (d : PyData) (ρ₂ : Res) (dk₂ : Dk) : Prop := ∃ d₂, ρ₂ = .dat d₂ ∧ P (.dat (.tuple [d, d₂])) dk₂
noncomputable abbrev kE_tup2_2 (prog : Program) (w : World) (H0 : Heap) (k : Nat) (env : Env) (σ : Sto) (b : Expr) (P : Res → Dk → Prop) (ρ : Res) (dk₁ : Dk) : Prop := ∃ d, ρ = .dat d ∧ E prog w H0 k env σ dk₁ (eval b env) (kE_tup2_1 P d)
theorem E.tup2 {a b : Expr} {kk : Nat} {pos : Pos} {P : Res → Dk → Prop} (h : E prog w H0 k env σ dk (eval a env) (kE_tup2_2 prog w H0 k env σ b P)) (hn : noStar [a, b] = true) : E prog w H0 k env σ dk (eval (.Tuple [a, b] kk pos) env) P :=
  E.tuple (h.mono fun ρ dk₁ ⟨d, e, hp⟩ => ⟨d, e, hp.mono fun ρ dk₁ ⟨d, e, hp⟩ => ⟨d, e, Nat.le_of_ble_eq_true rfl, hp⟩⟩) hn
noncomputable abbrev kE_tup3_1 (P : Res → Dk → Prop) (d : PyData) (d₂ : PyData) (ρ₃ : Res) (dk₃ : Dk) : Prop := ∃ d₃, ρ₃ = .dat d₃ ∧ P (.dat (.tuple [d, d₂, d₃])) dk₃
noncomputable abbrev kE_tup3_2 (prog : Program) (w : World) (H0 : Heap) (k : Nat) (env : Env) (σ : Sto) (c : Expr) (P : Res → Dk → Prop) (d : PyData) (ρ₂ : Res) (dk₂ : Dk) : Prop := ∃ d₂, ρ₂ = .dat d₂ ∧ E prog w H0 k env σ dk₂ (eval c env) (kE_tup3_1 P d d₂)
noncomputable abbrev kE_tup3_3 (prog : Program) (w : World) (H0 : Heap) (k : Nat) (env : Env) (σ : Sto) (b : Expr) (c : Expr) (P : Res → Dk → Prop) (ρ : Res) (dk₁ : Dk) : Prop := ∃ d, ρ = .dat d ∧ E prog w H0 k env σ dk₁ (eval b env) (kE_tup3_2 prog w H0 k env σ c P d)
theorem E.tup3 {a b c : Expr} {kk : Nat} {pos : Pos} {P : Res → Dk → Prop} (h : E prog w H0 k env σ dk (eval a env) (kE_tup3_3 prog w H0 k env σ b c P)) (hn : noStar [a, b, c] = true) : E prog w H0 k env σ dk (eval (.Tuple [a, b, c] kk pos) env) P :=
  E.tuple (h.mono fun ρ dk₁ ⟨d, e, hp⟩ => ⟨d, e, hp.mono fun ρ dk₁ ⟨d, e, hp⟩ => ⟨d, e, hp.mono fun ρ dk₁ ⟨d, e, hp⟩ => ⟨d, e, Nat.le_of_ble_eq_true rfl, hp⟩⟩⟩) hn
theorem E.list0 {pos : Pos} {P : Res → Dk → Prop} (h : P (.lst .fresh []) dk) : E prog w H0 k env σ dk (eval (.List [] pos) env) P :=
  E.list (es := []) ⟨Nat.le_of_ble_eq_true rfl, h⟩ rfl
noncomputable abbrev kE_list1_1 (P : Res → Dk → Prop) (ρ : Res) (dk₁ : Dk) : Prop := ∃ d, ρ = .dat d ∧ P (.lst .fresh [d]) dk₁
theorem E.list1 {a : Expr} {pos : Pos} {P : Res → Dk → Prop} (h : E prog w H0 k env σ dk (eval a env) (kE_list1_1 P)) (hn : noStar [a] = true) : E prog w H0 k env σ dk (eval (.List [a] pos) env) P :=
  E.list (h.mono fun ρ dk₁ ⟨d, e, hp⟩ => ⟨d, e, Nat.le_of_ble_eq_true rfl, hp⟩) hn
noncomputable abbrev kE_list2_1 (P : Res → Dk → Prop) (d : PyData) (ρ₂ : Res) (dk₂ : Dk) : Prop := ∃ d₂, ρ₂ = .dat d₂ ∧ P (.lst .fresh [d, d₂]) dk₂
noncomputable abbrev kE_list2_2 (prog : Program) (w : World) (H0 : Heap) (k : Nat) (env : Env) (σ : Sto) (b : Expr) (P : Res → Dk → Prop) (ρ : Res) (dk₁ : Dk) : Prop := ∃ d, ρ = .dat d ∧ E prog w H0 k env σ dk₁ (eval b env) (kE_list2_1 P d)
theorem E.list2 {a b : Expr} {pos : Pos} {P : Res → Dk → Prop} (h : E prog w H0 k env σ dk (eval a env) (kE_list2_2 prog w H0 k env σ b P)) (hn : noStar [a, b] = true) : E prog w H0 k env σ dk (eval (.List [a, b] pos) env) P :=
  E.list (h.mono fun ρ dk₁ ⟨d, e, hp⟩ => ⟨d, e, hp.mono fun ρ dk₁ ⟨d, e, hp⟩ => ⟨d, e, Nat.le_of_ble_eq_true rfl, hp⟩⟩) hn
noncomputable abbrev kE_list4_1 (P : Res → Dk → Prop) (d : PyData) (d₂ : PyData) (d₃ : PyData) (ρ₄ : Res) (dk₄ : Dk) : Prop := ∃ d₄, ρ₄ = .dat d₄ ∧ P (.lst .fresh [d, d₂, d₃, d₄]) dk₄
noncomputable abbrev kE_list4_2 (prog : Program) (w : World) (H0 : Heap) (k : Nat) (env : Env) (σ : Sto) (e : Expr) (P : Res → Dk → Prop) (d : PyData) (d₂ : PyData) (ρ₃ : Res) (dk₃ : Dk) : Prop := ∃ d₃, ρ₃ = .dat d₃ ∧ E prog w H0 k env σ dk₃ (eval e env) (kE_list4_1 P d d₂ d₃)
noncomputable abbrev kE_list4_3 (prog : Program) (w : World) (H0 : Heap) (k : Nat) (env : Env) (σ : Sto) (c : Expr) (e : Expr) (P : Res → Dk → Prop) (d : PyData) (ρ₂ : Res) (dk₂ : Dk) : Prop := ∃ d₂, ρ₂ = .dat d₂ ∧ E prog w H0 k env σ dk₂ (eval c env) (kE_list4_2 prog w H0 k env σ e P d d₂)
noncomputable abbrev kE_list4_4 (prog : Program) (w : World) (H0 : Heap) (k : Nat) (env : Env) (σ : Sto) (b : Expr) (c : Expr) (e : Expr) (P : Res → Dk → Prop) (ρ : Res) (dk₁ : Dk) : Prop := ∃ d, ρ = .dat d ∧ E prog w H0 k env σ dk₁ (eval b env) (kE_list4_3 prog w H0 k env σ c e P d)
theorem E.list4 {a b c e : Expr} {pos : Pos} {P : Res → Dk → Prop} (h : E prog w H0 k env σ dk (eval a env) (kE_list4_4 prog w H0 k env σ b c e P)) (hn : noStar [a, b, c, e] = true) : E prog w H0 k env σ dk (eval (.List [a, b, c, e] pos) env) P :=
  E.list (h.mono fun ρ dk₁ ⟨d, e, hp⟩ => ⟨d, e, hp.mono fun ρ dk₁ ⟨d, e, hp⟩ => ⟨d, e, hp.mono fun ρ dk₁ ⟨d, e, hp⟩ => ⟨d, e, hp.mono fun ρ dk₁ ⟨d, e, hp⟩ => ⟨d, e, Nat.le_of_ble_eq_true rfl, hp⟩⟩⟩⟩) hn
noncomputable abbrev kE_call1_1 (P : Res → Dk → Prop) (dk₁ : Dk) (ρ : Res) : Prop := P ρ dk₁
noncomputable abbrev kE_call1_2 (prog : Program) (w : World) (H0 : Heap) (mg : Vals) (k : Nat) (f : Str) (P : Res → Dk → Prop) (ρ : Res) (dk₁ : Dk) : Prop := ρ.calm = true ∧ FnP prog w H0 mg k f [ρ] (kE_call1_1 P dk₁)
/-- f(a), f(a, b), .. -/
theorem E.call1 {f : Str} {p pos : Pos} {a : Expr} {P : Res → Dk → Prop} {params : Arguments} {body : List Stmt} {scope : Scope} (hF : FnAt H0 mg f params body scope) (G : Gnd H0 mg mb) (V : EnvOk env) (hk : env.kindOf f = some .globalImplicit)
    (h : E prog w H0 k env σ dk (eval a env) (kE_call1_2 prog w H0 mg k f P)) (hn : noStar [a] = true) (hd : (f == ("__debug__" : Str)) = false) :
    E prog w H0 k env σ dk (eval (.Call (.Name f p) [a] [] pos) env) P :=
  E.callP G V hk hF h hn hd
noncomputable abbrev kE_call2_1 (P : Res → Dk → Prop) (dk₂ : Dk) (ρ : Res) : Prop := P ρ dk₂
noncomputable abbrev kE_call2_2 (prog : Program) (w : World) (H0 : Heap) (mg : Vals) (k : Nat) (f : Str) (ρ : Res) (P : Res → Dk → Prop) (ρ₂ : Res) (dk₂ : Dk) : Prop := ρ₂.calm = true ∧ FnP prog w H0 mg k f [ρ, ρ₂] (kE_call2_1 P dk₂)
noncomputable abbrev kE_call2_3 (prog : Program) (w : World) (H0 : Heap) (mg : Vals) (k : Nat) (env : Env) (σ : Sto) (b : Expr) (f : Str) (P : Res → Dk → Prop) (ρ : Res) (dk₁ : Dk) : Prop := ρ.calm = true ∧ E prog w H0 k env σ dk₁ (eval b env) (kE_call2_2 prog w H0 mg k f ρ P)
theorem E.call2 {f : Str} {p pos : Pos} {a b : Expr} {P : Res → Dk → Prop} {params : Arguments} {body : List Stmt} {scope : Scope} (hF : FnAt H0 mg f params body scope) (G : Gnd H0 mg mb) (V : EnvOk env) (hk : env.kindOf f = some .globalImplicit)
    (h : E prog w H0 k env σ dk (eval a env) (kE_call2_3 prog w H0 mg k env σ b f P)) (hn : noStar [a, b] = true) (hd : (f == ("__debug__" : Str)) = false) :
    E prog w H0 k env σ dk (eval (.Call (.Name f p) [a, b] [] pos) env) P :=
  E.callP G V hk hF h hn hd
noncomputable abbrev kE_call3_1 (P : Res → Dk → Prop) (dk₃ : Dk) (ρ : Res) : Prop := P ρ dk₃
noncomputable abbrev kE_call3_2 (prog : Program) (w : World) (H0 : Heap) (mg : Vals) (k : Nat) (f : Str) (ρ : Res) (ρ₂ : Res) (P : Res → Dk → Prop) (ρ₃ : Res) (dk₃ : Dk) : Prop := ρ₃.calm = true ∧ FnP prog w H0 mg k f [ρ, ρ₂, ρ₃] (kE_call3_1 P dk₃)
noncomputable abbrev kE_call3_3 (prog : Program) (w : World) (H0 : Heap) (mg : Vals) (k : Nat) (env : Env) (σ : Sto) (c : Expr) (f : Str) (ρ : Res) (P : Res → Dk → Prop) (ρ₂ : Res) (dk₂ : Dk) : Prop := ρ₂.calm = true ∧ E prog w H0 k env σ dk₂ (eval c env) (kE_call3_2 prog w H0 mg k f ρ ρ₂ P)
noncomputable abbrev kE_call3_4 (prog : Program) (w : World) (H0 : Heap) (mg : Vals) (k : Nat) (env : Env) (σ : Sto) (b : Expr) (c : Expr) (f : Str) (P : Res → Dk → Prop) (ρ : Res) (dk₁ : Dk) : Prop := ρ.calm = true ∧ E prog w H0 k env σ dk₁ (eval b env) (kE_call3_3 prog w H0 mg k env σ c f ρ P)
theorem E.call3 {f : Str} {p pos : Pos} {a b c : Expr} {P : Res → Dk → Prop} {params : Arguments} {body : List Stmt} {scope : Scope} (hF : FnAt H0 mg f params body scope) (G : Gnd H0 mg mb) (V : EnvOk env) (hk : env.kindOf f = some .globalImplicit)
    (h : E prog w H0 k env σ dk (eval a env) (kE_call3_4 prog w H0 mg k env σ b c f P)) (hn : noStar [a, b, c] = true) (hd : (f == ("__debug__" : Str)) = false) :
    E prog w H0 k env σ dk (eval (.Call (.Name f p) [a, b, c] [] pos) env) P :=
  E.callP G V hk hF h hn hd
noncomputable abbrev kE_call4_1 (P : Res → Dk → Prop) (dk₄ : Dk) (ρ : Res) : Prop := P ρ dk₄
noncomputable abbrev kE_call4_2 (prog : Program) (w : World) (H0 : Heap) (mg : Vals) (k : Nat) (f : Str) (ρ : Res) (ρ₂ : Res) (ρ₃ : Res) (P : Res → Dk → Prop) (ρ₄ : Res) (dk₄ : Dk) : Prop := ρ₄.calm = true ∧ FnP prog w H0 mg k f [ρ, ρ₂, ρ₃, ρ₄] (kE_call4_1 P dk₄)
noncomputable abbrev kE_call4_3 (prog : Program) (w : World) (H0 : Heap) (mg : Vals) (k : Nat) (env : Env) (σ : Sto) (e : Expr) (f : Str) (ρ : Res) (ρ₂ : Res) (P : Res → Dk → Prop) (ρ₃ : Res) (dk₃ : Dk) : Prop := ρ₃.calm = true ∧ E prog w H0 k env σ dk₃ (eval e env) (kE_call4_2 prog w H0 mg k f ρ ρ₂ ρ₃ P)
noncomputable abbrev kE_call4_4 (prog : Program) (w : World) (H0 : Heap) (mg : Vals) (k : Nat) (env : Env) (σ : Sto) (c : Expr) (e : Expr) (f : Str) (ρ : Res) (P : Res → Dk → Prop) (ρ₂ : Res) (dk₂ : Dk) : Prop := ρ₂.calm = true ∧ E prog w H0 k env σ dk₂ (eval c env) (kE_call4_3 prog w H0 mg k env σ e f ρ ρ₂ P)
noncomputable abbrev kE_call4_5 (prog : Program) (w : World) (H0 : Heap) (mg : Vals) (k : Nat) (env : Env) (σ : Sto) (b : Expr) (c : Expr) (e : Expr) (f : Str) (P : Res → Dk → Prop) (ρ : Res) (dk₁ : Dk) : Prop := ρ.calm = true ∧ E prog w H0 k env σ dk₁ (eval b env) (kE_call4_4 prog w H0 mg k env σ c e f ρ P)
theorem E.call4 {f : Str} {p pos : Pos} {a b c e : Expr} {P : Res → Dk → Prop} {params : Arguments} {body : List Stmt} {scope : Scope} (hF : FnAt H0 mg f params body scope) (G : Gnd H0 mg mb) (V : EnvOk env) (hk : env.kindOf f = some .globalImplicit)
    (h : E prog w H0 k env σ dk (eval a env) (kE_call4_5 prog w H0 mg k env σ b c e f P)) (hn : noStar [a, b, c, e] = true) (hd : (f == ("__debug__" : Str)) = false) :
    E prog w H0 k env σ dk (eval (.Call (.Name f p) [a, b, c, e] [] pos) env) P :=
  E.callP G V hk hF h hn hd
noncomputable abbrev kE_callD0_1 (P : Res → Dk → Prop) (l : Addr) (ρ : Res) (c' : List Int) (t' : Int) : Prop := P ρ (some (l, c', t'))
/-- f(deck), f(deck, a) -/
theorem E.callD0 {f : Str} {p dp pos : Pos} {P : Res → Dk → Prop} {params : Arguments} {body : List Stmt} {scope : Scope} {l : Addr} {c : List Int} {t : Int} (hF : FnAt H0 mg f params body scope) (G : Gnd H0 mg mb) (V : EnvOk env) (hk : env.kindOf f = some .globalImplicit) (nc : NoCost σ)
    (hdn : Kind env deckName) (hdk : dk = some (l, c, t)) (h : FnD prog w H0 mg k f c t [] (kE_callD0_1 P l)) (hd : (f == ("__debug__" : Str)) = false) :
    E prog w H0 k env σ dk (eval (.Call (.Name f p) [.Name deckName dp] [] pos) env) P :=
  E.callD G V hk hF nc hdn hdk (es := []) ⟨hdk, h⟩ rfl hd
noncomputable abbrev kE_callD1_1 (P : Res → Dk → Prop) (l : Addr) (ρ : Res) (c' : List Int) (t' : Int) : Prop := P ρ (some (l, c', t'))
noncomputable abbrev kE_callD1_2 (prog : Program) (w : World) (H0 : Heap) (mg : Vals) (k : Nat) (l : Addr) (c : List Int) (t : Int) (f : Str) (P : Res → Dk → Prop) (ρ : Res) (dk₁ : Dk) : Prop := ρ.calm = true ∧ dk₁ = some (l, c, t) ∧ FnD prog w H0 mg k f c t [ρ] (kE_callD1_1 P l)
theorem E.callD1 {f : Str} {p dp pos : Pos} {a : Expr} {P : Res → Dk → Prop} {params : Arguments} {body : List Stmt} {scope : Scope} {l : Addr} {c : List Int} {t : Int} (hF : FnAt H0 mg f params body scope) (G : Gnd H0 mg mb) (V : EnvOk env) (hk : env.kindOf f = some .globalImplicit) (nc : NoCost σ)
    (hdn : Kind env deckName) (hdk : dk = some (l, c, t)) (h : E prog w H0 k env σ dk (eval a env) (kE_callD1_2 prog w H0 mg k l c t f P)) (hn : noStar [a] = true) (hd : (f == ("__debug__" : Str)) = false) :
    E prog w H0 k env σ dk (eval (.Call (.Name f p) [.Name deckName dp, a] [] pos) env) P :=
  E.callD G V hk hF nc hdn hdk (es := [a]) h hn hd
end
/-- flat data -/
noncomputable def P1 (d : PyData) : Prop := d.canLay0 = true ∧ d.depth ≤ 1
theorem okD_of {d : PyData} (h : P1 d) : okD d := by
  unfold okD SeqAt.shaped
  rw [h.1, Bool.true_and, decide_eq_true_eq]
  have := h.2
  omega
theorem okL_of {xs : List PyData} (h : ∀ x ∈ xs, P1 x) : PyData.canLayAll0 xs = true ∧ PyData.depthAll xs ≤ 1 := by
  induction xs with
  | nil => exact ⟨rfl, Nat.le_of_ble_eq_true rfl⟩
  | cons x xs ih =>
    obtain ⟨a, b⟩ := ih fun y hy => h y (.tail _ hy)
    obtain ⟨c, d⟩ := h x (.head _)
    refine ⟨?_, ?_⟩
    · simp only [PyData.canLayAll0, a, c]; rfl
    · simp only [PyData.depthAll]; omega
theorem okD_list {xs : List PyData} (h : ∀ x ∈ xs, P1 x) : okD (.list xs) := by
  obtain ⟨a, b⟩ := okL_of h
  unfold okD SeqAt.shaped
  simp only [PyData.canLay0, PyData.depth, a, Bool.true_and]
  exact decide_eq_true (by omega)
theorem eqvAll_refl {xs : List PyData} (h : ∀ x ∈ xs, P1 x) : PyData.eqvAll xs xs = true := by
  have := SeqAt.eqv_refl (.list xs) (by simp only [PyData.canLay0]; exact (okL_of h).1)
  simpa only [PyData.eqv] using this
theorem P1_none : P1 .none := ⟨rfl, Nat.le_of_ble_eq_true rfl⟩
theorem P1_int (i : Int) : P1 (.int i) := ⟨rfl, Nat.le_of_ble_eq_true rfl⟩
end
section -- Core26
theorem CmpR.eqT {a : Str} (h : PyData.strOk a = true) : CmpR .Eq (.dat (.str a)) (.dat (.str a)) true := by
  have := CmpR.eqS a a h h
  simpa using this
theorem CmpR.eqF {a b : Str} (h : PyData.strOk a = true) (hb : PyData.strOk b = true) (hn : a ≠ b) : CmpR .Eq (.dat (.str a)) (.dat (.str b)) false := by
  have := CmpR.eqS a b h hb
  simpa [hn] using this
theorem CmpR.neT {a : Str} (h : PyData.strOk a = true) : CmpR .NotEq (.dat (.str a)) (.dat (.str a)) false := by
  have := CmpR.neS a a h h
  simpa using this
theorem CmpR.neF {a b : Str} (h : PyData.strOk a = true) (hb : PyData.strOk b = true) (hn : a ≠ b) : CmpR .NotEq (.dat (.str a)) (.dat (.str b)) true := by
  have := CmpR.neS a b h hb
  simpa [hn] using this
theorem at?_last (xs : List PyData) (d : PyData) : at? (xs ++ [d]) (-1) = some d := by
  unfold at?
  rw [if_neg (by omega), if_pos (by simp; omega)]
  have : (-1 + ((xs ++ [d]).length : Int)).toNat = xs.length := by rw [List.length_append, List.length_singleton]; omega
  rw [this, List.getElem?_append_right (Nat.le_refl _)]; simp
theorem setAt_last (xs : List PyData) (d e : PyData) : setAt (xs ++ [d]) (-1) e = xs ++ [e] := by
  unfold setAt
  rw [if_neg (by omega)]
  have : (-1 + ((xs ++ [d]).length : Int)).toNat = xs.length := by rw [List.length_append, List.length_singleton]; omega
  rw [this, List.set_append_right _ _ (Nat.le_refl _)]; simp
section
variable {prog : Program} {w : World} {H0 : Heap} {mg mb : Vals} {k : Nat} {env : Env} {σ : Sto} {dk : Dk} {K : Out → Prop}
theorem FnP.mono {f : Str} {args : List Res} {P P' : Res → Prop} (h : FnP prog w H0 mg k f args P) (hp : ∀ ρ, P ρ → P' ρ) : FnP prog w H0 mg k f args P' :=
  fun A s fa vs ok hB hm ha Q X hQ => h A s fa vs ok hB hm ha Q X fun v h' tk ρ hP => hQ v h' tk ρ (hp ρ hP)
theorem FnD.mono {f : Str} {c : List Int} {t : Int} {args : List Res} {P P' : Res → List Int → Int → Prop} (h : FnD prog w H0 mg k f c t args P) (hp : ∀ ρ c t, P ρ c t → P' ρ c t) : FnD prog w H0 mg k f c t args P' :=
  fun A s fa ad l vs ok hB hm hD h0 ha Q X hQ => h A s fa ad l vs ok hB hm hD h0 ha Q X fun v h' tk ρ c' t' hP => hQ v h' tk ρ c' t' (hp ρ c' t' hP)
theorem FnP.eq {f : Str} {args : List Res} {ρ₀ : Res} {P : Res → Prop} (h : FnP prog w H0 mg k f args fun ρ => ρ = ρ₀) (hp : P ρ₀) : FnP prog w H0 mg k f args P := h.mono fun ρ e => e ▸ hp
theorem lk_eq {x : Str} {e e' : Ent} (h : σ x = some e) (he : e = e') : σ x = some e' := he ▸ h
theorem lk_all {n x : Str} {e : Ent} {ns : List Str} {es : List Ent} {r : Option Ent} (h : setAll (σ.set n e) ns es x = r) : setAll σ (n :: ns) (e :: es) x = r := h
theorem lk_map {n x : Str} {d : PyData} {ns : List Str} {ds : List PyData} {r : Option Ent} (h : setAll (σ.set n (.dat d)) ns (ds.map .dat) x = r) : setAll σ (n :: ns) (List.map Ent.dat (d :: ds)) x = r := h
theorem lk_nil {x : Str} {es : List Ent} {r : Option Ent} (h : σ x = r) : setAll σ [] es x = r := by cases es <;> exact h
noncomputable abbrev kS_tup2_1 (σ : Sto) (K : Out → Prop) (ρ : Res) (o1 : Bool) (o2 : Bool) (y : Str) (x : Str) (ρ₂ : Res) (dk₂ : Dk) : Prop := ρ₂.calm = true ∧ mixOk [ρ, ρ₂] = true ∧ ∃ e1, entOf o1 ρ = some e1 ∧ ∃ e2, entOf o2 ρ₂ = some e2 ∧ K (.next ((σ.set y e2).set x e1) dk₂)
noncomputable abbrev kS_tup2_2 (prog : Program) (w : World) (H0 : Heap) (k : Nat) (env : Env) (σ : Sto) (K : Out → Prop) (b : Expr) (o1 : Bool) (o2 : Bool) (y : Str) (x : Str) (ρ : Res) (dk₁ : Dk) : Prop := ρ.calm = true ∧ E prog w H0 k env σ dk₁ (eval b env) (kS_tup2_1 σ K ρ o1 o2 y x)
theorem S.tup2 {a b : Expr} {x y : Str} {px py : Pos} {k1 k2 : Nat} {tp vp pos : Pos} (o1 o2 : Bool) (V : EnvOk env) (hx : x ≠ deckName ∧ Kind env x) (hy : y ≠ deckName ∧ Kind env y) (hst : noStar [a, b] = true)
    (hs : swapsWithSole [.Tuple [.Name x px, .Name y py] k1 tp] (.Tuple [a, b] k2 vp) pos.line env = pure false) (hw : swappedStores [.Tuple [.Name x px, .Name y py] k1 tp] (.Tuple [a, b] k2 vp) env = pure (some [x, y]))
    (h : E prog w H0 k env σ dk (eval a env) (kS_tup2_2 prog w H0 k env σ K b o1 o2 y x)) :
    S prog w H0 k env σ dk (exec (.Assign [.Tuple [.Name x px, .Name y py] k1 tp] (.Tuple [a, b] k2 vp) pos) env) K :=
  S.tupSwap [o1, o2] V (xs := [x, y]) (by intro z hz; rcases List.mem_cons.mp hz with rfl | hz; exact hx; rw [List.mem_singleton.mp hz]; exact hy) hst rfl (Nat.le_of_ble_eq_true rfl)
    (h.mono fun ρ dk₁ ⟨c, h⟩ => ⟨c, h.mono fun ρ₂ dk₂ ⟨c₂, hm, e1, h1, e2, h2, hK⟩ => ⟨c₂, [e1, e2], rfl, hm, by simp [entsOf, h1, h2], hK⟩⟩) hs hw
noncomputable abbrev kS_tup3_1 (σ : Sto) (K : Out → Prop) (ρ : Res) (ρ₂ : Res) (o1 : Bool) (o2 : Bool) (o3 : Bool) (z : Str) (y : Str) (x : Str) (ρ₃ : Res) (dk₃ : Dk) : Prop := ρ₃.calm = true ∧ mixOk [ρ, ρ₂, ρ₃] = true ∧ ∃ e1, entOf o1 ρ = some e1 ∧ ∃ e2, entOf o2 ρ₂ = some e2 ∧ ∃ e3, entOf o3 ρ₃ = some e3 ∧ K (.next (((σ.set z e3).set y e2).set x e1) dk₃)
noncomputable abbrev kS_tup3_2 (prog : Program) (w : World) (H0 : Heap) (k : Nat) (env : Env) (σ : Sto) (K : Out → Prop) (c : Expr) (ρ : Res) (o1 : Bool) (o2 : Bool) (o3 : Bool) (z : Str) (y : Str) (x : Str) (ρ₂ : Res) (dk₂ : Dk) : Prop := ρ₂.calm = true ∧ E prog w H0 k env σ dk₂ (eval c env) (kS_tup3_1 σ K ρ ρ₂ o1 o2 o3 z y x)
noncomputable abbrev kS_tup3_3 (prog : Program) (w : World) (H0 : Heap) (k : Nat) (env : Env) (σ : Sto) (K : Out → Prop) (b : Expr) (c : Expr) (o1 : Bool) (o2 : Bool) (o3 : Bool) (z : Str) (y : Str) (x : Str) (ρ : Res) (dk₁ : Dk) : Prop := ρ.calm = true ∧ E prog w H0 k env σ dk₁ (eval b env) (kS_tup3_2 prog w H0 k env σ K c ρ o1 o2 o3 z y x)
theorem S.tup3 {a b c : Expr} {x y z : Str} {px py pz : Pos} {k1 k2 : Nat} {tp vp pos : Pos} (o1 o2 o3 : Bool) (V : EnvOk env) (hx : x ≠ deckName ∧ Kind env x) (hy : y ≠ deckName ∧ Kind env y) (hz : z ≠ deckName ∧ Kind env z) (hst : noStar [a, b, c] = true)
    (hs : swapsWithSole [.Tuple [.Name x px, .Name y py, .Name z pz] k1 tp] (.Tuple [a, b, c] k2 vp) pos.line env = pure false) (hw : swappedStores [.Tuple [.Name x px, .Name y py, .Name z pz] k1 tp] (.Tuple [a, b, c] k2 vp) env = pure (some [x, y, z]))
    (h : E prog w H0 k env σ dk (eval a env) (kS_tup3_3 prog w H0 k env σ K b c o1 o2 o3 z y x)) :
    S prog w H0 k env σ dk (exec (.Assign [.Tuple [.Name x px, .Name y py, .Name z pz] k1 tp] (.Tuple [a, b, c] k2 vp) pos) env) K :=
  S.tupSwap [o1, o2, o3] V (xs := [x, y, z]) (by intro u hu; rcases List.mem_cons.mp hu with rfl | hu; exact hx; rcases List.mem_cons.mp hu with rfl | hu; exact hy; rw [List.mem_singleton.mp hu]; exact hz) hst rfl (Nat.le_of_ble_eq_true rfl)
    (h.mono fun ρ dk₁ ⟨c, h⟩ => ⟨c, h.mono fun ρ₂ dk₂ ⟨c₂, h⟩ => ⟨c₂, h.mono fun ρ₃ dk₃ ⟨c₃, hm, e1, h1, e2, h2, e3, h3, hK⟩ => ⟨c₃, [e1, e2, e3], rfl, hm, by simp [entsOf, h1, h2, h3], hK⟩⟩⟩) hs hw
noncomputable abbrev kS_tup2N_1 (σ : Sto) (K : Out → Prop) (ρ : Res) (o1 : Bool) (o2 : Bool) (x : Str) (y : Str) (ρ₂ : Res) (dk₂ : Dk) : Prop := ρ₂.calm = true ∧ mixOk [ρ, ρ₂] = true ∧ ∃ e1, entOf o1 ρ = some e1 ∧ ∃ e2, entOf o2 ρ₂ = some e2 ∧ K (.next ((σ.set x e1).set y e2) dk₂)
noncomputable abbrev kS_tup2N_2 (prog : Program) (w : World) (H0 : Heap) (k : Nat) (env : Env) (σ : Sto) (K : Out → Prop) (b : Expr) (o1 : Bool) (o2 : Bool) (x : Str) (y : Str) (ρ : Res) (dk₁ : Dk) : Prop := ρ.calm = true ∧ E prog w H0 k env σ dk₁ (eval b env) (kS_tup2N_1 σ K ρ o1 o2 x y)
theorem S.tup2N {a b : Expr} {x y : Str} {px py : Pos} {k1 k2 : Nat} {tp vp pos : Pos} (o1 o2 : Bool) (V : EnvOk env) (hx : x ≠ deckName ∧ Kind env x) (hy : y ≠ deckName ∧ Kind env y) (hst : noStar [a, b] = true)
    (hs : swapsWithSole [.Tuple [.Name x px, .Name y py] k1 tp] (.Tuple [a, b] k2 vp) pos.line env = pure false) (hw : swappedStores [.Tuple [.Name x px, .Name y py] k1 tp] (.Tuple [a, b] k2 vp) env = pure .none)
    (h : E prog w H0 k env σ dk (eval a env) (kS_tup2N_2 prog w H0 k env σ K b o1 o2 x y)) :
    S prog w H0 k env σ dk (exec (.Assign [.Tuple [.Name x px, .Name y py] k1 tp] (.Tuple [a, b] k2 vp) pos) env) K :=
  S.tupNorm [o1, o2] V (xs := [x, y]) rfl (by intro z hz; rcases List.mem_cons.mp hz with rfl | hz; exact hx; rw [List.mem_singleton.mp hz]; exact hy) hst rfl (Nat.le_of_ble_eq_true rfl)
    (h.mono fun ρ dk₁ ⟨c, h⟩ => ⟨c, h.mono fun ρ₂ dk₂ ⟨c₂, hm, e1, h1, e2, h2, hK⟩ => ⟨c₂, [e1, e2], rfl, hm, by simp [entsOf, h1, h2], hK⟩⟩) hs hw
noncomputable abbrev kS_tup3N_1 (σ : Sto) (K : Out → Prop) (ρ : Res) (ρ₂ : Res) (o1 : Bool) (o2 : Bool) (o3 : Bool) (x : Str) (y : Str) (z : Str) (ρ₃ : Res) (dk₃ : Dk) : Prop := ρ₃.calm = true ∧ mixOk [ρ, ρ₂, ρ₃] = true ∧ ∃ e1, entOf o1 ρ = some e1 ∧ ∃ e2, entOf o2 ρ₂ = some e2 ∧ ∃ e3, entOf o3 ρ₃ = some e3 ∧ K (.next (((σ.set x e1).set y e2).set z e3) dk₃)
noncomputable abbrev kS_tup3N_2 (prog : Program) (w : World) (H0 : Heap) (k : Nat) (env : Env) (σ : Sto) (K : Out → Prop) (c : Expr) (ρ : Res) (o1 : Bool) (o2 : Bool) (o3 : Bool) (x : Str) (y : Str) (z : Str) (ρ₂ : Res) (dk₂ : Dk) : Prop := ρ₂.calm = true ∧ E prog w H0 k env σ dk₂ (eval c env) (kS_tup3N_1 σ K ρ ρ₂ o1 o2 o3 x y z)
noncomputable abbrev kS_tup3N_3 (prog : Program) (w : World) (H0 : Heap) (k : Nat) (env : Env) (σ : Sto) (K : Out → Prop) (b : Expr) (c : Expr) (o1 : Bool) (o2 : Bool) (o3 : Bool) (x : Str) (y : Str) (z : Str) (ρ : Res) (dk₁ : Dk) : Prop := ρ.calm = true ∧ E prog w H0 k env σ dk₁ (eval b env) (kS_tup3N_2 prog w H0 k env σ K c ρ o1 o2 o3 x y z)
theorem S.tup3N {a b c : Expr} {x y z : Str} {px py pz : Pos} {k1 k2 : Nat} {tp vp pos : Pos} (o1 o2 o3 : Bool) (V : EnvOk env) (hx : x ≠ deckName ∧ Kind env x) (hy : y ≠ deckName ∧ Kind env y) (hz : z ≠ deckName ∧ Kind env z) (hst : noStar [a, b, c] = true)
    (hs : swapsWithSole [.Tuple [.Name x px, .Name y py, .Name z pz] k1 tp] (.Tuple [a, b, c] k2 vp) pos.line env = pure false) (hw : swappedStores [.Tuple [.Name x px, .Name y py, .Name z pz] k1 tp] (.Tuple [a, b, c] k2 vp) env = pure .none)
    (h : E prog w H0 k env σ dk (eval a env) (kS_tup3N_3 prog w H0 k env σ K b c o1 o2 o3 x y z)) :
    S prog w H0 k env σ dk (exec (.Assign [.Tuple [.Name x px, .Name y py, .Name z pz] k1 tp] (.Tuple [a, b, c] k2 vp) pos) env) K :=
  S.tupNorm [o1, o2, o3] V (xs := [x, y, z]) rfl (by intro u hu; rcases List.mem_cons.mp hu with rfl | hu; exact hx; rcases List.mem_cons.mp hu with rfl | hu; exact hy; rw [List.mem_singleton.mp hu]; exact hz) hst rfl (Nat.le_of_ble_eq_true rfl)
    (h.mono fun ρ dk₁ ⟨c, h⟩ => ⟨c, h.mono fun ρ₂ dk₂ ⟨c₂, h⟩ => ⟨c₂, h.mono fun ρ₃ dk₃ ⟨c₃, hm, e1, h1, e2, h2, e3, h3, hK⟩ => ⟨c₃, [e1, e2, e3], rfl, hm, by simp [entsOf, h1, h2, h3], hK⟩⟩⟩) hs hw
noncomputable abbrev kS_unpack2_1 (σ : Sto) (K : Out → Prop) (x : Str) (y : Str) (ρ : Res) (dk₁ : Dk) : Prop := ∃ d1 d2, ρ = .dat (.tuple [d1, d2]) ∧ K (.next ((σ.set x (.dat d1)).set y (.dat d2)) dk₁)
theorem S.unpack2 {x y : Str} {px py : Pos} {k1 : Nat} {tp pos : Pos} {value : Expr} (V : EnvOk env) (hx : x ≠ deckName ∧ Kind env x) (hy : y ≠ deckName ∧ Kind env y)
    (hs : swapsWithSole [.Tuple [.Name x px, .Name y py] k1 tp] value pos.line env = pure false) (hw : swappedStores [.Tuple [.Name x px, .Name y py] k1 tp] value env = pure .none)
    (h : E prog w H0 k env σ dk (eval value env) (kS_unpack2_1 σ K x y)) :
    S prog w H0 k env σ dk (exec (.Assign [.Tuple [.Name x px, .Name y py] k1 tp] value pos) env) K :=
  S.unpack V (xs := [x, y]) rfl (by intro z hz; rcases List.mem_cons.mp hz with rfl | hz; exact hx; rw [List.mem_singleton.mp hz]; exact hy) (h.mono fun ρ dk₁ ⟨d1, d2, e, hK⟩ => ⟨[d1, d2], e, rfl, hK⟩) hs hw
noncomputable abbrev kS_unpack3_1 (σ : Sto) (K : Out → Prop) (x : Str) (y : Str) (z : Str) (ρ : Res) (dk₁ : Dk) : Prop := ∃ d1 d2 d3, ρ = .dat (.tuple [d1, d2, d3]) ∧ K (.next (((σ.set x (.dat d1)).set y (.dat d2)).set z (.dat d3)) dk₁)
theorem S.unpack3 {x y z : Str} {px py pz : Pos} {k1 : Nat} {tp pos : Pos} {value : Expr} (V : EnvOk env) (hx : x ≠ deckName ∧ Kind env x) (hy : y ≠ deckName ∧ Kind env y) (hz : z ≠ deckName ∧ Kind env z)
    (hs : swapsWithSole [.Tuple [.Name x px, .Name y py, .Name z pz] k1 tp] value pos.line env = pure false) (hw : swappedStores [.Tuple [.Name x px, .Name y py, .Name z pz] k1 tp] value env = pure .none)
    (h : E prog w H0 k env σ dk (eval value env) (kS_unpack3_1 σ K x y z)) :
    S prog w H0 k env σ dk (exec (.Assign [.Tuple [.Name x px, .Name y py, .Name z pz] k1 tp] value pos) env) K :=
  S.unpack V (xs := [x, y, z]) rfl (by intro u hu; rcases List.mem_cons.mp hu with rfl | hu; exact hx; rcases List.mem_cons.mp hu with rfl | hu; exact hy; rw [List.mem_singleton.mp hu]; exact hz) (h.mono fun ρ dk₁ ⟨d1, d2, d3, e, hK⟩ => ⟨[d1, d2, d3], e, rfl, hK⟩) hs hw
end
end
section -- Core27
section
variable {prog : Program} {w : World} {H0 : Heap} {mg mb : Vals} {k : Nat} {env : Env} {σ : Sto} {dk : Dk} {K : Out → Prop}
theorem deck_merged {l t : Value} : merged ([] : List (Str × Value)) [(Str.ofString "cells", l), (Str.ofString "at", t)] = [(Str.ofString "cells", l), (Str.ofString "at", t)] := by
  have ne : Str.ofString "cells" ≠ Str.ofString "at" := by decide
  simp [merged, stored, ne]
noncomputable abbrev kE_deckNew_1 (P : Res → Dk → Prop) (ρ : Res) (dk₁ : Dk) : Prop := dk₁ = .none ∧ ∃ c : List Int, ρ = .lst .fresh (c.map .int) ∧ ∀ l, P (.deck l c 0) .none
/-- {'cells': e, 'at': 0} -/
theorem E.deckNew {e : Expr} {k1 k2 k3 : Nat} {p1 p2 p3 pos : Pos} {P : Res → Dk → Prop} (nc : NoCost σ)
    (h : E prog w H0 k env σ .none (eval e env) (kE_deckNew_1 P)) :
    E prog w H0 k env σ .none (eval (.Dict [some (.Constant (.str (Str.ofString "cells")) k1 p1), some (.Constant (.str (Str.ofString "at")) k2 p2)] [e, .Constant (.int 0) k3 p3] pos) env) P := by
  intro A s m ok R Q X hQ
  refine wpAny_Dict_pairs (knd := PySem.strKind prog w) (pairs := [(eval (.Constant (.str (Str.ofString "cells")) k1 p1) env, do let x ← eval e env; standAt pos; pure x), (eval (.Constant (.str (Str.ofString "at")) k2 p2) env, do let x ← eval (.Constant (.int 0) k3 p3) env; standAt pos; pure x)]) rfl (by simp) (Nat.le_of_ble_eq_true rfl) ?_
  have st0 := push_stays s.heap { cls := .type "dict", data := .dict #[] }
  refine evalPairs_cons (wpAny_Constant_str ?_)
  refine wpAny_bind (wpAny_mono (h A ⟨s.heap.push { cls := .type "dict", data := .dict #[] }, s.gens, s.drawn, s.toks + 1, s.os⟩ m ok (R.stays st0) _ X ?_) (fun v s' hv => wpAny_bind (wpAny_standAt (wpAny_pure hv))) fun _ _ e => e)
  rintro v h₁ tk₁ ρ dk₁ ⟨rfl, c, rfl, hP⟩ R₁ K₁ ⟨l, rfl, hl, hf, _⟩
  refine evalPairs_cons (wpAny_Constant_str (wpAny_bind (wpAny_Constant_int (wpAny_bind (wpAny_standAt (wpAny_pure (evalPairs_nil ?_)))))))
  have hD₁ : h₁.get? s.heap.objs.size = some { cls := .type "dict", data := .dict #[] } := K₁.get _ _ (Heap.get?_push_size _ rfl) (by rintro ⟨q, _⟩; cases q)
  refine ⟨[(Str.ofString "cells", .ref l), (Str.ofString "at", .int 0 _)], ⟨PySem.strKind_is prog w _ _, rfl, PySem.strKind_is prog w _ _, rfl, trivial⟩, ?_, fun h' hd hsb => ?_⟩
  · exact Heap.DictOf.at (Heap.DictOf.new s.heap) fun o ho => by
      rw [Heap.get?_push_size _ rfl] at ho
      cases ho
      exact hD₁
  · rw [deck_merged] at hd
    have hz : s.heap.get? s.heap.objs.size = .none := new_none _
    have hk : ∀ b o, b ≠ s.heap.objs.size → h₁.get? b = some o → h'.get? b = some o := fun b o hb ho => (hsb.2 b hb).trans ho
    have K₀ : KeepE m .none .none s.heap h₁ := (KeepE.of_stays st0).trans K₁
    have ap := R.apart K₀ hz (by intro o vs n ho hc; rw [hD₁] at ho; cases ho; intro q; cases q) nc
    have hlD : l ≠ s.heap.objs.size := by
      rintro rfl
      have := hf rfl
      rw [show (s.heap.push { cls := .type "dict", data := .dict #[] }).get? s.heap.objs.size = _ from Heap.get?_push_size _ rfl] at this
      cases this
    refine hQ _ h' _ _ .none (hP l) (R₁.other ap hk) (K₀.but hk hz) ⟨_, rfl, ⟨_, hd, ?_⟩, hz, st0.dom.none (hf rfl)⟩
    obtain ⟨vs, ⟨n, p⟩, r⟩ := hl
    exact ⟨vs, ⟨n, hk _ _ hlD p⟩, readsAll_tup (fun b o ws n ho hc hdd => hk b o (by rintro rfl; rw [hD₁] at ho; cases ho; cases hdd) ho) r⟩
noncomputable def isStrE (x : Str) : Value → Bool
  | .str y _ => decide (y = x)
  | _ => false
theorem eq_isStr {x : Str} {t : Tok} {h : Heap} : ∀ {vs : List Value} {ss : List Str}, ReadsAll h vs (ss.map .str) [] → ∀ y, y ∈ vs → MeetsSeq.EqGives y (.str x t) (isStrE x y)
  | [], [], _, y, hy => by cases hy
  | v :: vs, s :: ss, r, y, hy => by
    obtain ⟨h1, h2⟩ := readsAll_cases r
    rcases List.mem_cons.mp hy with rfl | hy
    · obtain ⟨u, rfl, _⟩ := reads_str_inv h1
      exact fun _ _ _ _ _ _ h => wpAny_eqBool_str h
    · exact eq_isStr h2 y hy
  | [], _ :: _, r, _, _ => by cases r
  | _ :: _, [], r, _, _ => by cases r
noncomputable abbrev kE_indexS_1 (ss : List Str) (P : Res → Dk → Prop) (ρ₂ : Res) (dk₂ : Dk) : Prop := ∃ x, ρ₂ = .dat (.str x) ∧ ∃ j : Nat, ss[j]? = some x ∧ (∀ i, i < j → ss[i]? ≠ some x) ∧ j < 1000 ∧ P (.dat (.int j)) dk₂
noncomputable abbrev kE_indexS_2 (prog : Program) (w : World) (H0 : Heap) (k : Nat) (env : Env) (σ : Sto) (e : Expr) (P : Res → Dk → Prop) (ρ : Res) (dk₁ : Dk) : Prop := ∃ (fl : Fl) (ss : List Str), ρ = .lst fl (ss.map .str) ∧ E prog w H0 k env σ dk₁ (eval e env) (kE_indexS_1 ss P)
/-- [..].index(x), the list one of strs -/
theorem E.indexS {o e : Expr} {ap pos : Pos} {P : Res → Dk → Prop}
    (h : E prog w H0 k env σ dk (eval o env) (kE_indexS_2 prog w H0 k env σ e P))
    (hn : noStar [e] = true) (hl : (ap.endLine == pos.line) = true) (ha : attributeBase o (Str.ofString "index") env (eval o env) = eval o env) :
    E prog w H0 k env σ dk (eval (.Call (.Attribute o (Str.ofString "index") ap) [e] [] pos) env) P := by
  intro A s m ok R Q X hQ
  have he : starEach [e] env = [(false, eval e env)] := starEach_plain fun a q z => by subst z; cases hn
  refine wpAny_Call_method (T := "list") (id := "list.index") ha (by rw [he]; rfl) hl PySem.F.plainAttrs_list PySem.F.slot_list_index PySem.F.type_list_index (h A s m ok R _ _ ?_)
  rintro v h₁ tk₁ ρ dk₁ ⟨fl, ss, rfl, hE⟩ R₁ K₁ ⟨D, rfl, hD, hfl⟩
  obtain ⟨vs, ⟨n, p⟩, r⟩ := id hD
  refine ⟨⟨_, p, rfl⟩, fun a q => by cases q; exact ⟨_, p, rfl⟩, ?_⟩
  refine callWith_method1 (args_cons (hE A _ m ok R₁ _ _ ?_) (by rw [he]; rfl)) (by rw [he]; rfl) (by rfl)
  rintro u h₂ tk₂ ρ₂ dk₂ ⟨x, rfl, j, hj, hno, hj0, hP⟩ R₂ K₂ V₂
  obtain ⟨t, rfl, _⟩ := reads_str_inv V₂
  refine args_nil ?_
  obtain ⟨vs', ⟨n', p'⟩, r'⟩ := hD.seq (K₂.seq R₁)
  have hl' := readsAll_length r'
  rw [Array.length_toList, List.length_map] at hl'
  have hjl : j < ss.length := (List.getElem?_eq_some_iff.mp hj).1
  have key : ∀ i (hi : i < vs'.size), isStrE x vs'[i] = decide (ss[i]? = some x) := by
    intro i hi
    have h1 : vs'.toList[i]? = some vs'[i] := by simp [hi]
    obtain ⟨d, hd, rd⟩ := readsAll_get' r' h1
    rw [List.getElem?_map] at hd
    obtain ⟨y, hy, rfl⟩ := Option.map_eq_some_iff.mp hd
    obtain ⟨u, hu, _⟩ := reads_str_inv rd
    rw [hu, hy]
    simp [isStrE]
  refine call_meets PySem.F.slot_list_index ⟨_, p', rfl⟩ PySem.F.entry_list_index (PySem.F.args_list_index_2 _ _)
    (MeetsSeq.list_index D vs' n' (.str x t) (isStrE x) (fun y hy => eq_isStr r' y (by simpa using hy)) j (by omega) (by omega) (by rw [key]; exact decide_eq_true hj) (fun i hi hlt => by rw [key]; exact decide_eq_false (hno i hlt))) ⟨p', ?_⟩
  exact hQ _ h₂ _ _ dk₂ hP R₂ (K₁.trans K₂) (.int ..)
noncomputable abbrev kS_tup4N_1 (σ : Sto) (K : Out → Prop) (ρ : Res) (ρ₂ : Res) (ρ₃ : Res) (o1 : Bool) (o2 : Bool) (o3 : Bool) (o4 : Bool) (x : Str) (y : Str) (z : Str) (u : Str) (ρ₄ : Res) (dk₄ : Dk) : Prop := ρ₄.calm = true ∧ mixOk [ρ, ρ₂, ρ₃, ρ₄] = true ∧ ∃ e1, entOf o1 ρ = some e1 ∧ ∃ e2, entOf o2 ρ₂ = some e2 ∧ ∃ e3, entOf o3 ρ₃ = some e3 ∧ ∃ e4, entOf o4 ρ₄ = some e4 ∧ K (.next ((((σ.set x e1).set y e2).set z e3).set u e4) dk₄)
noncomputable abbrev kS_tup4N_2 (prog : Program) (w : World) (H0 : Heap) (k : Nat) (env : Env) (σ : Sto) (K : Out → Prop) (e : Expr) (ρ : Res) (ρ₂ : Res) (o1 : Bool) (o2 : Bool) (o3 : Bool) (o4 : Bool) (x : Str) (y : Str) (z : Str) (u : Str) (ρ₃ : Res) (dk₃ : Dk) : Prop := ρ₃.calm = true ∧ E prog w H0 k env σ dk₃ (eval e env) (kS_tup4N_1 σ K ρ ρ₂ ρ₃ o1 o2 o3 o4 x y z u)
noncomputable abbrev kS_tup4N_3 (prog : Program) (w : World) (H0 : Heap) (k : Nat) (env : Env) (σ : Sto) (K : Out → Prop) (c : Expr) (e : Expr) (ρ : Res) (o1 : Bool) (o2 : Bool) (o3 : Bool) (o4 : Bool) (x : Str) (y : Str) (z : Str) (u : Str) (ρ₂ : Res) (dk₂ : Dk) : Prop := ρ₂.calm = true ∧ E prog w H0 k env σ dk₂ (eval c env) (kS_tup4N_2 prog w H0 k env σ K e ρ ρ₂ o1 o2 o3 o4 x y z u)
noncomputable abbrev kS_tup4N_4 (prog : Program) (w : World) (H0 : Heap) (k : Nat) (env : Env) (σ : Sto) (K : Out → Prop) (b : Expr) (c : Expr) (e : Expr) (o1 : Bool) (o2 : Bool) (o3 : Bool) (o4 : Bool) (x : Str) (y : Str) (z : Str) (u : Str) (ρ : Res) (dk₁ : Dk) : Prop := ρ.calm = true ∧ E prog w H0 k env σ dk₁ (eval b env) (kS_tup4N_3 prog w H0 k env σ K c e ρ o1 o2 o3 o4 x y z u)
theorem S.tup4N {a b c e : Expr} {x y z u : Str} {px py pz pu : Pos} {k1 k2 : Nat} {tp vp pos : Pos} (o1 o2 o3 o4 : Bool) (V : EnvOk env) (hx : x ≠ deckName ∧ Kind env x) (hy : y ≠ deckName ∧ Kind env y) (hz : z ≠ deckName ∧ Kind env z) (hu : u ≠ deckName ∧ Kind env u) (hst : noStar [a, b, c, e] = true)
    (hs : swapsWithSole [.Tuple [.Name x px, .Name y py, .Name z pz, .Name u pu] k1 tp] (.Tuple [a, b, c, e] k2 vp) pos.line env = pure false) (hw : swappedStores [.Tuple [.Name x px, .Name y py, .Name z pz, .Name u pu] k1 tp] (.Tuple [a, b, c, e] k2 vp) env = pure .none)
    (h : E prog w H0 k env σ dk (eval a env) (kS_tup4N_4 prog w H0 k env σ K b c e o1 o2 o3 o4 x y z u)) :
    S prog w H0 k env σ dk (exec (.Assign [.Tuple [.Name x px, .Name y py, .Name z pz, .Name u pu] k1 tp] (.Tuple [a, b, c, e] k2 vp) pos) env) K :=
  S.tupNorm [o1, o2, o3, o4] V (xs := [x, y, z, u]) rfl (by intro v hv; rcases List.mem_cons.mp hv with rfl | hv; exact hx; rcases List.mem_cons.mp hv with rfl | hv; exact hy; rcases List.mem_cons.mp hv with rfl | hv; exact hz; rw [List.mem_singleton.mp hv]; exact hu) hst rfl (Nat.le_of_ble_eq_true rfl)
    (h.mono fun ρ dk₁ ⟨c, h⟩ => ⟨c, h.mono fun ρ₂ dk₂ ⟨c₂, h⟩ => ⟨c₂, h.mono fun ρ₃ dk₃ ⟨c₃, h⟩ => ⟨c₃, h.mono fun ρ₄ dk₄ ⟨c₄, hm, e1, h1, e2, h2, e3, h3, e4, h4, hK⟩ => ⟨c₄, [e1, e2, e3, e4], rfl, hm, by simp [entsOf, h1, h2, h3, h4], hK⟩⟩⟩⟩) hs hw
theorem E.deckAt' {p q pos : Pos} {kk : Nat} {l : Addr} {c : List Int} {t : Int} {P : Res → Dk → Prop} (V : EnvOk env) (hk : Kind env deckName) (h : P (.dat (.int t)) (some (l, c, t))) :
    E prog w H0 k env σ (some (l, c, t)) (eval (.Subscript (.Name (Str.ofString "deck") p) (.Constant (.str (Str.ofString "at")) kk q) pos) env) P := E.deckAt V hk rfl h
theorem E.deckCells' {p q pos : Pos} {kk : Nat} {l : Addr} {c : List Int} {t : Int} {P : Res → Dk → Prop} (V : EnvOk env) (hk : Kind env deckName) (h : P (.lst .safe (c.map .int)) (some (l, c, t))) :
    E prog w H0 k env σ (some (l, c, t)) (eval (.Subscript (.Name (Str.ofString "deck") p) (.Constant (.str (Str.ofString "cells")) kk q) pos) env) P := E.deckCells V hk rfl h
noncomputable abbrev kS_deckSetp_1 (σ : Sto) (K : Out → Prop) (l : Addr) (c : List Int) (t : Int) (ρ : Res) (dk₁ : Dk) : Prop := ∃ t', ρ = .dat (.int t') ∧ dk₁ = some (l, c, t) ∧ K (.next σ (some (l, c, t')))
theorem S.deckSet' {p q sp pos : Pos} {kk : Nat} {l : Addr} {c : List Int} {t : Int} {value : Expr} (V : EnvOk env) (hk : Kind env deckName) (nc : NoCost σ)
    (h : E prog w H0 k env σ (some (l, c, t)) (eval value env) (kS_deckSetp_1 σ K l c t))
    (hs : swapsWith value (some (.Subscript (.Name (Str.ofString "deck") p) (.Constant (.str (Str.ofString "at")) kk q) sp)) pos.line env = pure false) :
    S prog w H0 k env σ (some (l, c, t)) (exec (.Assign [.Subscript (.Name (Str.ofString "deck") p) (.Constant (.str (Str.ofString "at")) kk q) sp] value pos) env) K := S.deckSet V hk rfl nc h hs
noncomputable abbrev kE_callD0p_1 (P : Res → Dk → Prop) (l : Addr) (ρ : Res) (c' : List Int) (t' : Int) : Prop := P ρ (some (l, c', t'))
theorem E.callD0' {f : Str} {p dp pos : Pos} {P : Res → Dk → Prop} {params : Arguments} {body : List Stmt} {scope : Scope} {l : Addr} {c : List Int} {t : Int} (hF : FnAt H0 mg f params body scope) (G : Gnd H0 mg mb) (V : EnvOk env) (hk : env.kindOf f = some .globalImplicit) (nc : NoCost σ)
    (hdn : Kind env deckName) (hd : (f == ("__debug__" : Str)) = false) (h : FnD prog w H0 mg k f c t [] (kE_callD0p_1 P l)) :
    E prog w H0 k env σ (some (l, c, t)) (eval (.Call (.Name f p) [.Name (Str.ofString "deck") dp] [] pos) env) P := E.callD0 hF G V hk nc hdn rfl h hd
noncomputable abbrev kE_callD1p_1 (P : Res → Dk → Prop) (l : Addr) (ρ : Res) (c' : List Int) (t' : Int) : Prop := P ρ (some (l, c', t'))
noncomputable abbrev kE_callD1p_2 (prog : Program) (w : World) (H0 : Heap) (mg : Vals) (k : Nat) (l : Addr) (c : List Int) (t : Int) (f : Str) (P : Res → Dk → Prop) (ρ : Res) (dk₁ : Dk) : Prop := ρ.calm = true ∧ dk₁ = some (l, c, t) ∧ FnD prog w H0 mg k f c t [ρ] (kE_callD1p_1 P l)
theorem E.callD1' {f : Str} {p dp pos : Pos} {a : Expr} {P : Res → Dk → Prop} {params : Arguments} {body : List Stmt} {scope : Scope} {l : Addr} {c : List Int} {t : Int} (hF : FnAt H0 mg f params body scope) (G : Gnd H0 mg mb) (V : EnvOk env) (hk : env.kindOf f = some .globalImplicit) (nc : NoCost σ)
    (hdn : Kind env deckName) (hn : noStar [a] = true) (hd : (f == ("__debug__" : Str)) = false) (h : E prog w H0 k env σ (some (l, c, t)) (eval a env) (kE_callD1p_2 prog w H0 mg k l c t f P)) :
    E prog w H0 k env σ (some (l, c, t)) (eval (.Call (.Name f p) [.Name (Str.ofString "deck") dp, a] [] pos) env) P := E.callD1 hF G V hk nc hdn rfl h hn hd
end
end
section -- Core28
noncomputable def cName : Str := Str.ofString "ScriptCosts"
noncomputable def costNames : List Str := [Str.ofString "delete_first", Str.ofString "delete_more", Str.ofString "insert_first", Str.ofString "insert_more", Str.ofString "draws"]
/-- a def of the class: where, its make-up -/
structure MethIn (K : Frag) (fa : Addr) (qual : Str) (params : Arguments) (body : List Stmt) (scope : Scope) : Prop where
  at_ : ∃ o fd, K.lookup fa = some o ∧ o.data = .func fd ∧ codeIn K fd.code fd.qualname = true ∧ fd.body = .stmts body ∧ fd.scope = scope ∧ fd.params = params ∧ fd.qualname = qual ∧ fd.globals = mainGlobals ∧ fd.closure = [] ∧ fd.builtins = builtinsNs ∧ fd.defaults = .none ∧ fd.kwdefaults = .none
  keep : keepIn K (.ref fa) = true
  fn : isFn K (.ref fa) = true
structure CostK (K : Frag) : Prop where
  made : makesIn K 45 = true
  keep : keepIn K (.ref 45) = true
  init : findIn K (.ref 45) (Str.ofString "__init__") = some (some (.ref 28))
  over : plainOver K 45 = true
  setter : findIn K (.ref 45) (Str.ofString "__setattr__") = some (some (.builtin "object.__setattr__"))
  dict : hasDictIn K 45 = true
  taker : ∀ x ∈ costNames, takerIn K 45 x = some .none
  get : ∀ x, plainGet K 45 x = true
  attr : ∀ x ∈ costNames, findIn K (.ref 45) x = some .none
  ng : noGet K .none = true
  del : findIn K (.ref 45) (Str.ofString "deleting") = some (some (.ref 35))
  ins : findIn K (.ref 45) (Str.ofString "inserting") = some (some (.ref 42))
section
variable {prog : Program} {w : World} {H0 : Heap} {mg mb : Vals} {k : Nat} {env : Env} {σ : Sto} {dk : Dk} {K : Out → Prop} {KF : Frag}
theorem CostAt.inst {h : Heap} {a dx : Addr} {ps ds : List Int} (x : CostAt h a dx ps ds) : ∃ (es : List DictEntry) (n : Nat) (l : Addr) (t0 t1 t2 t3 : Tok) (p0 p1 p2 p3 : Int), InstAt h a { cls := .ref 45, dict := some dx, data := .plain } 45 (some (dictOf es n)) ∧ ps = [p0, p1, p2, p3] ∧ Lst h l (ds.map .int) ∧
    getL (Str.ofString "delete_first") es = some (some (.int p0 t0)) ∧ getL (Str.ofString "delete_more") es = some (some (.int p1 t1)) ∧ getL (Str.ofString "insert_first") es = some (some (.int p2 t2)) ∧ getL (Str.ofString "insert_more") es = some (some (.int p3 t3)) ∧ getL (Str.ofString "draws") es = some (some (.ref l)) ∧
    getL (Str.ofString "deleting") es = some .none ∧ getL (Str.ofString "inserting") es = some .none := by
  obtain ⟨o, es, n, l, h1, h2, h3, h4, ⟨rfl, h0, h1', h2', h3', h4', k0, k1, k2, k3, k4, t0, t1, t2, t3, p0, p1, p2, p3, rfl, rfl⟩, h6⟩ := x
  refine ⟨_, n, l, t0, t1, t2, t3, p0, p1, p2, p3, ⟨h1, rfl, rfl, h3⟩, rfl, h6, ?_, ?_, ?_, ?_, ?_, ?_, ?_⟩ <;> rfl
/-- c.x, an int of the costs -/
theorem E.costInt {x n : Str} {p pos : Pos} {dx : Addr} {ps ds : List Int} {i : Int} {P : Res → Dk → Prop} (X : KF.In H0) (CK : CostK KF) (V : EnvOk env) (hk : Kind env x) (hx : σ x = some (.cost dx ps ds)) (hn : n ∈ costNames)
    (hi : ∀ (es : List DictEntry) (t0 t1 t2 t3 : Tok) (p0 p1 p2 p3 : Int), ps = [p0, p1, p2, p3] → getL (Str.ofString "delete_first") es = some (some (.int p0 t0)) → getL (Str.ofString "delete_more") es = some (some (.int p1 t1)) → getL (Str.ofString "insert_first") es = some (some (.int p2 t2)) → getL (Str.ofString "insert_more") es = some (some (.int p3 t3)) → ∃ t, getL n es = some (some (.int i t)))
    (h : P (.dat (.int i)) dk) (hd : (x == ("__debug__" : Str)) = false) : E prog w H0 k env σ dk (eval (.Attribute (.Name x p) n pos) env) P := by
  intro A s m ok R Q X' hQ
  obtain ⟨v, hv, a, rfl, hC⟩ := R.hold x _ hx
  obtain ⟨es, c, l, t0, t1, t2, t3, p0, p1, p2, p3, I, hps, hl, g0, g1, g2, g3, _⟩ := hC.inst
  obtain ⟨t, ht⟩ := hi es t0 t1 t2 t3 p0 p1 p2 p3 hps g0 g1 g2 g3
  have name : ∀ (Q' : Value → Shared → Prop), Q' (.ref a) s → wpAny (model prog w) A (eval (.Name x p) env) Q' X' s := by
    intro Q' hq
    rcases hk with hk | ⟨hk, cc, hc'⟩
    · obtain ⟨mL, hns, hmm⟩ := R.frm.ns
      exact wpAny_Name (wpAny_loadName_local V.fn hk hns ((hmm _ hk).trans hv) hq) hd
    · have := R.frm.cl _ cc hk hc'
      rw [hv] at this
      exact wpAny_Name (wpAny_loadName_cell V.fn hk hc' this hq) hd
  refine Attribute_name (name _ ?_)
  refine get_value (K := KF) (X.keeps R.base) I (plainGet_of (CK.get n)).1 (findObj_own CK.dict (CK.attr n hn) CK.ng ht) rfl ?_
  exact hQ _ s.heap _ _ dk h R .refl (.int ..)
/-- c.draws -/
theorem E.costDraws {x : Str} {p pos : Pos} {dx : Addr} {ps ds : List Int} {P : Res → Dk → Prop} (X : KF.In H0) (CK : CostK KF) (V : EnvOk env) (hk : Kind env x) (hx : σ x = some (.cost dx ps ds))
    (h : P (.lst .ownd (ds.map .int)) dk) (hd : (x == ("__debug__" : Str)) = false) : E prog w H0 k env σ dk (eval (.Attribute (.Name x p) (Str.ofString "draws") pos) env) P := by
  intro A s m ok R Q X' hQ
  obtain ⟨v, hv, a, rfl, hC⟩ := R.hold x _ hx
  obtain ⟨es, c, l, t0, t1, t2, t3, p0, p1, p2, p3, I, hps, hl, g0, g1, g2, g3, g4, _⟩ := hC.inst
  have name : ∀ (Q' : Value → Shared → Prop), Q' (.ref a) s → wpAny (model prog w) A (eval (.Name x p) env) Q' X' s := by
    intro Q' hq
    rcases hk with hk | ⟨hk, cc, hc'⟩
    · obtain ⟨mL, hns, hmm⟩ := R.frm.ns
      exact wpAny_Name (wpAny_loadName_local V.fn hk hns ((hmm _ hk).trans hv) hq) hd
    · have := R.frm.cl _ cc hk hc'
      rw [hv] at this
      exact wpAny_Name (wpAny_loadName_cell V.fn hk hc' this hq) hd
  refine Attribute_name (name _ ?_)
  refine get_value (K := KF) (X.keeps R.base) I (plainGet_of (CK.get (Str.ofString "draws"))).1 (findObj_own CK.dict (CK.attr (Str.ofString "draws") (by simp [costNames])) CK.ng g4) rfl ?_
  exact hQ _ s.heap _ _ dk h R .refl ⟨l, rfl, hl, (by intro q; cases q), (by intro q; cases q)⟩
/-- a def's contract, the def at a place -/
noncomputable def FnM (prog : Program) (w : World) (H0 : Heap) (k : Nat) (fa : Addr) (args : List Res) (P : Res → Prop) : Prop :=
  ∀ (A : Around) (s : Shared) (vs : List Value), Okay k A → Stays H0 s.heap → ArgsOk s.heap vs args → ∀ (Q X : Value → Shared → Prop),
    (∀ v h' tk ρ, P ρ → ρ.isNew = true → Stays s.heap h' → VlF prog w s.heap h' v ρ → Q v ⟨h', s.gens, s.drawn, tk, s.os⟩) → wpAny (model prog w) A (call (.ref fa) vs) Q X s
/-- c.f(a), f a def of the class -/
theorem E.callM {x f : Str} {fa : Addr} {p ap pos : Pos} {e : Expr} {es : List Expr} {dx : Addr} {ps ds : List Int} {P : Res → Dk → Prop} {qual : Str} {params : Arguments} {body : List Stmt} {scope : Scope} (X : KF.In H0) (CK : CostK KF) (V : EnvOk env) (hk : Kind env x) (hx : σ x = some (.cost dx ps ds)) (hd : (x == ("__debug__" : Str)) = false)
    (hM : MethIn KF fa qual params body scope) (hf : findIn KF (.ref 45) f = some (some (.ref fa))) (hno : ∀ (es : List DictEntry), getL (Str.ofString "deleting") es = some .none → getL (Str.ofString "inserting") es = some .none → getL f es = some .none) (hn : noStar (e :: es) = true)
    (h : Er prog w H0 k env σ (e :: es) dk [] fun ρs dk₁ => FnM prog w H0 k fa (.cost false dx ps ds :: ρs) fun ρ => P ρ dk₁)
    (ev : ∃ pl : Sem Bool, eval (.Call (.Attribute (.Name x p) f ap) (e :: es) [] pos) env = (do
      let ov ← eval (.Name x p) env
      standAt ap.atName
      let (f', first) ← holding [ov] (getMethod ov f pl)
      callWith pos f' first (backTo pos (starEach (e :: es) env)) (backToKw pos (keywordEach [] env)))) :
    E prog w H0 k env σ dk (eval (.Call (.Attribute (.Name x p) f ap) (e :: es) [] pos) env) P := by
  intro A s m ok R Q X' hQ
  obtain ⟨v, hv, a, rfl, hC⟩ := R.hold x _ hx
  obtain ⟨es', c, l, t0, t1, t2, t3, p0, p1, p2, p3, I, hps, hl, g0, g1, g2, g3, g4, g5, g6⟩ := hC.inst
  have name : ∀ (Q' : Value → Shared → Prop), Q' (.ref a) s → wpAny (model prog w) A (eval (.Name x p) env) Q' X' s := by
    intro Q' hq
    rcases hk with hk | ⟨hk, cc, hc'⟩
    · obtain ⟨mL, hns, hmm⟩ := R.frm.ns
      exact wpAny_Name (wpAny_loadName_local V.fn hk hns ((hmm _ hk).trans hv) hq) hd
    · have := R.frm.cl _ cc hk hc'
      rw [hv] at this
      exact wpAny_Name (wpAny_loadName_cell V.fn hk hc' this hq) hd
  obtain ⟨pl, ev⟩ := ev
  refine methodCall_KW (pl := pl) (name _ ?_) ev
  refine method_fn (K := KF) (X.keeps R.base) I (plainGet_of (CK.get f)).1 (plainGet_of (CK.get f)).2 hf (beq_iff_eq.mp hM.fn) (by show (lookIn f (dictOf es' c)).map _ = _; rw [lookIn_dict, hno es' g5 g6]; rfl) ?_
  refine callWith_KW (h₀ := H0) X hM.keep (by rfl) (er_spliced (m := m) ok (e :: es) dk [] [] s s.heap _ _ hn h R .nil .refl fun vs h₁ tk₁ ρs dk₁ hP R₁ K₁ Vs => wpAny_evalAll_nil ⟨X.keeps R₁.base, ?_⟩) (by show (List.any _ _ || _) = false; rw [plain_back hn]; rfl) (noStar_eq hn)
  rw [List.nil_append] at Vs
  have hC₁ : CostAt h₁ a dx ps ds := K₁.cost R hC
  refine hP A _ (.ref a :: vs) ok R₁.base (.cons ⟨a, rfl, hC₁⟩ (argsOk_of_vls Vs)) _ _ fun v h' tk ρ hp hnew st hv' => ?_
  exact hQ v h' tk ρ dk₁ hp (R₁.stays st) (K₁.trans (KeepE.of_stays st)) ((vl_of_vlF hnew hv').later K₁.dom)
end
end
section -- Core29
section
variable {prog : Program} {w : World} {H0 : Heap} {mg mb : Vals} {k : Nat} {env : Env} {σ : Sto} {dk : Dk} {K : Out → Prop}
/-- to know less -/
theorem Rel.weak {h : Heap} {m : Vals} {σ' : Sto} (R : Rel prog w H0 env h m σ dk) (hs : ∀ y e, σ' y = some e → σ y = some e) : Rel prog w H0 env h m σ' dk where
  base := R.base
  frm := R.frm
  newL := R.newL
  newC := R.newC
  hold := fun x e hx => R.hold x e (hs x e hx)
  own := fun x xs hx a hm y e hy => R.own x xs (hs _ _ hx) a hm y e (hs _ _ hy)
  cst := fun x dx ps ds hx => R.cst x dx ps ds (hs _ _ hx)
  dek := fun l c t e => let ⟨a, h1, h2, h3, h4, h5⟩ := R.dek l c t e; ⟨a, h1, h2, h3, h4, fun ⟨x, xs, hx, hm⟩ => h5 ⟨x, xs, hs _ _ hx, hm⟩⟩
theorem S.weak {tr : Sem Flow} (σ' : Sto) (hs : ∀ y e, σ' y = some e → σ y = some e) (h : S prog w H0 k env σ' dk tr K) : S prog w H0 k env σ dk tr K := by
  intro A s m ok R Q X hQ
  refine h A s m ok (R.weak hs) Q X fun f h' tk o hK hO => hQ f h' tk o hK ?_
  have own : ∀ b, OwnA m σ' b → OwnA m σ b := fun b ⟨x, xs, hx, hm⟩ => ⟨x, xs, hs _ _ hx, hm⟩
  have st : ∀ {m' : Vals} {σ'' : Sto} {dk' : Dk}, Step env s.heap m σ' dk h' m' σ'' dk' → Step env s.heap m σ dk h' m' σ'' dk' := fun S' => ⟨fun b o ho n => S'.get b o ho (by
    rintro (q | q | q | q)
    · exact n (.inl q)
    · exact n (.inr (.inl q))
    · exact n (.inr (.inr (.inl (own b q))))
    · exact n (.inr (.inr (.inr q)))), S'.dom, fun b q => (S'.own b q).imp (own b) id, S'.dkm, S'.dkn⟩
  cases o with
  | next σ'' dk' => obtain ⟨e, m', R', S'⟩ := hO; exact ⟨e, m', R', st S'⟩
  | ret ρ dk' =>
    obtain ⟨v, m', σ'', e, R', S', hv⟩ := hO
    refine ⟨v, m', σ'', e, R', st S', ?_⟩
    cases ρ with
    | dat d => exact hv
    | lst fl xs => obtain ⟨a, e1, e2, e3⟩ := hv; exact ⟨a, e1, e2, fun q => (e3 q).imp id (own a)⟩
    | deck l c t => exact hv
    | cost fr dx ps ds => exact hv
noncomputable abbrev kS_assignDeck_1 (σ : Sto) (K : Out → Prop) (ρ : Res) (dk₁ : Dk) : Prop := dk₁ = .none ∧ ∃ l c t, ρ = .deck l c t ∧ K (.next σ (some (l, c, t)))
/-- deck = .. , the deck a cell -/
theorem S.assignDeck {p pos : Pos} {value : Expr} {cc : Addr} (V : EnvOk env) (hk : env.kindOf deckName = some .cell) (hcc : env.cells.lookup deckName = some cc) (hσ : σ deckName = .none) (nc : NoCost σ)
    (h : E prog w H0 k env σ .none (eval value env) (kS_assignDeck_1 σ K)) (hs : swapsWith value (some (.Name deckName p)) pos.line env = pure false) :
    S prog w H0 k env σ .none (exec (.Assign [.Name deckName p] value pos) env) K := by
  intro A s m ok R Q X hQ
  refine wpAny_Assign_Name (h A s m ok R _ _ ?_) hs
  rintro v h₁ tk₁ ρ dk₁ ⟨rfl, l, c, t, rfl, hK⟩ R₁ K₁ ⟨a, rfl, hD, ha, hl⟩
  obtain ⟨mL, hn, hm⟩ := R₁.frm.ns
  have hn0 := hn
  obtain ⟨oL, esL, epL, hoL, hdL, _⟩ := hn0
  have hcell := R₁.frm.cl deckName cc hk hcc
  refine wpAny_storeName_cell V.fn hk hcc hcell (fun h' hcell' hs' => ?_)
  obtain ⟨oc, hoc, hdc⟩ := id hcell
  have hcL : env.locals ≠ cc := by rintro rfl; rw [hoL] at hoc; cases hoc; rw [hdL] at hdc; cases hdc
  have as : Aside h₁ h' cc := ⟨hs', (fun o vs n ho hd => by rw [hoc] at ho; cases ho; rw [hdc] at hd; cases hd), (fun o ho hd => by rw [hoc] at ho; cases ho; rw [hdc] at hd; cases hd)⟩
  have hacc : a ≠ cc := by
    rintro rfl
    obtain ⟨o, ho, _⟩ := R.frm.cl deckName a hk hcc
    rw [ha] at ho; cases ho
  have haL : a ≠ env.locals := by
    rintro rfl
    obtain ⟨_, ⟨_, _, _, ho, _⟩, _⟩ := R.frm.ns
    rw [ha] at ho; cases ho
  have fr : Frm env h' (setV m deckName (.ref a)) := by
    refine ⟨⟨mL, hn.sameBut hs' hcL, fun y hy => ?_⟩, fun y c' hy hc' => ?_⟩
    · have q : y ≠ deckName := by rintro rfl; rw [hk] at hy; cases hy
      rw [setV_ne _ _ q]; exact hm y hy
    · by_cases q : y = deckName
      · subst q
        rw [hcc] at hc'; cases hc'
        rw [setV_same]; exact hcell'
      · rw [setV_ne _ _ q]
        have := R₁.frm.cl y c' hy hc'
        refine this.sameBut hs' ?_
        rintro rfl
        exact q (V.inj y deckName c' hc' hcc)
  have dm : Dom h₁ h' := fun b o ho => by
    by_cases q : b = cc
    · subst q; obtain ⟨o', e, _⟩ := hcell'; exact ⟨o', e⟩
    · exact ⟨o, (hs'.2 b q).trans ho⟩
  have yne : ∀ y e, σ y = some e → y ≠ deckName := fun y e hy q => by rw [q, hσ] at hy; cases hy
  have ownS : ∀ b, OwnA (setV m deckName (.ref a)) σ b → OwnA m σ b := by
    rintro b ⟨y, xs, hy, hv⟩
    rw [setV_ne _ _ (yne y _ hy)] at hv
    exact ⟨y, xs, hy, hv⟩
  refine hQ .next h' _ _ hK ⟨rfl, setV m deckName (.ref a), ⟨fun b o ho => as.get (by rintro rfl; rw [R.newC _ _ hcc] at ho; cases ho) (R₁.base b o ho), fr, R.newL, R.newC, ?_, ?_, R.cst, ?_⟩, ?_⟩
  · intro y e hy
    obtain ⟨u, hu, hh⟩ := R₁.hold y e hy
    refine ⟨u, by rw [setV_ne _ _ (yne y e hy)]; exact hu, ?_⟩
    cases e with
    | dat d => exact reads_seq as.seq hh
    | lst o xs => obtain ⟨b, e1, e2, e3⟩ := hh; exact ⟨b, e1, e2.seq as.seq, e3⟩
    | cost dx ps ds => exact absurd hy (nc y dx ps ds)
  · intro y xs hy b hma z e hz hzm
    rw [setV_ne _ _ (yne y _ hy)] at hma
    rw [setV_ne _ _ (yne z _ hz)] at hzm
    exact R.own y xs hy b hma z e hz hzm
  · intro l' c' t' q
    cases q
    refine ⟨a, setV_same .., as.deck hD hacc, R.base.dom.none ha, haL, fun ho => ?_⟩
    obtain ⟨y, xs, hy, hv⟩ := ownS l ho
    obtain ⟨u, hu, b, rfl, ⟨_, ⟨_, pp⟩, _⟩, _⟩ := R.hold y _ hy
    rw [hv] at hu; cases hu
    rw [hl] at pp; cases pp
  · refine ⟨fun b o ho n => as.get (by rintro rfl; exact n (.inr (.inl ⟨_, hk, hcc⟩))) (K₁.get b o ho fun q => n (.inr (.inr (.inr q)))), K₁.dom.trans dm, fun b q => .inl (ownS b q), (by intro q; cases q), ?_⟩
    rintro b ⟨_, q⟩
    rw [setV_same] at q; cases q
    exact .inr ha
end
end
section -- F0
/-- the k-th statement of the text -/
noncomputable def stmtAt (k : Nat) : Stmt := (PySem.Challenge.pw_og0232_01.main.body[k]?).getD (.Pass ⟨0,0,0,0⟩)
noncomputable def bodyOf : Stmt → List Stmt
  | .FunctionDef _ _ b .. => b
  | _ => []
noncomputable def argsOf : Stmt → Arguments
  | .FunctionDef _ a .. => a
  | _ => default
noncomputable def scopeOf : Stmt → Scope
  | .FunctionDef (scope := sc) .. => sc
  | _ => default
noncomputable def nameAt : Stmt → Str
  | .FunctionDef (name := n) .. => n
  | .ClassDef (name := n) .. => n
  | _ => (Str.ofString "")
noncomputable abbrev fenv (k : Nat) (L a : Addr) (cd : Value) : Env := envOf (nameAt (stmtAt k)) (scopeOf (stmtAt k)) L a cd
/-- the places of the text's defs -/
noncomputable def fnIdx (k : Nat) : Bool := (5 ≤ k && k ≤ 13) || (15 ≤ k && k ≤ 24)
structure Gl (H0 : Heap) (mg mb : Vals) : Prop where
  gnd : Gnd H0 mg mb
  plain : ∃ t, mg (Str.ofString "SCRIPT_PLAIN") = some (.int 0 t)
  going : ∃ t, mg (Str.ofString "SCRIPT_GOING") = some (.int 1 t)
  coming : ∃ t, mg (Str.ofString "SCRIPT_COMING") = some (.int 2 t)
  fn : ∀ (k : Nat) (_ : fnIdx k = true := by rfl), FnAt H0 mg (nameAt (stmtAt k)) (argsOf (stmtAt k)) (bodyOf (stmtAt k)) (scopeOf (stmtAt k))
noncomputable def clsBody : Stmt → List Stmt
  | .ClassDef (body := b) .. => b
  | _ => []
noncomputable def methAt (j : Nat) : Stmt := ((clsBody (stmtAt 4))[j]?).getD (.Pass ⟨0,0,0,0⟩)
section
variable {l r : List PyData} {k a b x y : Nat} {d : PyData}
theorem ln_take (h : l.length ≤ a) : (l.take k).length ≤ a := Nat.le_trans (List.length_take_le' k l) h
theorem ln_drop (h : l.length ≤ a) : (l.drop k).length ≤ a := by rw [List.length_drop]; exact Nat.le_trans (Nat.sub_le _ _) h
theorem ln_app4 (h1 : l.length ≤ 2000) (h2 : r.length ≤ 2000) : (l ++ r).length ≤ 4000 := by rw [List.length_append]; exact Nat.add_le_add h1 h2
theorem ln_app2 (h1 : l.length ≤ 1000) (h2 : r.length ≤ 1000) : (l ++ r).length ≤ 2000 := by rw [List.length_append]; exact Nat.add_le_add h1 h2
theorem ln_app1 (h1 : l.length ≤ 500) (h2 : r.length ≤ 500) : (l ++ r).length ≤ 1000 := by rw [List.length_append]; exact Nat.add_le_add h1 h2
theorem ln_rep5 (h : k ≤ 500) : (List.replicate k d).length ≤ 500 := by rw [List.length_replicate]; exact h
theorem ln_rep (h : k ≤ 1000) : (List.replicate k d).length ≤ 1000 := by rw [List.length_replicate]; exact h
theorem ln_41 (h : x ≤ 1000) : x ≤ 4000 := Nat.le_trans h (by decide)
theorem ln_21 (h : x ≤ 1000) : x ≤ 2000 := Nat.le_trans h (by decide)
theorem le1 (h : x ≤ 4000) : x ≤ 10000 := Nat.le_trans h (by decide)
theorem le2 (h1 : x ≤ 4000) (h2 : y ≤ 4000) : x + y ≤ 10000 := Nat.le_trans (Nat.add_le_add h1 h2) (by decide)
theorem toNat_min (i n : Nat) : (max 0 (min (i : Int) (n : Int))).toNat = min i n := by
  rcases Nat.le_total i n with h | h
  · rw [Int.min_eq_left (Int.ofNat_le.mpr h), Nat.min_eq_left h, Int.max_eq_right (Int.natCast_nonneg i), Int.toNat_natCast]
  · rw [Int.min_eq_right (Int.ofNat_le.mpr h), Nat.min_eq_right h, Int.max_eq_right (Int.natCast_nonneg n), Int.toNat_natCast]
end
end
local macro_rules | `(tactic| k_call_by "lk" 0) => `(tactic| first
  | with_reducible assumption
  | with_reducible exact Sto.set_same _ _ _
  | ((with_reducible refine lk_ne ?_ ?lkne); (case lkne => decide +kernel); k_call_by "lk" 0)
  | ((with_reducible first | refine lk_map ?_ | refine lk_all ?_ | refine lk_nil ?_); k_call_by "lk" 0))
local macro_rules | `(tactic| k_call_by "lkq" 0) => `(tactic| ((refine lk_eq (e := ?e) ?h ?q); (case h => k_call_by "lk" 0)))
local macro_rules | `(tactic| k_call_by "kd" 0) => `(tactic| first | with_reducible assumption | exact Or.inl (by rfl) | exact Or.inr ⟨by rfl, _, by rfl⟩)
local macro_rules | `(tactic| k_call_by "nm" 0) => `(tactic| first
  | ((with_reducible refine E.nameG (e := ?d) (ρ := ?r) ‹EnvOk _› ?kd ?lk ?hr ?hd ?_); (case lk => k_call_by "lk" 0); (case hr => first | exact .dat _ | exact .own _ | exact .safe _ | exact .cost _ _ _); (case kd => k_call_by "kd" 0); (case hd => decide))
  | ((with_reducible refine E.globI (i := ?d1) (t := ?d2) (Gl.gnd ‹Gl _ _ _›) ‹EnvOk _› ?kd ?hv ?hd ?_); (case hv => with_reducible assumption); (case kd => rfl); (case hd => decide)))
local macro_rules | `(tactic| k_call_by "ex" 0) => `(tactic| first
  | k_call_by "nm" 0
  | (with_reducible first | refine E.int ?_ | refine E.str ?_ | refine E.none ?_ | refine E.bool ?_ | refine E.bin ?_ | refine E.ite ?_ | refine E.neg ?_ | refine E.and2 ?_ | refine E.cut ?_ | refine E.list0 ?_ | refine Part.some ?_ | refine Part.none ?_)
  | ((with_reducible first | refine E.deckAt' ‹EnvOk _› ?kd ?_ | refine E.deckCells' ‹EnvOk _› ?kd ?_); (case kd => k_call_by "kd" 0))
  | ((with_reducible refine E.subN (ds := ?d) (d := ?dd) ‹EnvOk _› ?kd ?lk ?hd ?lo ?hi ?att ?_); (case lk => k_call_by "lk" 0); (case att => rfl); (case kd => k_call_by "kd" 0); (case hd => decide); (case lo => decide); (case hi => decide))
  | ((with_reducible first | refine E.sub ?_ ?sl | refine E.cmpC ?_ ?sl | refine E.cmp ?_ ?sl | refine E.tup2 ?_ ?sl | refine E.tup3 ?_ ?sl | refine E.list1 ?_ ?sl | refine E.list2 ?_ ?sl | refine E.list4 ?_ ?sl); (case sl => rfl))
  | ((with_reducible first | refine E.len (Gl.gnd ‹Gl _ _ _›) ‹EnvOk _› ?kd ?_ ?sl | refine E.sum (Gl.gnd ‹Gl _ _ _›) ‹EnvOk _› ?kd ?_ ?sl | refine E.listOf (Gl.gnd ‹Gl _ _ _›) ‹EnvOk _› ?kd ?_ ?sl | refine E.intOf (Gl.gnd ‹Gl _ _ _›) ‹EnvOk _› ?kd ?_ ?sl); (case kd => rfl); (case sl => rfl))
  | ((with_reducible refine E.indexS ?_ ?h1 ?h2 ?h3); (case h1 => rfl); (case h2 => rfl); (case h3 => rfl)))
local macro_rules | `(tactic| k_call_by "ts" 0) => `(tactic| first
  | ((with_reducible first | refine T.cmpC ?_ ?sl | refine T.cmp ?_ ?sl | refine T.chain ?_ ?sl); (case sl => rfl))
  | (with_reducible first | refine Tests.one ?_ | refine Tests.nil ?_ | refine T.not ?_ | refine T.bop ?_ | refine T.orCons ?_ | refine T.orNil ?_ | refine T.andCons ?_ | refine T.andNil ?_)
  | ((with_reducible refine T.val ?_ ?sl); (case sl => rfl)))
local macro_rules | `(tactic| k_call_by "okd" 0) => `(tactic| first | with_reducible assumption | (unfold okD SeqAt.shaped; simp only [PyData.canLay0, PyData.canLayAll0, PyData.depth, PyData.depthAll]; decide +kernel))
local macro_rules | `(tactic| k_call_by "so" 0) => `(tactic| first | assumption | decide +kernel)
local macro_rules | `(tactic| k_call_by "ln" 0) => `(tactic| first | assumption | (refine ln_take ?_; k_call_by "ln" 0) | (refine ln_drop ?_; k_call_by "ln" 0) | ((first | refine ln_app4 ?_ ?_ | refine ln_app2 ?_ ?_ | refine ln_app1 ?_ ?_) <;> k_call_by "ln" 0) | ((first | refine ln_rep ?_ | refine ln_rep5 ?_); omega) | ((first | refine ln_41 ?_ | refine ln_21 ?_); k_call_by "ln" 0))
local macro_rules | `(tactic| k_call_by "le2" 0) => `(tactic| exact le2 (by k_call_by "ln" 0) (by k_call_by "ln" 0))
local macro_rules | `(tactic| k_call_by "rel" 0) => `(tactic| with_reducible first | exact .add _ _ | exact .sub _ _ | exact .lt _ _ | exact .le _ _ | exact .gt _ _ | exact .eqI _ _ | exact .neI _ _ | exact .isN _ | exact .isNotN _ | exact .int _ | exact .bool _)
local macro_rules | `(tactic| k_call_by "rex" 0) => `(tactic| first
  | ((with_reducible refine .mul _ _ ?_); first | exact IntMulOk.of_right (by decide +kernel) | exact IntMulOk.of_left (by decide +kernel))
  | ((with_reducible refine .fmod _ _ ?_); omega)
  | ((with_reducible refine .fdiv _ _ ?_ ?_); omega; exact Nat.lt_of_le_of_lt (m := 100000) (by omega) (by decide +kernel))
  | ((with_reducible refine .rep _ _ _ ?_ ?_) <;> omega)
  | ((with_reducible refine .cat _ _ _ _ ?_); first | k_call_by "le2" 0 | (simp only [List.length_append, List.length_replicate, List.length_map, List.length_take, List.length_drop, List.length_cons, List.length_nil]; omega))
  | ((with_reducible first | refine .eqT ?_ | refine .neT ?_); decide +kernel)
  | ((with_reducible first | refine .eqF ?_ ?_ ?_ | refine .neF ?_ ?_ ?_) <;> k_call_by "so" 0)
  | ((with_reducible refine .eqS _ _ ?_ ?_) <;> k_call_by "so" 0)
  | ((with_reducible refine .neS _ _ ?_ ?_) <;> k_call_by "so" 0)
  | ((with_reducible first | refine .inT _ _ ?_ ?_ | refine .neL _ _ _ _ ?_ ?_ | refine .eqL _ _ _ _ ?_ ?_) <;> k_call_by "okd" 0))
local macro_rules | `(tactic| k_call_by "op" 0) => `(tactic| first
  | (with_reducible first | refine ⟨rfl, ?_⟩ | refine ⟨_, rfl, ?_⟩)
  | refine ⟨rfl, ?_⟩
  | ((with_reducible refine ⟨?v, ?r, ?_⟩); (case r => first | k_call_by "rel" 0 | k_call_by "rex" 0))
  | ((with_reducible first | refine ⟨?dd, SubR.tup _ _ _ ?lo ?hi ?att, ?_⟩ | refine ⟨?dd, SubR.lst _ _ _ _ ?lo ?hi ?att, ?_⟩); (case lo => decide); (case hi => decide); (case att => rfl))
  | ((with_reducible refine ⟨_, LenR.lst _ _, ?le, ?_⟩); (case le => first | omega | (simp only [List.length_map, List.length_append, List.length_cons, List.length_nil] at *; omega)))
  | ((with_reducible refine ⟨_, LenR.tup _, ?le, ?_⟩); (case le => (simp; done))))
local macro_rules | `(tactic| k_call_by "nk" 0) => `(tactic| exact ⟨by decide +kernel, by k_call_by "kd" 0⟩)
local macro_rules | `(tactic| k_call_by "cas" 0) => `(tactic| ((case kd => k_call_by "kd" 0); (case nd => decide +kernel); (case hs => rfl)))
local macro_rules | `(tactic| k_call_by "asg" 0) => `(tactic| ((with_reducible refine S.assign false ‹EnvOk _› ?kd ?nd ?_ ?hs); k_call_by "cas" 0))
local macro_rules | `(tactic| k_call_by "asgO" 0) => `(tactic| ((with_reducible refine S.assign true ‹EnvOk _› ?kd ?nd ?_ ?hs); k_call_by "cas" 0))
local macro_rules | `(tactic| k_call_by "c2" 0) => `(tactic| ((case hw => rfl); (case n1 => k_call_by "nk" 0); (case n2 => k_call_by "nk" 0); (case hs => rfl)))
local macro_rules | `(tactic| k_call_by "tup2" 0) => `(tactic| first
  | ((with_reducible refine S.tup2 false false ‹EnvOk _› ?n1 ?n2 ?ns ?hs ?hw ?_); k_call_by "c2" 0; (case ns => rfl))
  | ((with_reducible refine S.tup2N false false ‹EnvOk _› ?n1 ?n2 ?ns ?hs ?hw ?_); k_call_by "c2" 0; (case ns => rfl)))
local macro_rules | `(tactic| k_call_by "tup3" 0) => `(tactic| ((with_reducible refine S.tup3 false false true ‹EnvOk _› ?n1 ?n2 ?n3 ?ns ?hs ?hw ?_); k_call_by "c2" 0; (case n3 => k_call_by "nk" 0); (case ns => rfl)))
local macro_rules | `(tactic| k_call_by "unp3" 0) => `(tactic| ((with_reducible refine S.unpack3 ‹EnvOk _› ?n1 ?n2 ?n3 ?hs ?hw ?_); k_call_by "c2" 0; (case n3 => k_call_by "nk" 0)))
local macro_rules | `(tactic| k_call_by "ncs" 0) => `(tactic| first | with_reducible assumption | ((with_reducible refine NoCost.set ?nc ?ne); (case ne => rfl); (case nc => k_call_by "ncs" 0)))
local macro_rules | `(tactic| k_call_by "cll" 0) => `(tactic| ((case lk => k_call_by "lk" 0); (case nc => k_call_by "ncs" 0); (case le => first | assumption | omega | (simp only [List.length_map, List.length_append, List.length_singleton] at *; omega)); (case h1 => rfl)))
local macro_rules | `(tactic| k_call_by "app" 0) => `(tactic| ((with_reducible refine S.append (xs := ?d) ‹EnvOk _› ?kd ?lk ?nc ?le ?_ ?h1 ?h2 ?h3 ?h4 ?h5); k_call_by "cll" 0; (case kd => rfl); (case h2 => rfl); (case h3 => rfl); (case h4 => rfl); (case h5 => rfl)))
local macro_rules | `(tactic| k_call_by "sit" 0) => `(tactic| ((with_reducible refine S.setItem (xs := ?d) ‹EnvOk _› ?kd ?lk ?nc ?le ?_ ?h1 ?h2); k_call_by "cll" 0; (case kd => k_call_by "kd" 0); (case h2 => decide +kernel)))
local macro_rules | `(tactic| k_call_by "for" 0) => `(tactic| ((with_reducible refine S.forList ‹EnvOk _› ?n1 ?tg ?_ ?hs); (case tg => rfl); (case hs => (intro _; rfl)); (case n1 => first
    | (intro x hx; rw [List.mem_singleton.mp hx]; k_call_by "nk" 0)
    | (intro x hx; rcases List.mem_cons.mp hx with hx | hx; (rw [hx]; k_call_by "nk" 0); rw [List.mem_singleton.mp hx]; k_call_by "nk" 0))))
local macro_rules | `(tactic| k_call_by "st" 0) => `(tactic| first
  | (with_reducible first | refine S.cons ?_ | refine S.nil ?_ | refine S.ifs ?_ | refine Then.next ?_ | refine Then.ret ?_)
  | ((with_reducible refine S.retOwn (xs := ?d) ‹EnvOk _› ?kd ?lk ?_ ?hd); (case lk => k_call_by "lk" 0); (case kd => rfl); (case hd => decide))
  | with_reducible refine S.ret ?_
  | ((with_reducible refine S.augAdd (a := ?d) ‹EnvOk _› ?kd ?hx ?lk ?_); (case lk => k_call_by "lk" 0); (case kd => rfl); (case hx => decide)))
local macro_rules | `(tactic| k_call_by "blk" 0) => `(tactic| exact ⟨rfl, by decide, rfl, by decide, fun x c h => by cases h⟩)
local macro_rules | `(tactic| k_call_by "ccp" 0) => `(tactic| ((case blk => k_call_by "blk" 0); (case nc => k_call_by "ncs" 0); (case tg => rfl); (case hx => first
    | (intro C y hy; rw [List.mem_singleton.mp hy]; rfl)
    | (intro C y hy; rcases List.mem_cons.mp hy with hy | hy; (rw [hy]; rfl); rw [List.mem_singleton.mp hy]; rfl)); (case hs => (intro _; rfl))))
local macro_rules | `(tactic| k_call_by "cmp0" 0) => `(tactic| ((with_reducible refine E.comp0 ‹EnvOk _› ?blk ?nc ?tg ?hx ?_ ?hs); k_call_by "ccp" 0))
local macro_rules | `(tactic| k_call_by "br" 0) => `(tactic| first
  | refine ⟨fun hb => absurd hb (by decide +kernel), fun _ => ?_⟩
  | refine ⟨fun _ => ?_, fun hb => absurd hb (by decide +kernel)⟩
  | ((refine ⟨fun hb => ?xx, fun _ => ?_⟩); (case xx => (exfalso; revert hb; simp [*]; done)))
  | ((refine ⟨fun _ => ?_, fun hb => ?xx⟩); (case xx => (exfalso; revert hb; simp [*]; done))))
local macro_rules | `(tactic| k_call_by "fi" 0) => `(tactic| first | exact ⟨rfl, rfl⟩ | exact rfl | exact ⟨_, rfl, rfl, rfl⟩)
local macro_rules | `(tactic| k_call_by "go" 0) => `(tactic| repeat first | k_call_by "st" 0 | k_call_by "ex" 0 | k_call_by "ts" 0 | k_call_by "op" 0 | k_call_by "br" 0 | k_call_by "fi" 0)
local macro_rules | `(tactic| k_call_by "gx" 0) => `(tactic| repeat first | k_call_by "ex" 0 | k_call_by "ts" 0 | k_call_by "op" 0 | k_call_by "br" 0)
local macro_rules | `(tactic| k_call_by "drw" 0) => `(tactic| ((with_reducible refine E.callD1' ‹FnAt _ _ (Str.ofString "_law_draw") _ _ _› (Gl.gnd ‹Gl _ _ _›) ‹EnvOk _› ?kd ?nc ?kdd ?hn ?hd ?_); (case kd => rfl); (case nc => k_call_by "ncs" 0); (case kdd => k_call_by "kd" 0); (case hn => rfl); (case hd => decide); k_call_by "ex" 0; (refine ⟨rfl, rfl, ?_⟩)))
section -- T2
/-- the text without its two rows that give it a name -/
noncomputable def vw : Program := { PySem.Challenge.pw_og0232_01 with main := { PySem.Challenge.pw_og0232_01.main with body := (PySem.Challenge.pw_og0232_01.main.body.drop 1).take 13 ++ PySem.Challenge.pw_og0232_01.main.body.drop 15 } }
/-- what the law's class is made of -/
noncomputable def frag : Params → Frag := fun P => [(2, (@PySem.Obj.mk PySem.Value.none (@Option.none Nat) (@PySem.Data.dict (List.toArray []) 0) (List.toArray []))),
  (3, (@PySem.Obj.mk (@PySem.Value.type "dict") (@Option.none Nat) (@PySem.Data.dict (List.toArray ((@PySem.DictEntry.mk (@PySem.PyData.keyHash P (Str.ofString "__name__")) (@PySem.Value.str (Str.ofString "__name__") 165) (@PySem.Value.str (Str.ofString "law_og0232_01") 336)) :: ((@PySem.DictEntry.mk (@PySem.PyData.keyHash P (Str.ofString "__doc__")) (@PySem.Value.str (Str.ofString "__doc__") 166) PySem.Value.none) :: ((@PySem.DictEntry.mk (@PySem.PyData.keyHash P (Str.ofString "__package__")) (@PySem.Value.str (Str.ofString "__package__") 167) PySem.Value.none) :: ((@PySem.DictEntry.mk (@PySem.PyData.keyHash P (Str.ofString "__loader__")) (@PySem.Value.str (Str.ofString "__loader__") 168) (@PySem.Value.builtin "__main__.__loader__#opaque")) :: ((@PySem.DictEntry.mk (@PySem.PyData.keyHash P (Str.ofString "__spec__")) (@PySem.Value.str (Str.ofString "__spec__") 169) PySem.Value.none) :: ((@PySem.DictEntry.mk (@PySem.PyData.keyHash P (Str.ofString "__annotations__")) (@PySem.Value.str (Str.ofString "__annotations__") 170) (@PySem.Value.ref 6)) :: ((@PySem.DictEntry.mk (@PySem.PyData.keyHash P (Str.ofString "__builtins__")) (@PySem.Value.str (Str.ofString "__builtins__") 171) (@PySem.Value.ref 4)) :: ((@PySem.DictEntry.mk (@PySem.PyData.keyHash P (Str.ofString "__file__")) (@PySem.Value.str (Str.ofString "__file__") 173) (@PySem.Value.str (Str.ofString "/claim/cut.py") 172)) :: ((@PySem.DictEntry.mk (@PySem.PyData.keyHash P (Str.ofString "__cached__")) (@PySem.Value.str (Str.ofString "__cached__") 174) PySem.Value.none) :: ((@PySem.DictEntry.mk (@PySem.PyData.keyHash P (Str.ofString "SCRIPT_PLAIN")) (@PySem.Value.str (Str.ofString "SCRIPT_PLAIN") 190) (@PySem.Value.int 0 189)) :: ((@PySem.DictEntry.mk (@PySem.PyData.keyHash P (Str.ofString "SCRIPT_GOING")) (@PySem.Value.str (Str.ofString "SCRIPT_GOING") 192) (@PySem.Value.int 1 191)) :: ((@PySem.DictEntry.mk (@PySem.PyData.keyHash P (Str.ofString "SCRIPT_COMING")) (@PySem.Value.str (Str.ofString "SCRIPT_COMING") 194) (@PySem.Value.int 2 193)) :: ((@PySem.DictEntry.mk (@PySem.PyData.keyHash P (Str.ofString "ScriptCosts")) (@PySem.Value.str (Str.ofString "ScriptCosts") 248) (@PySem.Value.ref 45)) :: ((@PySem.DictEntry.mk (@PySem.PyData.keyHash P (Str.ofString "script_kind")) (@PySem.Value.str (Str.ofString "script_kind") 255) (@PySem.Value.ref 56)) :: ((@PySem.DictEntry.mk (@PySem.PyData.keyHash P (Str.ofString "script_cost")) (@PySem.Value.str (Str.ofString "script_cost") 266) (@PySem.Value.ref 63)) :: ((@PySem.DictEntry.mk (@PySem.PyData.keyHash P (Str.ofString "script_draws")) (@PySem.Value.str (Str.ofString "script_draws") 272) (@PySem.Value.ref 68)) :: ((@PySem.DictEntry.mk (@PySem.PyData.keyHash P (Str.ofString "script_kept")) (@PySem.Value.str (Str.ofString "script_kept") 278) (@PySem.Value.ref 73)) :: ((@PySem.DictEntry.mk (@PySem.PyData.keyHash P (Str.ofString "script_runs")) (@PySem.Value.str (Str.ofString "script_runs") 290) (@PySem.Value.ref 80)) :: ((@PySem.DictEntry.mk (@PySem.PyData.keyHash P (Str.ofString "script_scroll")) (@PySem.Value.str (Str.ofString "script_scroll") 301) (@PySem.Value.ref 87)) :: ((@PySem.DictEntry.mk (@PySem.PyData.keyHash P (Str.ofString "script_run_done")) (@PySem.Value.str (Str.ofString "script_run_done") 312) (@PySem.Value.ref 94)) :: ((@PySem.DictEntry.mk (@PySem.PyData.keyHash P (Str.ofString "script_scrolled")) (@PySem.Value.str (Str.ofString "script_scrolled") 324) (@PySem.Value.ref 101)) :: ((@PySem.DictEntry.mk (@PySem.PyData.keyHash P (Str.ofString "script_done")) (@PySem.Value.str (Str.ofString "script_done") 335) (@PySem.Value.ref 108)) :: ((@PySem.DictEntry.mk (@PySem.PyData.keyHash P (Str.ofString "_law_deck")) (@PySem.Value.str (Str.ofString "_law_deck") 343) (@PySem.Value.ref 113)) :: ((@PySem.DictEntry.mk (@PySem.PyData.keyHash P (Str.ofString "_law_draw")) (@PySem.Value.str (Str.ofString "_law_draw") 353) (@PySem.Value.ref 120)) :: ((@PySem.DictEntry.mk (@PySem.PyData.keyHash P (Str.ofString "_law_kinds")) (@PySem.Value.str (Str.ofString "_law_kinds") 371) (@PySem.Value.ref 127)) :: ((@PySem.DictEntry.mk (@PySem.PyData.keyHash P (Str.ofString "_law_steps")) (@PySem.Value.str (Str.ofString "_law_steps") 382) (@PySem.Value.ref 134)) :: ((@PySem.DictEntry.mk (@PySem.PyData.keyHash P (Str.ofString "_law_joined")) (@PySem.Value.str (Str.ofString "_law_joined") 391) (@PySem.Value.ref 141)) :: ((@PySem.DictEntry.mk (@PySem.PyData.keyHash P (Str.ofString "_law_turns")) (@PySem.Value.str (Str.ofString "_law_turns") 397) (@PySem.Value.ref 146)) :: ((@PySem.DictEntry.mk (@PySem.PyData.keyHash P (Str.ofString "_law_scroll")) (@PySem.Value.str (Str.ofString "_law_scroll") 408) (@PySem.Value.ref 153)) :: ((@PySem.DictEntry.mk (@PySem.PyData.keyHash P (Str.ofString "_law_shifted")) (@PySem.Value.str (Str.ofString "_law_shifted") 422) (@PySem.Value.ref 160)) :: ((@PySem.DictEntry.mk (@PySem.PyData.keyHash P (Str.ofString "_law_pushed")) (@PySem.Value.str (Str.ofString "_law_pushed") 435) (@PySem.Value.ref 167)) :: ((@PySem.DictEntry.mk (@PySem.PyData.keyHash P (Str.ofString "_law_price")) (@PySem.Value.str (Str.ofString "_law_price") 447) (@PySem.Value.ref 174)) :: ((@PySem.DictEntry.mk (@PySem.PyData.keyHash P (Str.ofString "law")) (@PySem.Value.str (Str.ofString "law") 453) (@PySem.Value.ref 179)) :: [])))))))))))))))))))))))))))))))))) 33) (List.toArray []))),
  (27, (@PySem.Obj.mk (@PySem.Value.type "code") (@Option.none Nat) (@PySem.Data.fields (List.toArray ((@PySem.Value.str (Str.ofString "__init__") 207) :: ((@PySem.Value.str (Str.ofString "ScriptCosts.__init__") 208) :: ((@PySem.Value.str (Str.ofString "/claim/cut.py") 209) :: ((@PySem.Value.int 7 0) :: ((@PySem.Value.int 6 0) :: ((@PySem.Value.int 0 0) :: ((@PySem.Value.int 0 0) :: ((@PySem.Value.int 3 0) :: ((@PySem.Value.ref 22) :: ((@PySem.Value.bool Bool.true) :: ((@PySem.Value.int 181 0) :: ((@PySem.Value.ref 23) :: (PySem.Value.none :: ((@PySem.Value.ref 24) :: ((@PySem.Value.ref 25) :: ((@PySem.Value.ref 26) :: ((@PySem.Value.int 216 0) :: ((@PySem.Value.int 7 0) :: ((@PySem.Value.str (Str.ofString "/claim/cut.py") 217) :: []))))))))))))))))))))) (List.toArray []))),
  (28, (@PySem.Obj.mk (@PySem.Value.type "function") (@Option.none Nat) (@PySem.Data.func (@PySem.FuncData.mk (Str.ofString "__init__") (Str.ofString "ScriptCosts.__init__") (argsOf (methAt 0)) (.stmts (bodyOf (methAt 0))) (scopeOf (methAt 0)) 3 [] PySem.Value.none PySem.Value.none PySem.Value.none (@PySem.Value.str (Str.ofString "termcore.linescripts") 187) (@Option.none Nat) (@PySem.Value.ref 27) PySem.Value.none 0)) (List.toArray []))),
  (34, (@PySem.Obj.mk (@PySem.Value.type "code") (@Option.none Nat) (@PySem.Data.fields (List.toArray ((@PySem.Value.str (Str.ofString "deleting") 219) :: ((@PySem.Value.str (Str.ofString "ScriptCosts.deleting") 220) :: ((@PySem.Value.str (Str.ofString "/claim/cut.py") 221) :: ((@PySem.Value.int 14 0) :: ((@PySem.Value.int 2 0) :: ((@PySem.Value.int 0 0) :: ((@PySem.Value.int 0 0) :: ((@PySem.Value.int 3 0) :: ((@PySem.Value.ref 29) :: ((@PySem.Value.bool Bool.true) :: ((@PySem.Value.int 181 0) :: ((@PySem.Value.ref 30) :: (PySem.Value.none :: ((@PySem.Value.ref 31) :: ((@PySem.Value.ref 32) :: ((@PySem.Value.ref 33) :: ((@PySem.Value.int 224 0) :: ((@PySem.Value.int 14 0) :: ((@PySem.Value.str (Str.ofString "/claim/cut.py") 225) :: []))))))))))))))))))))) (List.toArray []))),
  (35, (@PySem.Obj.mk (@PySem.Value.type "function") (@Option.none Nat) (@PySem.Data.func (@PySem.FuncData.mk (Str.ofString "deleting") (Str.ofString "ScriptCosts.deleting") (argsOf (methAt 1)) (.stmts (bodyOf (methAt 1))) (scopeOf (methAt 1)) 3 [] PySem.Value.none PySem.Value.none PySem.Value.none (@PySem.Value.str (Str.ofString "termcore.linescripts") 187) (@Option.none Nat) (@PySem.Value.ref 34) PySem.Value.none 0)) (List.toArray []))),
  (41, (@PySem.Obj.mk (@PySem.Value.type "code") (@Option.none Nat) (@PySem.Data.fields (List.toArray ((@PySem.Value.str (Str.ofString "inserting") 227) :: ((@PySem.Value.str (Str.ofString "ScriptCosts.inserting") 228) :: ((@PySem.Value.str (Str.ofString "/claim/cut.py") 229) :: ((@PySem.Value.int 17 0) :: ((@PySem.Value.int 3 0) :: ((@PySem.Value.int 0 0) :: ((@PySem.Value.int 0 0) :: ((@PySem.Value.int 3 0) :: ((@PySem.Value.ref 36) :: ((@PySem.Value.bool Bool.true) :: ((@PySem.Value.int 181 0) :: ((@PySem.Value.ref 37) :: (PySem.Value.none :: ((@PySem.Value.ref 38) :: ((@PySem.Value.ref 39) :: ((@PySem.Value.ref 40) :: ((@PySem.Value.int 233 0) :: ((@PySem.Value.int 17 0) :: ((@PySem.Value.str (Str.ofString "/claim/cut.py") 234) :: []))))))))))))))))))))) (List.toArray []))),
  (42, (@PySem.Obj.mk (@PySem.Value.type "function") (@Option.none Nat) (@PySem.Data.func (@PySem.FuncData.mk (Str.ofString "inserting") (Str.ofString "ScriptCosts.inserting") (argsOf (methAt 2)) (.stmts (bodyOf (methAt 2))) (scopeOf (methAt 2)) 3 [] PySem.Value.none PySem.Value.none PySem.Value.none (@PySem.Value.str (Str.ofString "termcore.linescripts") 187) (@Option.none Nat) (@PySem.Value.ref 41) PySem.Value.none 0)) (List.toArray []))),
  (44, (@PySem.Obj.mk (@PySem.Value.type "dict") (@Option.none Nat) (@PySem.Data.dict (List.toArray ((@PySem.DictEntry.mk (@PySem.PyData.keyHash P (Str.ofString "__module__")) (@PySem.Value.str (Str.ofString "__module__") 202) (@PySem.Value.str (Str.ofString "termcore.linescripts") 187)) :: ((@PySem.DictEntry.mk (@PySem.PyData.keyHash P (Str.ofString "__firstlineno__")) (@PySem.Value.str (Str.ofString "__firstlineno__") 206) (@PySem.Value.int 5 205)) :: ((@PySem.DictEntry.mk (@PySem.PyData.keyHash P (Str.ofString "__init__")) (@PySem.Value.str (Str.ofString "__init__") 218) (@PySem.Value.ref 28)) :: ((@PySem.DictEntry.mk (@PySem.PyData.keyHash P (Str.ofString "deleting")) (@PySem.Value.str (Str.ofString "deleting") 226) (@PySem.Value.ref 35)) :: ((@PySem.DictEntry.mk (@PySem.PyData.keyHash P (Str.ofString "inserting")) (@PySem.Value.str (Str.ofString "inserting") 235) (@PySem.Value.ref 42)) :: ((@PySem.DictEntry.mk (@PySem.PyData.keyHash P (Str.ofString "__static_attributes__")) (@PySem.Value.str (Str.ofString "__static_attributes__") 241) (@PySem.Value.ref 43)) :: ((@PySem.DictEntry.mk (@PySem.PyData.keyHash P (Str.ofString "__dict__")) (@PySem.Value.str (Str.ofString "__dict__") 243) (@PySem.Value.ref 46)) :: ((@PySem.DictEntry.mk (@PySem.PyData.keyHash P (Str.ofString "__weakref__")) (@PySem.Value.str (Str.ofString "__weakref__") 245) (@PySem.Value.ref 47)) :: ((@PySem.DictEntry.mk (@PySem.PyData.keyHash P (Str.ofString "__doc__")) (@PySem.Value.str (Str.ofString "__doc__") 246) PySem.Value.none) :: [])))))))))) 4) (List.toArray []))),
  (45, (@PySem.Obj.mk (@PySem.Value.type "type") (@Option.none Nat) (@PySem.Data.cls (@PySem.ClassData.mk (Str.ofString "ScriptCosts") ((@PySem.Value.type "object") :: []) ((@PySem.Value.ref 45) :: ((@PySem.Value.type "object") :: [])) 44 (Str.ofString "ScriptCosts") Bool.true [] [] Bool.false (@Option.none Bool) Bool.false)) (List.toArray ((@Option.none PySem.Value) :: ((@Option.none PySem.Value) :: ((@Option.some PySem.Value (@PySem.Value.str (Str.ofString "ScriptCosts") 195)) :: ((@Option.some PySem.Value (@PySem.Value.str (Str.ofString "ScriptCosts") 203)) :: ((@Option.some PySem.Value (@PySem.Value.builtin "object.__new__")) :: ((@Option.some PySem.Value (@PySem.Value.bool Bool.true)) :: [])))))))))]
theorem split_boot {p q : Program} {loose : List Str} {Xt : Shared → Bool} {α : Type} {Yf : Shared → α} {Ya : World → α} {N : Nat} {g0 : Bool} (e : opening p = plainProg p.main.scope.names) (hN : Nat.ble 600 N = true) (f : ∀ s, fenceModules? p s = some s)
    (h : ∀ (w : World), (fun os : OsState => (topFrom treeTable p w N ⟨boot_heap w.params, Array.mk [], boot_drawn, boot_toks, os⟩).map (fun s => (openSeen q loose (importedModules p.main.body) Xt g0 s, Yf s))) = fun _ => some (openGood q loose, Ya w)) : LeftO p q loose Xt Yf Ya N g0 := fun w => by
  obtain ⟨⟨h', gs, d, k, os⟩, a, b⟩ := Option.map_eq_some_iff.mp (boot_open e hN f w)
  simp only [Prod.mk.injEq] at b
  obtain ⟨rfl, rfl, rfl, rfl⟩ := b
  unfold openEnds
  rw [a]
  exact congrFun (h w) os
noncomputable abbrev hk : Hook := kHook frag [2, 3, 27, 28, 34, 35, 41, 42, 44, 45] (fun _ => by kernel_rfl)
theorem left_ : LeftO PySem.Challenge.pw_og0232_01 vw [] (fun s => xlAt vw [] s && recOk (RowW.records PySem.Challenge.rw_og0232_01.row.toRowW) s) (Hook.obs hk) (Hook.val hk) 2072 :=
  split_boot (by kernel_rfl) (by decide) (fun _ => by kernel_rfl) (fun w => by kernel_rfl)
end
section -- F1
section
variable {prog : Program} {w : World} {H0 : Heap} {mg mb : Vals} {k : Nat}
/-- a step of a script -/
inductive Stp where
  | keep (n f : Nat)
  | draw (n f : Nat)
  | del (n : Nat)
  | ins (f : Nat)
  deriving DecidableEq
noncomputable def sKeep : Str := Str.ofString "keep"
noncomputable def sDraw : Str := Str.ofString "draw"
noncomputable def sDel : Str := Str.ofString "delete"
noncomputable def sIns : Str := Str.ofString "insert"
noncomputable def Stp.d : Stp → PyData
  | .keep n f => .tuple [.str (Str.ofString "keep"), .int n, .int f]
  | .draw n f => .tuple [.str (Str.ofString "draw"), .int n, .int f]
  | .del n => .tuple [.str (Str.ofString "delete"), .int n]
  | .ins f => .tuple [.str (Str.ofString "insert"), .int f]
noncomputable def Stp.kind : Stp → Int
  | .keep .. => 0
  | .draw .. => 0
  | .del _ => 1
  | .ins _ => 2
noncomputable abbrev fe (j : Nat) (L a : Addr) (cd : Value) : Env := envOf (nameAt (stmtAt j)) (scopeOf (stmtAt j)) L a cd
theorem NoCost.all {σ : Sto} {ns : List Str} {es : List Ent} (h : NoCost σ) (he : ∀ e ∈ es, e.noCost = true) : NoCost (setAll σ ns es) := by
  intro x dx ps ds q
  rcases setAll_from q with q | q
  · have := he _ q; cases this
  · exact h x dx ps ds q
theorem Gl.go (G : Gl H0 mg mb) (j : Nat) (ns : List Str) {args : List Res} {P : Res → Prop} (hl : ns.length = args.length)
    (hbind : ∀ (vs : List Value) (pm cd doc : Value), vs.length = ns.length → bindArgs (docDef (nameAt (stmtAt j)) (argsOf (stmtAt j)) (bodyOf (stmtAt j)) (scopeOf (stmtAt j)) pm cd doc) ⟨vs, []⟩ = pure (ns.zip vs))
    (hloc : ∀ x ∈ ns, (scopeOf (stmtAt j)).names.lookup x = some .local) (hcell : ∀ x ∈ (scopeOf (stmtAt j)).names, x.2 ≠ .cell) (hco : (scopeOf (stmtAt j)).isCoroutine = false) (hgen : (scopeOf (stmtAt j)).isGenerator = false) (hk : (scopeOf (stmtAt j)).kind = .function)
    (hnc : ∀ ρ ∈ args, ρ.ent.noCost = true)
    (h : ∀ L a cd σ, EnvOk (fe j L a cd) → NoCost σ → σ = setAll noSto ns (args.map Res.ent) → S prog w H0 k (fe j L a cd) σ .none (execs (bodyOf (stmtAt j)) (fe j L a cd)) fun o => match o with | .ret ρ _ => ρ.isNew = true ∧ P ρ | .next .. => P (.dat .none)) (hj : fnIdx j = true := by rfl) :
    FnP prog w H0 mg (k + 1) (nameAt (stmtAt j)) args P :=
  FnP.intro G.gnd (G.fn j hj) hl hbind hloc hcell hco hgen hk fun L a cd => h L a cd _ (fenv_ok _ _ _ _ _ hk) (noSto_nc.all fun e he => let ⟨ρ, h1, h2⟩ := List.mem_map.mp he; h2 ▸ hnc ρ h1) rfl
theorem c_kind (G : Gl H0 mg mb) (s : Stp) : FnP prog w H0 mg (k + 1) (nameAt (stmtAt 5)) [.dat s.d] fun ρ => ρ = .dat (.int s.kind) := by
  obtain ⟨t0, hg0⟩ := G.plain
  obtain ⟨t1, hg1⟩ := G.going
  obtain ⟨t2, hg2⟩ := G.coming
  refine G.go 5 [Str.ofString "step"] rfl (fun vs pm cd doc hl => by obtain ⟨v, rfl⟩ := len1 hl; rfl) (by decide) (by decide) rfl rfl rfl (by intro ρ h; rw [List.mem_singleton.mp h]; rfl) ?_
  intro L a cd σ V nc hσ
  have h0 : σ (Str.ofString "step") = some (.dat s.d) := by rw [hσ]; rfl
  clear hσ
  refine S.cons ?_
  cases s <;> (dsimp only [Stp.d] at h0; k_call_by "go" 0)
  all_goals trace_state
end
end
section -- F2
section
variable {prog : Program} {w : World} {H0 : Heap} {mg mb : Vals} {k : Nat}
noncomputable def Stp.drawn : Stp → Option PyData
  | .draw _ f => some (.int f)
  | .ins f => some (.int f)
  | _ => .none
noncomputable def Stp.kept : Stp → Option PyData
  | .draw n f => some (.tuple [.int n, .int f])
  | .keep n f => some (.tuple [.int n, .int f])
  | _ => .none
theorem c_draws (G : Gl H0 mg mb) (fl : Fl) (ss : List Stp) (hs : ss.length ≤ 1000) : FnP prog w H0 mg (k + 1) (nameAt (stmtAt 7)) [.lst fl (ss.map Stp.d)] fun ρ => ρ = .lst .fresh (ss.filterMap Stp.drawn) := by
  refine G.go 7 [Str.ofString "script"] rfl (fun vs pm cd doc hl => by obtain ⟨v, rfl⟩ := len1 hl; rfl) (by decide) (by decide) rfl rfl rfl (by intro ρ h; rw [List.mem_singleton.mp h]; rfl) ?_
  intro L a cd σ V nc hσ
  have h0 : σ (Str.ofString "script") = some (.lst false (ss.map Stp.d)) := by rw [hσ]; rfl
  clear hσ
  refine S.cons (S.ret ?_)
  k_call_by "cmp0" 0
  k_call_by "ex" 0
  refine ⟨_, _, rfl, (by rw [List.length_map]; omega), fun C V' => ?_⟩
  clear V
  refine CompL.map (f := Stp.d) (g := Stp.drawn) (fun s hs => ⟨_, rfl, ?_⟩) ?_
  · cases s <;> dsimp only [Stp.d] <;> k_call_by "go" 0
  · exact ⟨rfl, rfl⟩
theorem c_kept (G : Gl H0 mg mb) (fl : Fl) (ss : List Stp) (hs : ss.length ≤ 1000) : FnP prog w H0 mg (k + 1) (nameAt (stmtAt 8)) [.lst fl (ss.map Stp.d)] fun ρ => ρ = .lst .fresh (ss.filterMap Stp.kept) := by
  refine G.go 8 [Str.ofString "script"] rfl (fun vs pm cd doc hl => by obtain ⟨v, rfl⟩ := len1 hl; rfl) (by decide) (by decide) rfl rfl rfl (by intro ρ h; rw [List.mem_singleton.mp h]; rfl) ?_
  intro L a cd σ V nc hσ
  have h0 : σ (Str.ofString "script") = some (.lst false (ss.map Stp.d)) := by rw [hσ]; rfl
  clear hσ
  refine S.cons (S.ret ?_)
  k_call_by "cmp0" 0
  k_call_by "ex" 0
  refine ⟨_, _, rfl, (by rw [List.length_map]; omega), fun C V' => ?_⟩
  clear V
  refine CompL.map (f := Stp.d) (g := Stp.kept) (fun s hs => ⟨_, rfl, ?_⟩) ?_
  · cases s <;> dsimp only [Stp.d] <;> k_call_by "go" 0
  · exact ⟨rfl, rfl⟩
end
end
section -- F3
section
variable {prog : Program} {w : World} {H0 : Heap} {mg mb : Vals} {k : Nat}
noncomputable def bump (g : List (Int × Int)) : List (Int × Int) := match g.getLast? with
  | some p => g.dropLast ++ [(p.1, p.2 + 1)]
  | .none => g
theorem bump_app (g : List (Int × Int)) (a b : Int) : bump (g ++ [(a, b)]) = g ++ [(a, b + 1)] := by
  unfold bump; simp
theorem split_last {α : Type} {g : List α} (h : g ≠ []) : ∃ i p, g = i ++ [p] := ⟨g.dropLast, g.getLast h, (List.dropLast_concat_getLast h).symm⟩
noncomputable def runD (w : Str) (p : Int × Int) : PyData := .tuple [.str w, .int p.1, .int p.2]
structure GoneSt where
  g : List (Int × Int)
  m : Int
  r : Bool
noncomputable def goneStep (t : GoneSt) : Stp → GoneSt
  | .del n => ⟨if t.r then bump t.g else t.g ++ [((n : Int) - t.m, 1)], t.m + 1, true⟩
  | .ins _ => t
  | _ => ⟨t.g, t.m, false⟩
structure ComeSt where
  g : List (Int × Int)
  r : Bool
noncomputable def comeStep (t : ComeSt) : Stp → ComeSt
  | .ins f => ⟨if t.r then bump t.g else t.g ++ [((f : Int), 1)], true⟩
  | .del _ => t
  | _ => ⟨t.g, false⟩
noncomputable def goneOf (ss : List Stp) : List (Int × Int) := (ss.foldl goneStep ⟨[], 0, false⟩).g
noncomputable def comeOf (ss : List Stp) : List (Int × Int) := (ss.foldl comeStep ⟨[], false⟩).g
noncomputable def runsOf (ss : List Stp) : List PyData := (goneOf ss).map (runD (Str.ofString "delete")) ++ (comeOf ss).map (runD (Str.ofString "insert"))
noncomputable abbrev I_runs1 (ss : List Stp) (r : List Stp) (σ : Sto) (dk : Dk) : Prop := dk = .none ∧ NoCost σ ∧ σ (Str.ofString "script") = some (.lst false (ss.map Stp.d)) ∧ σ (Str.ofString "come") = some (.lst true []) ∧ ∃ t : GoneSt, r.length + t.g.length ≤ 1000 ∧ (t.r = true → t.g ≠ []) ∧ σ (Str.ofString "gone") = some (.lst true (t.g.map (runD (Str.ofString "delete")))) ∧ σ (Str.ofString "many") = some (.dat (.int t.m)) ∧ σ (Str.ofString "is_run") = some (.dat (.bool t.r)) ∧ (r.foldl goneStep t).g = goneOf ss
noncomputable abbrev I_runs2 (ss : List Stp) (r : List Stp) (σ : Sto) (dk : Dk) : Prop := dk = .none ∧ NoCost σ ∧ σ (Str.ofString "gone") = some (.lst true ((goneOf ss).map (runD (Str.ofString "delete")))) ∧ ∃ t : ComeSt, r.length + t.g.length ≤ 1000 ∧ (t.r = true → t.g ≠ []) ∧ σ (Str.ofString "come") = some (.lst true (t.g.map (runD (Str.ofString "insert")))) ∧ σ (Str.ofString "is_run") = some (.dat (.bool t.r)) ∧ (r.foldl comeStep t).g = comeOf ss
theorem c_runs (G : Gl H0 mg mb) (fl : Fl) (ss : List Stp) (hs : ss.length ≤ 1000) : FnP prog w H0 mg (k + 1) (nameAt (stmtAt 9)) [.lst fl (ss.map Stp.d)] fun ρ => ρ = .lst .fresh (runsOf ss) := by
  refine G.go 9 [Str.ofString "script"] rfl (fun vs pm cd doc hl => by obtain ⟨v, rfl⟩ := len1 hl; rfl) (by decide) (by decide) rfl rfl rfl (by intro ρ h; rw [List.mem_singleton.mp h]; rfl) ?_
  intro L a cd σ V nc hσ
  have h0 : σ (Str.ofString "script") = some (.lst false (ss.map Stp.d)) := by rw [hσ]; rfl
  clear hσ
  refine S.cons ?_
  (first | ((with_reducible refine S.tup2 true true ‹EnvOk _› ?n1 ?n2 ?ns ?hs ?hw ?_); k_call_by "c2" 0; (case ns => rfl)) | ((with_reducible refine S.tup2N true true ‹EnvOk _› ?n1 ?n2 ?ns ?hs ?hw ?_); k_call_by "c2" 0; (case ns => rfl)))
  k_call_by "go" 0
  k_call_by "tup2" 0
  k_call_by "go" 0
  k_call_by "for" 0
  k_call_by "go" 0
  refine ⟨_, _, rfl, (by decide), ?_⟩
  refine ForL.ind (f := Stp.d) (I_runs1 ss) ?_ ?_ ss _ _ ?_
  · rintro s r σ dk ⟨rfl, nc, h0, h1, t, hlen, hr, h2, h3, h4, hf⟩
    refine ⟨_, rfl, ?_⟩
    obtain ⟨g, m, b⟩ := t
    dsimp only at hr h2 h3 h4
    have hl : g.length ≤ 999 := by simp only [List.length_cons] at hlen; omega
    have hl2 : r.length + g.length ≤ 999 := by simp only [List.length_cons] at hlen; omega
    have hlm : (g.map (runD (Str.ofString "delete"))).length ≤ 10000 := by rw [List.length_map]; omega
    cases s with
    | keep n f =>
      dsimp only [Stp.d]
      k_call_by "go" 0
      k_call_by "asg" 0
      k_call_by "go" 0
      exact ⟨(by k_call_by "ncs" 0), (by k_call_by "lk" 0), (by k_call_by "lk" 0), ⟨g, m, false⟩, by show r.length + g.length ≤ 1000; omega, nofun, (by k_call_by "lk" 0), (by k_call_by "lk" 0), (by k_call_by "lk" 0), hf⟩
    | draw n f =>
      dsimp only [Stp.d]
      k_call_by "go" 0
      k_call_by "asg" 0
      k_call_by "go" 0
      exact ⟨(by k_call_by "ncs" 0), (by k_call_by "lk" 0), (by k_call_by "lk" 0), ⟨g, m, false⟩, by show r.length + g.length ≤ 1000; omega, nofun, (by k_call_by "lk" 0), (by k_call_by "lk" 0), (by k_call_by "lk" 0), hf⟩
    | ins f =>
      dsimp only [Stp.d]
      k_call_by "go" 0
      exact ⟨(by k_call_by "ncs" 0), (by k_call_by "lk" 0), (by k_call_by "lk" 0), ⟨g, m, b⟩, by show r.length + g.length ≤ 1000; omega, hr, (by k_call_by "lk" 0), (by k_call_by "lk" 0), (by k_call_by "lk" 0), hf⟩
    | del n =>
      dsimp only [Stp.d]
      cases b with
      | false =>
        k_call_by "go" 0
        k_call_by "app" 0
        · k_call_by "go" 0
          k_call_by "asg" 0
          k_call_by "go" 0
          exact ⟨(by k_call_by "ncs" 0), (by k_call_by "lk" 0), (by k_call_by "lk" 0), ⟨g ++ [((n : Int) - m, 1)], m + 1, true⟩, (by rw [List.length_append]; show r.length + (g.length + 1) ≤ 1000; omega), (by simp), (by k_call_by "lkq" 0; rw [List.map_append]; rfl), (by k_call_by "lk" 0), (by k_call_by "lk" 0), hf⟩
      | true =>
        obtain ⟨g, ⟨a1, a2⟩, rfl⟩ := split_last (hr rfl)
        rw [List.map_append] at h2
        have hlast : at? (g.map (runD (Str.ofString "delete")) ++ [(a1, a2)].map (runD (Str.ofString "delete"))) (-1) = some (.tuple [.str (Str.ofString "delete"), .int a1, .int a2]) := at?_last _ _
        k_call_by "go" 0
        k_call_by "sit" 0
        · k_call_by "go" 0
          refine ⟨_, SubR.lst _ _ _ _ (by decide) (by decide) hlast, ?_⟩
          k_call_by "go" 0
          refine ⟨_, SubR.lst _ _ _ _ (by decide) (by decide) hlast, ?_⟩
          k_call_by "go" 0
          refine ⟨(by simp only [List.length_append, List.length_map, List.length_singleton]; omega), (by simp only [List.length_append, List.length_map, List.length_singleton]; omega), ?_⟩
          k_call_by "go" 0
          k_call_by "asg" 0
          k_call_by "go" 0
          exact ⟨(by k_call_by "ncs" 0), (by k_call_by "lk" 0), (by k_call_by "lk" 0), ⟨g ++ [(a1, a2 + 1)], m + 1, true⟩, (by rw [List.length_append] at hl2 ⊢; simp only [List.length_singleton] at hl2 ⊢; omega), (by simp), (by k_call_by "lkq" 0; rw [List.map_append]; exact congrArg _ (setAt_last _ _ _)), (by k_call_by "lk" 0), (by k_call_by "lk" 0), (by rw [← hf, List.foldl_cons]; simp only [goneStep, bump_app, if_true])⟩
  · rintro σ dk ⟨rfl, nc, h0, h1, t, hlen, hr, h2, h3, h4, hf⟩
    rw [List.foldl_nil] at hf
    rw [hf] at h2 hlen
    clear hr h3 h4 hf t
    k_call_by "go" 0
    k_call_by "asg" 0
    k_call_by "go" 0
    k_call_by "for" 0
    k_call_by "go" 0
    refine ⟨_, _, rfl, (by decide), ?_⟩
    refine ForL.ind (f := Stp.d) (I_runs2 ss) ?_ ?_ ss _ _ ?_
    · rintro s r σ dk ⟨rfl, nc, h1, t, hlen, hr, h2, h4, hf⟩
      refine ⟨_, rfl, ?_⟩
      obtain ⟨g, b⟩ := t
      dsimp only at hr h2 h4
      have hl : g.length ≤ 999 := by simp only [List.length_cons] at hlen; omega
      have hl2 : r.length + g.length ≤ 999 := by simp only [List.length_cons] at hlen; omega
      have hlm : (g.map (runD (Str.ofString "insert"))).length ≤ 10000 := by rw [List.length_map]; omega
      cases s with
      | keep n f =>
        dsimp only [Stp.d]
        k_call_by "go" 0
        k_call_by "asg" 0
        k_call_by "go" 0
        exact ⟨(by k_call_by "ncs" 0), (by k_call_by "lk" 0), ⟨g, false⟩, by show r.length + g.length ≤ 1000; omega, nofun, (by k_call_by "lk" 0), (by k_call_by "lk" 0), hf⟩
      | draw n f =>
        dsimp only [Stp.d]
        k_call_by "go" 0
        k_call_by "asg" 0
        k_call_by "go" 0
        exact ⟨(by k_call_by "ncs" 0), (by k_call_by "lk" 0), ⟨g, false⟩, by show r.length + g.length ≤ 1000; omega, nofun, (by k_call_by "lk" 0), (by k_call_by "lk" 0), hf⟩
      | del f =>
        dsimp only [Stp.d]
        k_call_by "go" 0
        exact ⟨(by k_call_by "ncs" 0), (by k_call_by "lk" 0), ⟨g, b⟩, by show r.length + g.length ≤ 1000; omega, hr, (by k_call_by "lk" 0), (by k_call_by "lk" 0), hf⟩
      | ins n =>
        dsimp only [Stp.d]
        cases b with
        | false =>
          k_call_by "go" 0
          k_call_by "app" 0
          · k_call_by "go" 0
            k_call_by "asg" 0
            k_call_by "go" 0
            exact ⟨(by k_call_by "ncs" 0), (by k_call_by "lk" 0), ⟨g ++ [((n : Int), 1)], true⟩, (by rw [List.length_append]; show r.length + (g.length + 1) ≤ 1000; omega), (by simp), (by k_call_by "lkq" 0; rw [List.map_append]; rfl), (by k_call_by "lk" 0), hf⟩
        | true =>
          obtain ⟨g, ⟨a1, a2⟩, rfl⟩ := split_last (hr rfl)
          rw [List.map_append] at h2
          have hlast : at? (g.map (runD (Str.ofString "insert")) ++ [(a1, a2)].map (runD (Str.ofString "insert"))) (-1) = some (.tuple [.str (Str.ofString "insert"), .int a1, .int a2]) := at?_last _ _
          k_call_by "go" 0
          k_call_by "sit" 0
          · k_call_by "go" 0
            refine ⟨_, SubR.lst _ _ _ _ (by decide) (by decide) hlast, ?_⟩
            k_call_by "go" 0
            refine ⟨_, SubR.lst _ _ _ _ (by decide) (by decide) hlast, ?_⟩
            k_call_by "go" 0
            refine ⟨(by simp only [List.length_append, List.length_map, List.length_singleton]; omega), (by simp only [List.length_append, List.length_map, List.length_singleton]; omega), ?_⟩
            k_call_by "go" 0
            k_call_by "asg" 0
            k_call_by "go" 0
            exact ⟨(by k_call_by "ncs" 0), (by k_call_by "lk" 0), ⟨g ++ [(a1, a2 + 1)], true⟩, (by rw [List.length_append] at hl2 ⊢; simp only [List.length_singleton] at hl2 ⊢; omega), (by simp), (by k_call_by "lkq" 0; rw [List.map_append]; exact congrArg _ (setAt_last _ _ _)), (by k_call_by "lk" 0), (by rw [← hf, List.foldl_cons]; simp only [comeStep, bump_app, if_true])⟩
    · rintro σ dk ⟨rfl, nc, h1, t, hlen2, hr, h2, h4, hf⟩
      rw [List.foldl_nil] at hf
      rw [hf] at h2 hlen2
      k_call_by "go" 0
      k_call_by "go" 0
    · exact ⟨rfl, (by k_call_by "ncs" 0), (by k_call_by "lk" 0), ⟨[], false⟩, hs, nofun, (by k_call_by "lkq" 0; rfl), (by k_call_by "lk" 0), rfl⟩
  · exact ⟨rfl, (by k_call_by "ncs" 0), (by k_call_by "lk" 0), (by k_call_by "lk" 0), ⟨[], 0, false⟩, hs, nofun, (by k_call_by "lkq" 0; rfl), (by k_call_by "lk" 0), (by k_call_by "lk" 0), rfl⟩
end
end
section -- F4
section
variable {prog : Program} {w : World} {H0 : Heap} {mg mb : Vals} {k : Nat}
theorem clip_nat (n i : Nat) : clip n (i : Int) = min i n := by
  unfold clip
  rw [if_neg (Int.not_lt.mpr (Int.natCast_nonneg i)), toNat_min]
theorem pcut_to (xs : List PyData) (n : Nat) : pcut xs .none (some (n : Int)) = xs.take n := by
  unfold pcut
  dsimp only
  rw [clip_nat, List.drop_zero, Nat.sub_zero]
  by_cases h : n ≤ xs.length
  · rw [Nat.min_eq_left h]
  · rw [Nat.min_eq_right (by omega), List.take_length, List.take_of_length_le (by omega)]
theorem pcut_from (xs : List PyData) (n : Nat) : pcut xs (some (n : Int)) .none = xs.drop n := by
  unfold pcut
  dsimp only
  rw [clip_nat]
  by_cases h : n ≤ xs.length
  · rw [Nat.min_eq_left h, List.take_of_length_le (by rw [List.length_drop]; omega)]
  · rw [Nat.min_eq_right (by omega), List.drop_length, List.drop_of_length_le (by omega)]; simp
theorem pcut_mid (xs : List PyData) (a b : Nat) (hb : b ≤ xs.length) (hab : a ≤ b) : pcut xs (some (a : Int)) (some (b : Int)) = (xs.drop a).take (b - a) := by
  unfold pcut
  dsimp only
  rw [clip_nat, clip_nat, Nat.min_eq_left (by omega), Nat.min_eq_left (by omega)]
theorem pcut_neg (xs : List PyData) (m : Nat) (h0 : 0 < m) (h : m ≤ xs.length) : pcut xs .none (some (-(m : Int))) = xs.take (xs.length - m) := by
  unfold pcut
  dsimp only
  have : clip xs.length (-(m : Int)) = xs.length - m := by
    unfold clip
    rw [if_pos (by omega), show -(m : Int) + (xs.length : Int) = ((xs.length - m : Nat) : Int) by omega, toNat_min, Nat.min_eq_left (Nat.sub_le _ _)]
  rw [this, List.drop_zero, Nat.sub_zero]
noncomputable def delR (xs : List PyData) (a m : Nat) : List PyData := xs.take a ++ xs.drop (a + m) ++ List.replicate m PyData.none
noncomputable def insR (xs : List PyData) (a m : Nat) : List PyData := (xs.take a ++ List.replicate m PyData.none ++ xs.drop a).take xs.length
/-- a run: out or in, where, how many -/
noncomputable abbrev Run := Bool × Nat × Nat
noncomputable def Run.d : Run → PyData
  | (true, a, m) => runD (Str.ofString "delete") ((a : Int), (m : Int))
  | (false, a, m) => runD (Str.ofString "insert") ((a : Int), (m : Int))
noncomputable def Run.on (xs : List PyData) : Run → List PyData
  | (true, a, m) => delR xs a m
  | (false, a, m) => insR xs a m
noncomputable def Run.okR (n : Nat) : Run → Prop
  | (true, a, m) => a + m ≤ n
  | (false, a, m) => a ≤ n ∧ m ≤ n
theorem len_tk {xs : List PyData} {n : Nat} (h : n ≤ xs.length) : (xs.take n).length = n := List.length_take_of_le h
theorem Run.on_length {xs : List PyData} {n : Nat} (hx : xs.length = n) {r : Run} (h : r.okR n) : (r.on xs).length = n := by
  subst hx
  obtain ⟨b, a, m⟩ := r
  cases b with
  | true =>
    obtain ⟨z, hz⟩ := Nat.exists_eq_add_of_le (show a + m ≤ xs.length from h)
    show (xs.take a ++ xs.drop (a + m) ++ List.replicate m PyData.none).length = _
    rw [List.length_append, List.length_append, List.length_replicate, List.length_drop, len_tk (by rw [hz, Nat.add_assoc]; exact Nat.le_add_right _ _), hz, Nat.add_sub_cancel_left, Nat.add_right_comm]
  | false =>
    have h : a ≤ xs.length ∧ m ≤ xs.length := h
    obtain ⟨z, hz⟩ := Nat.exists_eq_add_of_le h.1
    show ((xs.take a ++ List.replicate m PyData.none ++ xs.drop a).take xs.length).length = _
    refine len_tk ?_
    rw [List.length_append, List.length_append, List.length_replicate, List.length_drop, len_tk h.1, hz, Nat.add_sub_cancel_left]
    exact Nat.add_le_add_right (Nat.le_add_right _ _) _
theorem c_run_done (G : Gl H0 mg mb) (fl : Fl) (xs : List PyData) (r : Run) (n : Nat) (hn : n ≤ 1000) (hx : xs.length = n) (hr : r.okR n) : FnP prog w H0 mg (k + 1) (nameAt (stmtAt 11)) [.lst fl xs, .dat r.d] fun ρ => ρ = .lst .fresh (r.on xs) := by
  refine G.go 11 [Str.ofString "rows", Str.ofString "run"] rfl (fun vs pm cd doc hl => by obtain ⟨v, u, rfl⟩ := len2 hl; rfl) (by decide) (by decide) rfl rfl rfl (by intro ρ h; rcases List.mem_cons.mp h with rfl | h; rfl; rw [List.mem_singleton.mp h]; rfl) ?_
  intro L a cd σ V nc hσ
  have h0 : σ (Str.ofString "rows") = some (.lst false xs) := by rw [hσ]; rfl
  have h1 : σ (Str.ofString "run") = some (.dat r.d) := by rw [hσ]; rfl
  have hX : xs.length ≤ 1000 := by omega
  clear hσ
  refine S.cons ?_
  obtain ⟨b, at_, m⟩ := r
  cases b with
  | true =>
    have hr : at_ + m ≤ n := hr
    have h1 : σ (Str.ofString "run") = some (.dat (.tuple [.str (Str.ofString "delete"), .int at_, .int m])) := h1
    k_call_by "unp3" 0
    k_call_by "go" 0
    refine ⟨_, _, _, rfl, ?_⟩
    k_call_by "go" 0
    refine ⟨_, _, rfl, (by omega), ?_⟩
    k_call_by "go" 0
    refine ⟨_, _, rfl, (by omega), ?_⟩
    k_call_by "go" 0
    rw [pcut_to, show (at_ : Int) + (m : Int) = ((at_ + m : Nat) : Int) by omega, pcut_from]
    k_call_by "go" 0
  | false =>
    have hr : at_ ≤ n ∧ m ≤ n := hr
    have h1 : σ (Str.ofString "run") = some (.dat (.tuple [.str (Str.ofString "insert"), .int at_, .int m])) := h1
    k_call_by "unp3" 0
    k_call_by "go" 0
    refine ⟨_, _, _, rfl, ?_⟩
    k_call_by "go" 0
    refine ⟨_, _, rfl, (by omega), ?_⟩
    k_call_by "go" 0
    rw [pcut_to]
    k_call_by "go" 0
    refine ⟨_, _, rfl, (by omega), ?_⟩
    k_call_by "go" 0
    rw [pcut_from]
    refine ⟨_, _, rfl, le1 (by k_call_by "ln" 0), ?_⟩
    k_call_by "go" 0
    rw [pcut_to]
    k_call_by "go" 0
/-- a scroll within the rows top .. bottom: up by many, or down -/
noncomputable def scrR (xs : List PyData) (top bot m : Nat) (up : Bool) : List PyData :=
  let part := (xs.drop top).take (bot + 1 - top)
  xs.take top ++ (if up then part.drop m ++ List.replicate m PyData.none else List.replicate m PyData.none ++ part.take (part.length - m)) ++ xs.drop (bot + 1)
noncomputable def scrD (top bot m : Nat) (up : Bool) : PyData := .tuple [.int top, .int bot, .int (if up then (m : Int) else -(m : Int))]
theorem c_scrolled (G : Gl H0 mg mb) (fl : Fl) (xs : List PyData) (top bot m : Nat) (up : Bool) (n : Nat) (hn : n ≤ 1000) (hx : xs.length = n) (h1' : top ≤ bot) (h2' : bot < n) (h3' : 0 < m) (h4' : m ≤ bot + 1 - top) :
    FnP prog w H0 mg (k + 1) (nameAt (stmtAt 12)) [.lst fl xs, .dat (scrD top bot m up)] fun ρ => ρ = .lst .fresh (scrR xs top bot m up) := by
  refine G.go 12 [Str.ofString "rows", Str.ofString "scroll"] rfl (fun vs pm cd doc hl => by obtain ⟨v, u, rfl⟩ := len2 hl; rfl) (by decide) (by decide) rfl rfl rfl (by intro ρ h; rcases List.mem_cons.mp h with rfl | h; rfl; rw [List.mem_singleton.mp h]; rfl) ?_
  intro L a cd σ V nc hσ
  have h0 : σ (Str.ofString "rows") = some (.lst false xs) := by rw [hσ]; rfl
  have h1 : σ (Str.ofString "scroll") = some (.dat (.tuple [.int top, .int bot, .int (if up then (m : Int) else -(m : Int))])) := by rw [hσ]; rfl
  have hX : xs.length ≤ 1000 := by omega
  clear hσ
  refine S.cons ?_
  have hp : ((xs.drop top).take (bot + 1 - top)).length = bot + 1 - top := by rw [List.length_take, List.length_drop]; omega
  k_call_by "unp3" 0
  k_call_by "go" 0
  refine ⟨_, _, _, rfl, ?_⟩
  k_call_by "go" 0
  k_call_by "asg" 0
  k_call_by "go" 0
  refine ⟨_, _, rfl, (by omega), ?_⟩
  k_call_by "go" 0
  rw [show (bot : Int) + 1 = ((bot + 1 : Nat) : Int) by omega, pcut_mid _ _ _ (by omega) (by omega)]
  cases up with
  | true =>
    rw [if_pos rfl]
    k_call_by "go" 0
    k_call_by "asg" 0
    k_call_by "go" 0
    refine ⟨_, _, rfl, (by omega), ?_⟩
    k_call_by "go" 0
    rw [pcut_from]
    k_call_by "go" 0
    refine ⟨_, _, rfl, (by omega), ?_⟩
    k_call_by "go" 0
    rw [pcut_to]
    k_call_by "go" 0
    refine ⟨_, _, rfl, (by omega), ?_⟩
    k_call_by "go" 0
    rw [show (bot : Int) + 1 = ((bot + 1 : Nat) : Int) by omega, pcut_from]
    k_call_by "go" 0
  | false =>
    rw [if_neg Bool.false_ne_true]
    k_call_by "go" 0
    k_call_by "asg" 0
    k_call_by "go" 0
    rw [show - -(m : Int) = (m : Int) by omega]
    k_call_by "go" 0
    refine ⟨_, _, rfl, (by omega), ?_⟩
    k_call_by "go" 0
    rw [pcut_neg _ _ h3' (by omega)]
    k_call_by "go" 0
    refine ⟨_, _, rfl, (by omega), ?_⟩
    k_call_by "go" 0
    rw [pcut_to]
    k_call_by "go" 0
    refine ⟨_, _, rfl, (by omega), ?_⟩
    k_call_by "go" 0
    rw [show (bot : Int) + 1 = ((bot + 1 : Nat) : Int) by omega, pcut_from]
    k_call_by "go" 0
end
end
section -- F5
section
variable {prog : Program} {w : World} {H0 : Heap} {mg mb : Vals} {k : Nat}
noncomputable def scrollOf (g c : List (Int × Int)) : PyData := match g, c with
  | [(a, m)], [(b, n)] => if m = n then (if a = b then .none else if a < b then .tuple [.int a, .int (b + m - 1), .int m] else .tuple [.int b, .int (a + m - 1), .int (-m)]) else .none
  | _, _ => .none
theorem scrollOf_11 (a m b n : Int) : scrollOf [(a, m)] [(b, n)] = if m = n then (if a = b then .none else if a < b then .tuple [.int a, .int (b + m - 1), .int m] else .tuple [.int b, .int (a + m - 1), .int (-m)]) else .none := rfl
theorem c_scroll (G : Gl H0 mg mb) (fl : Fl) (ss : List Stp) (hs : ss.length ≤ 1000) (hg : (goneOf ss).length ≤ 1000) (hc : (comeOf ss).length ≤ 1000) : FnP prog w H0 mg (k + 2) (nameAt (stmtAt 10)) [.lst fl (ss.map Stp.d)] fun ρ => ρ = .dat (scrollOf (goneOf ss) (comeOf ss)) := by
  have hF : FnAt H0 mg (Str.ofString "script_runs") _ _ _ := G.fn 9
  have cR : FnP prog w H0 mg (k + 1) (Str.ofString "script_runs") [.lst .safe (ss.map Stp.d)] fun ρ => ρ = .lst .fresh (runsOf ss) := c_runs G _ ss hs
  refine G.go 10 [Str.ofString "script"] rfl (fun vs pm cd doc hl => by obtain ⟨v, rfl⟩ := len1 hl; rfl) (by decide) (by decide) rfl rfl rfl (by intro ρ h; rw [List.mem_singleton.mp h]; rfl) ?_
  intro L a cd σ V nc hσ
  have h0 : σ (Str.ofString "script") = some (.lst false (ss.map Stp.d)) := by rw [hσ]; rfl
  clear hσ
  refine S.cons ?_
  k_call_by "asg" 0
  refine E.call1 hF G.gnd V rfl ?_ rfl (by decide)
  k_call_by "go" 0
  refine cR.eq ?_
  clear cR hF
  unfold runsOf
  generalize goneOf ss = g at hg ⊢
  generalize comeOf ss = c at hc ⊢
  have no : g.length + c.length ≠ 2 → scrollOf g c = .none := by
    intro h
    match g, c, h with
    | [], _, _ => rfl
    | [_], [], _ => rfl
    | [_], [_], h => exact absurd rfl h
    | [_], _ :: _ :: _, _ => rfl
    | _ :: _ :: _, _, _ => rfl
  have cases3 : g.length + c.length = 2 → (∃ x1 x2 y1 y2, g = [(x1, x2)] ∧ c = [(y1, y2)]) ∨ (∃ x1 x2 y1 y2, g = [(x1, x2), (y1, y2)] ∧ c = []) ∨ ∃ x1 x2 y1 y2, g = [] ∧ c = [(x1, x2), (y1, y2)] := by
    intro h
    rcases g with _ | ⟨x, _ | ⟨y, _ | ⟨z, g⟩⟩⟩ <;> rcases c with _ | ⟨x', _ | ⟨y', _ | ⟨z', c⟩⟩⟩ <;> simp only [List.length_cons, List.length_nil] at h <;> first | omega | (refine .inl ⟨_, _, _, _, rfl, rfl⟩) | (refine .inr (.inl ⟨_, _, _, _, rfl, rfl⟩)) | (refine .inr (.inr ⟨_, _, _, _, rfl, rfl⟩))
  by_cases hl : g.length + c.length = 2
  · rcases cases3 hl with ⟨x1, x2, y1, y2, rfl, rfl⟩ | ⟨x1, x2, y1, y2, rfl, rfl⟩ | ⟨x1, x2, y1, y2, rfl, rfl⟩
    · rw [show List.map (runD (Str.ofString "delete")) [(x1, x2)] ++ List.map (runD (Str.ofString "insert")) [(y1, y2)] = [.tuple [.str (Str.ofString "delete"), .int x1, .int x2], .tuple [.str (Str.ofString "insert"), .int y1, .int y2]] from rfl]
      clear no cases3 hl
      by_cases hm : x2 = y2
      · subst hm
        by_cases hab : x1 = y1
        · subst hab
          rw [show scrollOf [(x1, x2)] [(x1, x2)] = .none by rw [scrollOf_11, if_pos rfl, if_pos rfl]]
          k_call_by "go" 0
          k_call_by "tup3" 0
          k_call_by "go" 0
        · k_call_by "go" 0
          k_call_by "tup3" 0
          k_call_by "go" 0
          by_cases hlt : x1 < y1
          · rw [show scrollOf [(x1, x2)] [(y1, x2)] = .tuple [.int x1, .int (y1 + x2 - 1), .int x2] by rw [scrollOf_11, if_pos rfl, if_neg hab, if_pos hlt]]
            k_call_by "go" 0
          · rw [show scrollOf [(x1, x2)] [(y1, x2)] = .tuple [.int y1, .int (x1 + x2 - 1), .int (-x2)] by rw [scrollOf_11, if_pos rfl, if_neg hab, if_neg hlt]]
            k_call_by "go" 0
      · rw [show scrollOf [(x1, x2)] [(y1, y2)] = .none by rw [scrollOf_11, if_neg hm]]
        k_call_by "go" 0
    · rw [show List.map (runD (Str.ofString "delete")) [(x1, x2), (y1, y2)] ++ List.map (runD (Str.ofString "insert")) [] = [.tuple [.str (Str.ofString "delete"), .int x1, .int x2], .tuple [.str (Str.ofString "delete"), .int y1, .int y2]] from rfl]
      rw [show scrollOf [(x1, x2), (y1, y2)] [] = .none from rfl]
      k_call_by "go" 0
    · rw [show List.map (runD (Str.ofString "delete")) [] ++ List.map (runD (Str.ofString "insert")) [(x1, x2), (y1, y2)] = [.tuple [.str (Str.ofString "insert"), .int x1, .int x2], .tuple [.str (Str.ofString "insert"), .int y1, .int y2]] from rfl]
      rw [show scrollOf [] [(x1, x2), (y1, y2)] = .none from rfl]
      k_call_by "go" 0
  · rw [no hl]
    have hl' : (List.map (runD (Str.ofString "delete")) g ++ List.map (runD (Str.ofString "insert")) c).length ≠ 2 := by simpa using hl
    have hl2 : (List.map (runD (Str.ofString "delete")) g ++ List.map (runD (Str.ofString "insert")) c).length ≤ 10000 := by simp; omega
    clear no cases3
    generalize List.map (runD (Str.ofString "delete")) g ++ List.map (runD (Str.ofString "insert")) c = xs at hl' hl2 ⊢
    k_call_by "go" 0
    refine ⟨fun _ => ?_, fun hb => ?_⟩
    · k_call_by "go" 0
    · exfalso; simp at hb; omega
noncomputable abbrev I_done1 (ss : List Stp) (n : Nat) (rs : List Run) (xs : List PyData) (r : List Run) (σ : Sto) (dk : Dk) : Prop := dk = .none ∧ NoCost σ ∧ σ (Str.ofString "script") = some (.lst false (ss.map Stp.d)) ∧ (∀ x ∈ r, Run.okR n x) ∧ ∃ ys, ys.length = n ∧ σ (Str.ofString "rows") = some (.lst true ys) ∧ r.foldl Run.on ys = rs.foldl Run.on xs
noncomputable abbrev I_done2 (n : Nat) (news : List Nat) (rs : List Run) (xs : List PyData) (r : List Nat) (σ : Sto) (dk : Dk) : Prop := dk = .none ∧ NoCost σ ∧ (∀ x ∈ r, x < n) ∧ ∃ ys : List PyData, ys.length = n ∧ σ (Str.ofString "rows") = some (.lst true ys) ∧ r.foldl (fun ys i => ys.set i .none) ys = news.foldl (fun ys i => ys.set i .none) (rs.foldl Run.on xs)
theorem c_done (G : Gl H0 mg mb) (fl fl2 : Fl) (ss : List Stp) (xs : List PyData) (rs : List Run) (n : Nat) (hs : ss.length ≤ 1000) (hn : n ≤ 1000) (hx : xs.length = n) (hrs : runsOf ss = rs.map Run.d) (hok : ∀ r ∈ rs, Run.okR n r) (news : List Nat) (hd : ss.filterMap Stp.drawn = news.map fun (i : Nat) => .int i) (hnew : ∀ i ∈ news, i < n) :
    FnP prog w H0 mg (k + 2) (nameAt (stmtAt 13)) [.lst fl xs, .lst fl2 (ss.map Stp.d)] fun ρ => ρ = .lst .fresh (news.foldl (fun ys i => ys.set i .none) (rs.foldl Run.on xs)) := by
  have hF9 : FnAt H0 mg (Str.ofString "script_runs") _ _ _ := G.fn 9
  have hF7 : FnAt H0 mg (Str.ofString "script_draws") _ _ _ := G.fn 7
  have hF11 : FnAt H0 mg (Str.ofString "script_run_done") _ _ _ := G.fn 11
  have cR : FnP prog w H0 mg (k + 1) (Str.ofString "script_runs") [.lst .safe (ss.map Stp.d)] fun ρ => ρ = .lst .fresh (runsOf ss) := c_runs G _ ss hs
  have cD : FnP prog w H0 mg (k + 1) (Str.ofString "script_draws") [.lst .safe (ss.map Stp.d)] fun ρ => ρ = .lst .fresh (ss.filterMap Stp.drawn) := c_draws G _ ss hs
  have cO : ∀ (ys : List PyData) (r : Run), ys.length = n → r.okR n → FnP prog w H0 mg (k + 1) (Str.ofString "script_run_done") [.lst .ownd ys, .dat r.d] fun ρ => ρ = .lst .fresh (r.on ys) := fun ys r hy hr => c_run_done G _ ys r n hn hy hr
  refine G.go 13 [Str.ofString "lines", Str.ofString "script"] rfl (fun vs pm cd doc hl => by obtain ⟨v, u, rfl⟩ := len2 hl; rfl) (by decide) (by decide) rfl rfl rfl (by intro ρ h; rcases List.mem_cons.mp h with rfl | h; rfl; rw [List.mem_singleton.mp h]; rfl) ?_
  intro L a cd σ V nc hσ
  have h0 : σ (Str.ofString "lines") = some (.lst false xs) := by rw [hσ]; rfl
  have h1 : σ (Str.ofString "script") = some (.lst false (ss.map Stp.d)) := by rw [hσ]; rfl
  clear hσ
  refine S.cons ?_
  k_call_by "asgO" 0
  k_call_by "go" 0
  refine ⟨_, _, rfl, (by omega), ?_⟩
  k_call_by "go" 0
  k_call_by "for" 0
  refine E.call1 hF9 G.gnd V rfl ?_ rfl (by decide)
  k_call_by "go" 0
  refine cR.eq ?_
  rw [hrs]
  refine ⟨_, _, rfl, (by decide), ?_⟩
  refine ForL.ind (f := Run.d) (I_done1 ss n rs xs) ?_ ?_ rs _ _ ?_
  · rintro r rr σ dk ⟨rfl, nc, h0, hr, ys, hy, h1, hf⟩
    refine ⟨_, rfl, ?_⟩
    refine S.cons ?_
    k_call_by "asgO" 0
    refine E.call2 hF11 G.gnd V rfl ?_ rfl (by decide)
    k_call_by "go" 0
    refine (cO ys r hy (hr r (.head _))).eq ?_
    k_call_by "go" 0
    exact ⟨(by k_call_by "ncs" 0), (by k_call_by "lk" 0), fun x hx => hr x (.tail _ hx), _, Run.on_length hy (hr r (.head _)), (by k_call_by "lk" 0), hf⟩
  · rintro σ dk ⟨rfl, nc, h0, _, ys, hy, h1, hf⟩
    rw [List.foldl_nil] at hf
    subst hf
    k_call_by "go" 0
    k_call_by "for" 0
    refine E.call1 hF7 G.gnd V rfl ?_ rfl (by decide)
    k_call_by "go" 0
    refine cD.eq ?_
    rw [hd]
    refine ⟨_, _, rfl, (by decide), ?_⟩
    refine ForL.ind (f := fun (i : Nat) => PyData.int i) (I_done2 n news rs xs) ?_ ?_ news _ _ ?_
    · rintro i r σ dk ⟨rfl, nc, hr, ys, hy, h1, hf⟩
      refine ⟨_, rfl, ?_⟩
      refine S.cons ?_
      k_call_by "sit" 0
      k_call_by "go" 0
      have hi := hr i (.head _)
      refine ⟨(by omega), (by omega), ?_⟩
      k_call_by "go" 0
      refine ⟨(by k_call_by "ncs" 0), fun x hx => hr x (.tail _ hx), ys.set i .none, (by rw [List.length_set]; exact hy), ?_, hf⟩
      k_call_by "lkq" 0
      unfold setAt
      rw [if_pos (by omega)]; rfl
    · rintro σ dk ⟨rfl, nc, _, ys, hy, h1, hf⟩
      rw [List.foldl_nil] at hf
      subst hf
      k_call_by "go" 0
    · exact ⟨rfl, nc, hnew, _, hy, h1, rfl⟩
  · exact ⟨rfl, (by k_call_by "ncs" 0), (by k_call_by "lk" 0), hok, _, hx, (by k_call_by "lk" 0), rfl⟩
end
end
section -- F6
section
variable {prog : Program} {w : World} {H0 : Heap} {mg mb : Vals} {k : Nat}
noncomputable def pairD (p : Int × Int) : PyData := .tuple [.int p.1, .int p.2]
theorem P1_pair (p : Int × Int) : P1 (pairD p) := ⟨rfl, Nat.le_of_ble_eq_true rfl⟩
noncomputable def joinStep (g : List (Int × Int)) (x : Int) : List (Int × Int) := match g.getLast? with
  | some p => if p.1 + p.2 = x then bump g else g ++ [(x, 1)]
  | .none => [(x, 1)]
theorem joinStep_app (g : List (Int × Int)) (a b x : Int) : joinStep (g ++ [(a, b)]) x = if a + b = x then g ++ [(a, b + 1)] else g ++ [(a, b)] ++ [(x, 1)] := by
  unfold joinStep
  rw [List.getLast?_concat]
  simp only [bump_app]
theorem joinStep_len (g : List (Int × Int)) (x : Int) : (joinStep g x).length ≤ g.length + 1 := by
  rcases List.eq_nil_or_concat g with rfl | ⟨i, p, rfl⟩
  · exact Nat.le_refl _
  · obtain ⟨a, b⟩ := p
    rw [List.concat_eq_append, joinStep_app]
    split <;> simp
noncomputable abbrev I_join (xs : List Int) (r : List Int) (σ : Sto) (dk : Dk) : Prop := dk = .none ∧ NoCost σ ∧ ∃ g : List (Int × Int), r.length + g.length ≤ 1000 ∧ σ (Str.ofString "found") = some (.lst true (g.map pairD)) ∧ r.foldl joinStep g = xs.foldl joinStep []
theorem c_joined (G : Gl H0 mg mb) (fl : Fl) (xs : List Int) (hx : xs.length ≤ 1000) : FnP prog w H0 mg (k + 1) (nameAt (stmtAt 19)) [.lst fl (xs.map .int)] fun ρ => ρ = .lst .fresh ((xs.foldl joinStep []).map pairD) := by
  refine G.go 19 [Str.ofString "numbers"] rfl (fun vs pm cd doc hl => by obtain ⟨v, rfl⟩ := len1 hl; rfl) (by decide) (by decide) rfl rfl rfl (by intro ρ h; rw [List.mem_singleton.mp h]; rfl) ?_
  intro L a cd σ V nc hσ
  have h0 : σ (Str.ofString "numbers") = some (.lst false (xs.map .int)) := by rw [hσ]; rfl
  clear hσ
  refine S.cons ?_
  k_call_by "asgO" 0
  k_call_by "go" 0
  k_call_by "for" 0
  k_call_by "go" 0
  refine ⟨_, _, rfl, (by decide), ?_⟩
  refine ForL.ind (f := PyData.int) (I_join xs) ?_ ?_ xs _ _ ?_
  · rintro x r σ dk ⟨rfl, nc, g, hlen, h1, hf⟩
    have hlen : r.length + 1 + g.length ≤ 1000 := hlen
    have hok : okD (.list (g.map pairD)) := okD_list fun y hy => by obtain ⟨p, _, rfl⟩ := List.mem_map.mp hy; exact P1_pair p
    refine ⟨_, rfl, ?_⟩
    have fin : ∀ σ' : Sto, NoCost σ' → σ' (Str.ofString "found") = some (.lst true ((joinStep g x).map pairD)) → NoCost σ' ∧ ∃ g : List (Int × Int), r.length + g.length ≤ 1000 ∧ σ' (Str.ofString "found") = some (.lst true (g.map pairD)) ∧ r.foldl joinStep g = xs.foldl joinStep [] := by
      intro σ' n' h'
      exact ⟨n', _, by have := joinStep_len g x; omega, h', hf⟩
    rcases List.eq_nil_or_concat g with rfl | ⟨i, ⟨p1, p2⟩, rfl⟩
    · k_call_by "go" 0
      k_call_by "app" 0
      k_call_by "go" 0
      exact fin _ (by k_call_by "ncs" 0) (by k_call_by "lkq" 0; rfl)
    · rw [List.concat_eq_append] at *
      rw [List.map_append] at h1 hok
      have hlast : at? (i.map pairD ++ [(p1, p2)].map pairD) (-1) = some (.tuple [.int p1, .int p2]) := at?_last _ _
      have hne : PyData.eqvAll (i.map pairD ++ [(p1, p2)].map pairD) [] = false := by cases i <;> rfl
      rw [List.length_append, List.length_singleton] at hlen
      have hl1 : (i.map pairD ++ [(p1, p2)].map pairD).length ≤ 10000 := by simp; omega
      rw [joinStep_app] at fin
      by_cases he : p1 + p2 = x
      · rw [if_pos he] at fin
        k_call_by "go" 0
        refine ⟨fun hb => ?_, fun _ => ?_⟩
        · rw [hne] at hb; cases hb
        k_call_by "go" 0
        refine ⟨_, SubR.lst _ _ _ _ (by decide) (by decide) hlast, ?_⟩
        k_call_by "go" 0
        refine ⟨_, SubR.lst _ _ _ _ (by decide) (by decide) hlast, ?_⟩
        k_call_by "go" 0
        k_call_by "sit" 0
        k_call_by "go" 0
        refine ⟨_, SubR.lst _ _ _ _ (by decide) (by decide) hlast, ?_⟩
        k_call_by "go" 0
        refine ⟨_, SubR.lst _ _ _ _ (by decide) (by decide) hlast, ?_⟩
        k_call_by "go" 0
        refine ⟨(by simp only [List.length_append, List.length_map, List.length_singleton]; omega), (by simp only [List.length_append, List.length_map, List.length_singleton]; omega), ?_⟩
        k_call_by "go" 0
        exact fin _ (by k_call_by "ncs" 0) (by k_call_by "lkq" 0; rw [List.map_append]; exact congrArg _ (setAt_last _ _ _))
      · rw [if_neg he] at fin
        k_call_by "go" 0
        refine ⟨fun hb => ?_, fun _ => ?_⟩
        · rw [hne] at hb; cases hb
        k_call_by "go" 0
        refine ⟨_, SubR.lst _ _ _ _ (by decide) (by decide) hlast, ?_⟩
        k_call_by "go" 0
        refine ⟨_, SubR.lst _ _ _ _ (by decide) (by decide) hlast, ?_⟩
        k_call_by "go" 0
        k_call_by "app" 0
        k_call_by "go" 0
        exact fin _ (by k_call_by "ncs" 0) (by k_call_by "lkq" 0; rw [List.map_append, List.map_append]; rfl)
  · rintro σ dk ⟨rfl, nc, g, hlen, h1, hf⟩
    rw [List.foldl_nil] at hf
    subst hf
    k_call_by "go" 0
  · exact ⟨rfl, (by k_call_by "ncs" 0), [], hx, (by k_call_by "lkq" 0; rfl), rfl⟩
end
end
section -- F7
section
variable {prog : Program} {w : World} {H0 : Heap} {mg mb : Vals} {k : Nat}
noncomputable def turnStep (t : List (Int × Int) × Int) (p : Int × Int) : List (Int × Int) × Int := (t.1 ++ [(p.1 - t.2, p.2)], t.2 + p.2)
noncomputable def turnsOf (g c : List (Int × Int)) : List PyData := (g.foldl turnStep ([], 0)).1.map (runD (Str.ofString "delete")) ++ c.map (runD (Str.ofString "insert"))
noncomputable abbrev I_turns (c : List (Int × Int)) (g : List (Int × Int)) (r : List (Int × Int)) (σ : Sto) (dk : Dk) : Prop := dk = .none ∧ NoCost σ ∧ σ (Str.ofString "come") = some (.lst false (c.map pairD)) ∧ ∃ t : List (Int × Int) × Int, r.length + t.1.length ≤ 1000 ∧ σ (Str.ofString "found") = some (.lst true (t.1.map (runD (Str.ofString "delete")))) ∧ σ (Str.ofString "less") = some (.dat (.int t.2)) ∧ r.foldl turnStep t = g.foldl turnStep ([], 0)
theorem c_turns (G : Gl H0 mg mb) (fl fl2 : Fl) (g c : List (Int × Int)) (hg : g.length ≤ 1000) (hc : c.length ≤ 1000) : FnP prog w H0 mg (k + 1) (nameAt (stmtAt 20)) [.lst fl (g.map pairD), .lst fl2 (c.map pairD)] fun ρ => ρ = .lst .fresh (turnsOf g c) := by
  refine G.go 20 [Str.ofString "gone", Str.ofString "come"] rfl (fun vs pm cd doc hl => by obtain ⟨v, u, rfl⟩ := len2 hl; rfl) (by decide) (by decide) rfl rfl rfl (by intro ρ h; rcases List.mem_cons.mp h with rfl | h; rfl; rw [List.mem_singleton.mp h]; rfl) ?_
  intro L a cd σ V nc hσ
  have h0 : σ (Str.ofString "gone") = some (.lst false (g.map pairD)) := by rw [hσ]; rfl
  have h1 : σ (Str.ofString "come") = some (.lst false (c.map pairD)) := by rw [hσ]; rfl
  clear hσ
  refine S.cons ?_
  refine S.tup2 true false V ⟨by decide, .inl rfl⟩ ⟨by decide, .inl rfl⟩ rfl rfl rfl ?_
  k_call_by "go" 0
  k_call_by "for" 0
  k_call_by "go" 0
  refine ⟨_, _, rfl, (by decide), ?_⟩
  refine ForL.ind (f := pairD) (I_turns c g) ?_ ?_ g _ _ ?_
  · rintro p r σ dk ⟨rfl, nc, h1, ⟨t, m⟩, hlen, h2, h3, hf⟩
    have hlen : r.length + 1 + t.length ≤ 1000 := hlen
    refine ⟨_, rfl, ?_⟩
    obtain ⟨p1, p2⟩ := p
    have n2 : NoCost (setAll σ [Str.ofString "first", Str.ofString "many"] ([PyData.int p1, PyData.int p2].map .dat)) := nc.all (by simp [Ent.noCost])
    k_call_by "go" 0
    k_call_by "app" 0
    k_call_by "go" 0
    k_call_by "asg" 0
    k_call_by "go" 0
    exact ⟨(by k_call_by "ncs" 0), (by k_call_by "lk" 0), turnStep (t, m) (p1, p2), (by simp only [turnStep, List.length_append, List.length_singleton]; omega), (by k_call_by "lkq" 0; unfold turnStep; rw [List.map_append]; rfl), (by k_call_by "lkq" 0; rfl), hf⟩
  · rintro σ dk ⟨rfl, nc, h1, t, hlen, h2, h3, hf⟩
    rw [List.foldl_nil] at hf
    subst hf
    simp only [List.length_nil] at hlen
    k_call_by "go" 0
    k_call_by "cmp0" 0
    k_call_by "go" 0
    refine ⟨_, _, rfl, (by rw [List.length_map]; omega), fun C V' => ?_⟩
    clear V
    refine CompL.map (f := pairD) (g := fun p => some (runD (Str.ofString "insert") p)) (fun p hp => ⟨_, rfl, ?_⟩) ?_
    · obtain ⟨p1, p2⟩ := p
      k_call_by "go" 0
    · rw [List.filterMap_eq_map']
      refine ⟨_, BinR.cat _ _ _ _ (by rw [List.length_map, List.length_map]; omega), ?_⟩
      k_call_by "go" 0
  · exact ⟨rfl, (by k_call_by "ncs" 0), (by k_call_by "lk" 0), ([], 0), hg, (by k_call_by "lkq" 0; rfl), (by k_call_by "lkq" 0; rfl), rfl⟩
noncomputable def lscrollOf (g c : List (Int × Int)) : PyData := match g, c with
  | [(a, m)], [(b, _)] => if a = b then .none else if a < b then .tuple [.int a, .int (b + m - 1), .int m] else .tuple [.int b, .int (a + m - 1), .int (-m)]
  | _, _ => .none
theorem lscrollOf_11 (a m b n : Int) : lscrollOf [(a, m)] [(b, n)] = if a = b then .none else if a < b then .tuple [.int a, .int (b + m - 1), .int m] else .tuple [.int b, .int (a + m - 1), .int (-m)] := rfl
theorem c_lscroll (G : Gl H0 mg mb) (fl fl2 : Fl) (g c : List (Int × Int)) (hg : g.length ≤ 1000) (hc : c.length ≤ 1000) : FnP prog w H0 mg (k + 1) (nameAt (stmtAt 21)) [.lst fl (g.map pairD), .lst fl2 (c.map pairD)] fun ρ => ρ = .dat (lscrollOf g c) := by
  refine G.go 21 [Str.ofString "gone", Str.ofString "come"] rfl (fun vs pm cd doc hl => by obtain ⟨v, u, rfl⟩ := len2 hl; rfl) (by decide) (by decide) rfl rfl rfl (by intro ρ h; rcases List.mem_cons.mp h with rfl | h; rfl; rw [List.mem_singleton.mp h]; rfl) ?_
  intro L a cd σ V nc hσ
  have h0 : σ (Str.ofString "gone") = some (.lst false (g.map pairD)) := by rw [hσ]; rfl
  have h1 : σ (Str.ofString "come") = some (.lst false (c.map pairD)) := by rw [hσ]; rfl
  clear hσ
  have no1 : g.length ≠ 1 → lscrollOf g c = .none := by
    intro h
    match g, c, h with
    | [], _, _ => rfl
    | [_], _, h => exact absurd rfl h
    | _ :: _ :: _, _, _ => rfl
  have no2 : g.length = 1 → c.length ≠ 1 → lscrollOf g c = .none := by
    intro h0 h
    match g, c, h0, h with
    | [_], [], _, _ => rfl
    | [_], [_], _, h => exact absurd rfl h
    | [_], _ :: _ :: _, _, _ => rfl
  by_cases hgl : g.length = 1
  · by_cases hcl : c.length = 1
    · obtain ⟨⟨x1, x2⟩, rfl⟩ := List.length_eq_one_iff.mp hgl
      obtain ⟨⟨y1, y2⟩, rfl⟩ := List.length_eq_one_iff.mp hcl
      clear no1 no2 hgl hcl hg hc
      have h0 : σ (Str.ofString "gone") = some (.lst false [.tuple [.int x1, .int x2]]) := h0
      have h1 : σ (Str.ofString "come") = some (.lst false [.tuple [.int y1, .int y2]]) := h1
      refine S.cons ?_
      by_cases hab : x1 = y1
      · subst hab
        rw [show lscrollOf [(x1, x2)] [(x1, y2)] = .none by rw [lscrollOf_11, if_pos rfl]]
        k_call_by "go" 0
      · k_call_by "go" 0
        k_call_by "tup3" 0
        k_call_by "go" 0
        by_cases hlt : x1 < y1
        · rw [show lscrollOf [(x1, x2)] [(y1, y2)] = .tuple [.int x1, .int (y1 + x2 - 1), .int x2] by rw [lscrollOf_11, if_neg hab, if_pos hlt]]
          k_call_by "go" 0
        · rw [show lscrollOf [(x1, x2)] [(y1, y2)] = .tuple [.int y1, .int (x1 + x2 - 1), .int (-x2)] by rw [lscrollOf_11, if_neg hab, if_neg hlt]]
          k_call_by "go" 0
    · rw [no2 hgl hcl]
      have hgl' : (g.map pairD).length = 1 := by simpa using hgl
      have hcl' : (c.map pairD).length ≠ 1 := by simpa using hcl
      have hg' : (g.map pairD).length ≤ 1000 := by simpa using hg
      have hc' : (c.map pairD).length ≤ 1000 := by simpa using hc
      clear no1 no2 hgl hcl
      generalize g.map pairD = gs at h0 hgl' hg'
      generalize c.map pairD = cs at h1 hcl' hc'
      clear hg hc
      refine S.cons ?_
      k_call_by "go" 0
      refine ⟨fun _ => ?_, fun hb => ?_⟩
      · k_call_by "go" 0
      · exfalso; simp at hb; omega
  · rw [no1 hgl]
    have hgl' : (g.map pairD).length ≠ 1 := by simpa using hgl
    have hg' : (g.map pairD).length ≤ 1000 := by simpa using hg
    clear no1 no2 hgl
    generalize g.map pairD = gs at h0 hgl' hg'
    clear hg hc
    refine S.cons ?_
    k_call_by "go" 0
    refine ⟨fun _ => ?_, fun hb => ?_⟩
    · k_call_by "go" 0
    · exfalso; simp at hb; omega
end
end
section -- F8
section
variable {prog : Program} {w : World} {H0 : Heap} {mg mb : Vals} {k : Nat}
noncomputable def pick (xs : List PyData) (i : Int) : PyData := xs.getD i.toNat .none
theorem at?_pick {xs : List PyData} {i : Int} (h0 : 0 ≤ i) (h : i < xs.length) : at? xs i = some (pick xs i) := by
  rw [at?_pos h0]
  unfold pick
  rw [List.getD_eq_getElem?_getD, List.getElem?_eq_getElem (by omega)]; rfl
/-- a row of a scroll -/
noncomputable def shiftAt (xs : List PyData) (top bot many : Int) (i : Nat) : PyData :=
  if top ≤ (i : Int) ∧ (i : Int) ≤ bot then (if top ≤ (i : Int) + many ∧ (i : Int) + many ≤ bot then pick xs ((i : Int) + many) else .none) else pick xs i
noncomputable abbrev I_shift (xs : List PyData) (top : Int) (bot : Int) (many : Int) (n : Nat) (r : List Nat) (σ : Sto) (dk : Dk) : Prop := dk = .none ∧ NoCost σ ∧ σ (Str.ofString "rows") = some (.lst false xs) ∧ σ (Str.ofString "top") = some (.dat (.int top)) ∧ σ (Str.ofString "bottom") = some (.dat (.int bot)) ∧ σ (Str.ofString "many") = some (.dat (.int many)) ∧ (∀ i ∈ r, i < n) ∧ ∃ ys : List PyData, r.length + ys.length ≤ 1000 ∧ σ (Str.ofString "found") = some (.lst true ys) ∧ ys ++ r.map (shiftAt xs top bot many) = (List.range n).map (shiftAt xs top bot many)
theorem c_shifted (G : Gl H0 mg mb) (fl : Fl) (xs : List PyData) (top bot many : Int) (n : Nat) (hx : xs.length = n) (hn : n ≤ 1000) (ht : 0 ≤ top) (hb : bot < n) :
    FnP prog w H0 mg (k + 1) (nameAt (stmtAt 22)) [.lst fl xs, .dat (.tuple [.int top, .int bot, .int many])] fun ρ => ρ = .lst .fresh ((List.range n).map (shiftAt xs top bot many)) := by
  refine G.go 22 [Str.ofString "rows", Str.ofString "told"] rfl (fun vs pm cd doc hl => by obtain ⟨v, u, rfl⟩ := len2 hl; rfl) (by decide) (by decide) rfl rfl rfl (by intro ρ h; rcases List.mem_cons.mp h with rfl | h; rfl; rw [List.mem_singleton.mp h]; rfl) ?_
  intro L a cd σ V nc hσ
  have h0 : σ (Str.ofString "rows") = some (.lst false xs) := by rw [hσ]; rfl
  have h1 : σ (Str.ofString "told") = some (.dat (.tuple [.int top, .int bot, .int many])) := by rw [hσ]; rfl
  clear hσ
  refine S.cons ?_
  k_call_by "unp3" 0
  k_call_by "go" 0
  refine ⟨_, _, _, rfl, ?_⟩
  k_call_by "go" 0
  k_call_by "asgO" 0
  k_call_by "go" 0
  (((with_reducible refine S.forRange (Gl.gnd ‹Gl _ _ _›) ‹EnvOk _› ?kd ?n1 ?_ ?hn ?hs); (case kd => rfl); (case hs => (intro _; rfl)); (case hn => rfl); (case n1 => k_call_by "nk" 0)))
  k_call_by "go" 0
  refine ⟨(by omega), ?_⟩
  rw [hx]
  unfold rangeD
  refine ForL.ind (f := fun (i : Nat) => PyData.int i) (I_shift xs top bot many n) ?_ ?_ (List.range n) _ _ ?_
  · rintro i r σ dk ⟨rfl, nc, h0, h1, h2, h3, hr, ys, hlen, h4, hf⟩
    have hlen : r.length + 1 + ys.length ≤ 1000 := hlen
    have hi : i < n := hr i (.head _)
    have hr' : ∀ i ∈ r, i < n := fun j hj => hr j (.tail _ hj)
    have fin : ∀ σ' : Sto, NoCost σ' → σ' (Str.ofString "rows") = some (.lst false xs) → σ' (Str.ofString "top") = some (.dat (.int top)) → σ' (Str.ofString "bottom") = some (.dat (.int bot)) → σ' (Str.ofString "many") = some (.dat (.int many)) → σ' (Str.ofString "found") = some (.lst true (ys ++ [shiftAt xs top bot many i])) →
        NoCost σ' ∧ σ' (Str.ofString "rows") = some (.lst false xs) ∧ σ' (Str.ofString "top") = some (.dat (.int top)) ∧ σ' (Str.ofString "bottom") = some (.dat (.int bot)) ∧ σ' (Str.ofString "many") = some (.dat (.int many)) ∧ (∀ i ∈ r, i < n) ∧ ∃ ys : List PyData, r.length + ys.length ≤ 1000 ∧ σ' (Str.ofString "found") = some (.lst true ys) ∧ ys ++ r.map (shiftAt xs top bot many) = (List.range n).map (shiftAt xs top bot many) := by
      intro σ' n' h0' h1' h2' h3' h4'
      exact ⟨n', h0', h1', h2', h3', hr', _, by rw [List.length_append, List.length_singleton]; omega, h4', by rw [List.append_assoc]; exact hf⟩
    refine ⟨_, rfl, ?_⟩
    clear hf hr hr'
    by_cases c1 : top ≤ (i : Int) ∧ (i : Int) ≤ bot
    · obtain ⟨c1, c2⟩ := c1
      by_cases c3 : top ≤ (i : Int) + many ∧ (i : Int) + many ≤ bot
      · have e : shiftAt xs top bot many i = pick xs ((i : Int) + many) := by unfold shiftAt; rw [if_pos ⟨c1, c2⟩, if_pos c3]
        obtain ⟨c3, c4⟩ := c3
        k_call_by "go" 0
        k_call_by "asg" 0
        k_call_by "go" 0
        k_call_by "app" 0
        k_call_by "go" 0
        refine ⟨_, SubR.lst _ _ _ _ (by omega) (by omega) (at?_pick (by omega) (by omega)), ?_⟩
        k_call_by "go" 0
        exact fin _ (by k_call_by "ncs" 0) (by k_call_by "lk" 0) (by k_call_by "lk" 0) (by k_call_by "lk" 0) (by k_call_by "lk" 0) (by k_call_by "lkq" 0; rw [e])
      · have e : shiftAt xs top bot many i = .none := by unfold shiftAt; rw [if_pos ⟨c1, c2⟩, if_neg c3]
        k_call_by "go" 0
        k_call_by "asg" 0
        k_call_by "go" 0
        k_call_by "app" 0
        by_cases c4 : top ≤ (i : Int) + many
        · have c5 : ¬ (i : Int) + many ≤ bot := fun h => c3 ⟨c4, h⟩
          clear c3
          k_call_by "go" 0
          exact fin _ (by k_call_by "ncs" 0) (by k_call_by "lk" 0) (by k_call_by "lk" 0) (by k_call_by "lk" 0) (by k_call_by "lk" 0) (by k_call_by "lkq" 0; rw [e])
        · clear c3
          k_call_by "go" 0
          exact fin _ (by k_call_by "ncs" 0) (by k_call_by "lk" 0) (by k_call_by "lk" 0) (by k_call_by "lk" 0) (by k_call_by "lk" 0) (by k_call_by "lkq" 0; rw [e])
    · have e : shiftAt xs top bot many i = pick xs i := by unfold shiftAt; rw [if_neg c1]
      k_call_by "go" 0
      k_call_by "asg" 0
      by_cases c4 : top ≤ (i : Int)
      · have c5 : ¬ (i : Int) ≤ bot := fun h => c1 ⟨c4, h⟩
        clear c1
        k_call_by "go" 0
        k_call_by "app" 0
        k_call_by "go" 0
        refine ⟨_, SubR.lst _ _ _ _ (by omega) (by omega) (at?_pick (by omega) (by omega)), ?_⟩
        k_call_by "go" 0
        exact fin _ (by k_call_by "ncs" 0) (by k_call_by "lk" 0) (by k_call_by "lk" 0) (by k_call_by "lk" 0) (by k_call_by "lk" 0) (by k_call_by "lkq" 0; rw [e])
      · clear c1
        k_call_by "go" 0
        k_call_by "app" 0
        k_call_by "go" 0
        refine ⟨_, SubR.lst _ _ _ _ (by omega) (by omega) (at?_pick (by omega) (by omega)), ?_⟩
        k_call_by "go" 0
        exact fin _ (by k_call_by "ncs" 0) (by k_call_by "lk" 0) (by k_call_by "lk" 0) (by k_call_by "lk" 0) (by k_call_by "lk" 0) (by k_call_by "lkq" 0; rw [e])
  · rintro σ dk ⟨rfl, nc, h0, h1, h2, h3, _, ys, hlen, h4, hf⟩
    rw [List.map_nil, List.append_nil] at hf
    subst hf
    k_call_by "go" 0
  · exact ⟨rfl, (by k_call_by "ncs" 0), (by k_call_by "lk" 0), (by k_call_by "lk" 0), (by k_call_by "lk" 0), (by k_call_by "lk" 0), (fun i hi => List.mem_range.mp hi), [], (by rw [List.length_range]; exact hn), (by k_call_by "lk" 0), rfl⟩
end
end
section -- F9
section
variable {prog : Program} {w : World} {H0 : Heap} {mg mb : Vals} {k : Nat}
noncomputable def wordOf (del : Bool) : Str := if del then Str.ofString "delete" else Str.ofString "insert"
/-- a row of a run -/
noncomputable def pushAt (xs : List PyData) (del : Bool) (first many : Int) (i : Nat) : PyData :=
  if (i : Int) < first then pick xs i else
    if first ≤ (if del then (i : Int) + many else (i : Int) - many) ∧ (if del then (i : Int) + many else (i : Int) - many) < xs.length then pick xs (if del then (i : Int) + many else (i : Int) - many) else .none
noncomputable abbrev I_push (xs : List PyData) (del : Bool) (first : Int) (many : Int) (n : Nat) (r : List Nat) (σ : Sto) (dk : Dk) : Prop := dk = .none ∧ NoCost σ ∧ σ (Str.ofString "rows") = some (.lst false xs) ∧ σ (Str.ofString "word") = some (.dat (.str (wordOf del))) ∧ σ (Str.ofString "first") = some (.dat (.int first)) ∧ σ (Str.ofString "many") = some (.dat (.int many)) ∧ (∀ i ∈ r, i < n) ∧ ∃ ys : List PyData, r.length + ys.length ≤ 1000 ∧ σ (Str.ofString "found") = some (.lst true ys) ∧ ys ++ r.map (pushAt xs del first many) = (List.range n).map (pushAt xs del first many)
theorem c_pushed (G : Gl H0 mg mb) (fl : Fl) (xs : List PyData) (del : Bool) (first many : Int) (n : Nat) (hx : xs.length = n) (hn : n ≤ 1000) (ht : 0 ≤ first) :
    FnP prog w H0 mg (k + 1) (nameAt (stmtAt 23)) [.lst fl xs, .dat (.str (wordOf del)), .dat (.int first), .dat (.int many)] fun ρ => ρ = .lst .fresh ((List.range n).map (pushAt xs del first many)) := by
  refine G.go 23 [Str.ofString "rows", Str.ofString "word", Str.ofString "first", Str.ofString "many"] rfl (fun vs pm cd doc hl => by obtain ⟨v, u, t, s, rfl⟩ := len4 hl; rfl) (by decide) (by decide) rfl rfl rfl (by intro ρ h; rcases List.mem_cons.mp h with rfl | h; rfl; rcases List.mem_cons.mp h with rfl | h; rfl; rcases List.mem_cons.mp h with rfl | h; rfl; rw [List.mem_singleton.mp h]; rfl) ?_
  intro L a cd σ V nc hσ
  have h0 : σ (Str.ofString "rows") = some (.lst false xs) := by rw [hσ]; rfl
  have h1 : σ (Str.ofString "word") = some (.dat (.str (wordOf del))) := by rw [hσ]; rfl
  have h2 : σ (Str.ofString "first") = some (.dat (.int first)) := by rw [hσ]; rfl
  have h3 : σ (Str.ofString "many") = some (.dat (.int many)) := by rw [hσ]; rfl
  clear hσ
  refine S.cons ?_
  k_call_by "asgO" 0
  k_call_by "go" 0
  (((with_reducible refine S.forRange (Gl.gnd ‹Gl _ _ _›) ‹EnvOk _› ?kd ?n1 ?_ ?hn ?hs); (case kd => rfl); (case hs => (intro _; rfl)); (case hn => rfl); (case n1 => k_call_by "nk" 0)))
  k_call_by "go" 0
  refine ⟨(by omega), ?_⟩
  rw [hx]
  unfold rangeD
  refine ForL.ind (f := fun (i : Nat) => PyData.int i) (I_push xs del first many n) ?_ ?_ (List.range n) _ _ ?_
  · rintro i r σ dk ⟨rfl, nc, h0, h1, h2, h3, hr, ys, hlen, h4, hf⟩
    have hlen : r.length + 1 + ys.length ≤ 1000 := hlen
    have hi : i < n := hr i (.head _)
    have hr' : ∀ i ∈ r, i < n := fun j hj => hr j (.tail _ hj)
    have fin : ∀ σ' : Sto, NoCost σ' → σ' (Str.ofString "rows") = some (.lst false xs) → σ' (Str.ofString "word") = some (.dat (.str (wordOf del))) → σ' (Str.ofString "first") = some (.dat (.int first)) → σ' (Str.ofString "many") = some (.dat (.int many)) → σ' (Str.ofString "found") = some (.lst true (ys ++ [pushAt xs del first many i])) →
        NoCost σ' ∧ σ' (Str.ofString "rows") = some (.lst false xs) ∧ σ' (Str.ofString "word") = some (.dat (.str (wordOf del))) ∧ σ' (Str.ofString "first") = some (.dat (.int first)) ∧ σ' (Str.ofString "many") = some (.dat (.int many)) ∧ (∀ i ∈ r, i < n) ∧ ∃ ys : List PyData, r.length + ys.length ≤ 1000 ∧ σ' (Str.ofString "found") = some (.lst true ys) ∧ ys ++ r.map (pushAt xs del first many) = (List.range n).map (pushAt xs del first many) := by
      intro σ' n' h0' h1' h2' h3' h4'
      exact ⟨n', h0', h1', h2', h3', hr', _, by rw [List.length_append, List.length_singleton]; omega, h4', by rw [List.append_assoc]; exact hf⟩
    refine ⟨_, rfl, ?_⟩
    clear hf hr hr'
    have c0 : ∀ o : Int, o = (if del then (i : Int) + many else (i : Int) - many) → S prog w H0 k (fe 23 L a cd) ((σ.set (Str.ofString "at") (.dat (.int i))).set (Str.ofString "origin") (.dat (.int o))) .none (execs (((bodyOf (stmtAt 23))[1]?.map fun s => match s with | .For _ _ b _ _ => b | _ => []).getD []).tail (fe 23 L a cd)) (fun x => match x with
      | .next σ' dk' => dk' = .none ∧ NoCost σ' ∧ σ' (Str.ofString "rows") = some (.lst false xs) ∧ σ' (Str.ofString "word") = some (.dat (.str (wordOf del))) ∧ σ' (Str.ofString "first") = some (.dat (.int first)) ∧ σ' (Str.ofString "many") = some (.dat (.int many)) ∧ (∀ i ∈ r, i < n) ∧ ∃ ys : List PyData, r.length + ys.length ≤ 1000 ∧ σ' (Str.ofString "found") = some (.lst true ys) ∧ ys ++ r.map (pushAt xs del first many) = (List.range n).map (pushAt xs del first many)
      | .ret ρ dk' => Then prog w H0 k (fe 23 L a cd) ((bodyOf (stmtAt 23)).drop 2) (fun o => match o with | .ret ρ _ => ρ.isNew = true ∧ ρ = .lst .fresh ((List.range n).map (pushAt xs del first many)) | .next .. => Res.dat .none = .lst .fresh ((List.range n).map (pushAt xs del first many))) (.ret ρ dk')) := by
      intro o ho
      refine S.cons ?_
      by_cases c1 : (i : Int) < first
      · have e : pushAt xs del first many i = pick xs i := by unfold pushAt; rw [if_pos c1]
        k_call_by "go" 0
        k_call_by "app" 0
        k_call_by "go" 0
        refine ⟨_, SubR.lst _ _ _ _ (by omega) (by omega) (at?_pick (by omega) (by omega)), ?_⟩
        k_call_by "go" 0
        exact fin _ (by k_call_by "ncs" 0) (by k_call_by "lk" 0) (by k_call_by "lk" 0) (by k_call_by "lk" 0) (by k_call_by "lk" 0) (by k_call_by "lkq" 0; rw [e])
      · by_cases c3 : first ≤ o ∧ o < n
        · have e : pushAt xs del first many i = pick xs o := by unfold pushAt; rw [if_neg c1, ← ho, hx, if_pos c3]
          clear ho
          obtain ⟨c3, c4⟩ := c3
          k_call_by "go" 0
          k_call_by "app" 0
          k_call_by "go" 0
          refine ⟨_, SubR.lst _ _ _ _ (by omega) (by omega) (at?_pick (by omega) (by omega)), ?_⟩
          k_call_by "go" 0
          exact fin _ (by k_call_by "ncs" 0) (by k_call_by "lk" 0) (by k_call_by "lk" 0) (by k_call_by "lk" 0) (by k_call_by "lk" 0) (by k_call_by "lkq" 0; rw [e])
        · have e : pushAt xs del first many i = .none := by unfold pushAt; rw [if_neg c1, ← ho, hx, if_neg c3]
          clear ho
          by_cases c4 : first ≤ o
          · have c5 : ¬ o < n := fun h => c3 ⟨c4, h⟩
            clear c3
            k_call_by "go" 0
            k_call_by "app" 0
            k_call_by "go" 0
            exact fin _ (by k_call_by "ncs" 0) (by k_call_by "lk" 0) (by k_call_by "lk" 0) (by k_call_by "lk" 0) (by k_call_by "lk" 0) (by k_call_by "lkq" 0; rw [e])
          · clear c3
            k_call_by "go" 0
            k_call_by "app" 0
            k_call_by "go" 0
            exact fin _ (by k_call_by "ncs" 0) (by k_call_by "lk" 0) (by k_call_by "lk" 0) (by k_call_by "lk" 0) (by k_call_by "lk" 0) (by k_call_by "lkq" 0; rw [e])
    refine S.cons ?_
    k_call_by "asg" 0
    cases del with
    | true =>
      have h1 : σ (Str.ofString "word") = some (.dat (.str (Str.ofString "delete"))) := h1
      k_call_by "gx" 0
      exact c0 _ (if_pos rfl).symm
    | false =>
      have h1 : σ (Str.ofString "word") = some (.dat (.str (Str.ofString "insert"))) := h1
      k_call_by "gx" 0
      exact c0 _ (if_neg Bool.false_ne_true).symm
  · rintro σ dk ⟨rfl, nc, h0, h1, h2, h3, _, ys, hlen, h4, hf⟩
    rw [List.map_nil, List.append_nil] at hf
    subst hf
    k_call_by "go" 0
  · exact ⟨rfl, (by k_call_by "ncs" 0), (by k_call_by "lk" 0), (by k_call_by "lk" 0), (by k_call_by "lk" 0), (by k_call_by "lk" 0), (fun i hi => List.mem_range.mp hi), [], (by rw [List.length_range]; exact hn), (by k_call_by "lk" 0), rfl⟩
end
end
section -- F10
section
variable {prog : Program} {w : World} {H0 : Heap} {mg mb : Vals} {k : Nat}
theorem Gl.goD (G : Gl H0 mg mb) (j : Nat) (ns : List Str) {c : List Int} {t : Int} {args : List Res} {P : Res → List Int → Int → Prop} (hl : ns.length = args.length)
    (hbind : ∀ (vs : List Value) (pm cd doc : Value), vs.length = (deckName :: ns).length → bindArgs (docDef (nameAt (stmtAt j)) (argsOf (stmtAt j)) (bodyOf (stmtAt j)) (scopeOf (stmtAt j)) pm cd doc) ⟨vs, []⟩ = pure ((deckName :: ns).zip vs))
    (hloc : ∀ x ∈ deckName :: ns, (scopeOf (stmtAt j)).names.lookup x = some .local) (hnd : deckName ∉ ns) (hcell : ∀ x ∈ (scopeOf (stmtAt j)).names, x.2 ≠ .cell) (hco : (scopeOf (stmtAt j)).isCoroutine = false) (hgen : (scopeOf (stmtAt j)).isGenerator = false) (hk : (scopeOf (stmtAt j)).kind = .function)
    (hnc : ∀ ρ ∈ args, ρ.ent.noCost = true)
    (h : ∀ L a cd l σ, EnvOk (fe j L a cd) → NoCost σ → σ = setAll noSto ns (args.map Res.ent) → S prog w H0 k (fe j L a cd) σ (some (l, c, t)) (execs (bodyOf (stmtAt j)) (fe j L a cd)) fun o => match o with | .ret ρ dk' => ρ.isNew = true ∧ ∃ c' t', dk' = some (l, c', t') ∧ P ρ c' t' | .next .. => False) (hj : fnIdx j = true := by rfl) :
    FnD prog w H0 mg (k + 1) (nameAt (stmtAt j)) c t args P :=
  FnD.intro G.gnd (G.fn j hj) hl hbind hloc hnd hcell hco hgen hk fun L a cd l => h L a cd l _ (fenv_ok _ _ _ _ _ hk) (noSto_nc.all fun e he => let ⟨ρ, h1, h2⟩ := List.mem_map.mp he; h2 ▸ hnc ρ h1) rfl
theorem c_draw (G : Gl H0 mg mb) (c : List Int) (t below : Int) (hc : c.length ≤ 100) (ht : 0 ≤ t) (ht2 : t ≤ 1000) (hb : 0 < below) : FnD prog w H0 mg (k + 1) (nameAt (stmtAt 16)) c t [.dat (.int below)] fun ρ c' t' => c' = c ∧ t' = t + 1 ∧ ∃ v, ρ = .dat (.int v) ∧ 0 ≤ v ∧ v < below := by
  refine G.goD 16 [Str.ofString "below"] rfl (fun vs pm cd doc hl => by obtain ⟨v, u, rfl⟩ := len2 hl; rfl) (by decide) (by decide) (by decide) rfl rfl rfl (by intro ρ h; rw [List.mem_singleton.mp h]; rfl) ?_
  intro L a cd l σ V nc hσ
  have h0 : σ (Str.ofString "below") = some (.dat (.int below)) := by rw [hσ]; rfl
  clear hσ
  refine S.cons ?_
  k_call_by "tup2" 0
  k_call_by "go" 0
  (((with_reducible refine S.deckSet' ‹EnvOk _› ?kd ?nc ?_ ?hs); (case kd => k_call_by "kd" 0); (case nc => k_call_by "ncs" 0); (case hs => rfl)))
  k_call_by "go" 0
  refine ⟨fun hlt => ?_, fun hge => ?_⟩
  · simp at hlt
    k_call_by "go" 0
    have hi : t.toNat < c.length := by omega
    refine ⟨_, SubR.lst _ _ _ (.int c[t.toNat]) (by omega) (by omega) (by rw [at?_pos ht, List.getElem?_map, List.getElem?_eq_getElem hi]; rfl), ?_⟩
    k_call_by "go" 0
    exact ⟨_, _, rfl, rfl, rfl, _, rfl, Int.fmod_nonneg_of_pos _ hb, Int.fmod_lt_of_pos _ hb⟩
  · have okc : okD (.list (c.map .int)) := okD_list fun y hy => by obtain ⟨p, _, rfl⟩ := List.mem_map.mp hy; exact P1_int p
    simp at hge
    k_call_by "go" 0
    refine ⟨fun hlt => ?_, fun hne => ?_⟩
    · k_call_by "go" 0
      exact ⟨_, _, rfl, rfl, rfl, _, rfl, Int.fmod_nonneg_of_pos _ hb, Int.fmod_lt_of_pos _ hb⟩
    · have hc0 : c ≠ [] := by rintro rfl; cases hne
      have hc1 : 0 < c.length := List.length_pos_iff.mpr hc0
      k_call_by "go" 0
      have hm0 : 0 ≤ t.fmod c.length := Int.fmod_nonneg_of_pos _ (by omega)
      have hm1 : t.fmod c.length < c.length := Int.fmod_lt_of_pos _ (by omega)
      refine ⟨_, BinR.fmod _ _ (by rw [List.length_map]; omega), ?_⟩
      rw [List.length_map]
      generalize t.fmod c.length = i at hm0 hm1 ⊢
      have hi : i.toNat < c.length := by omega
      refine ⟨_, SubR.lst _ _ _ (.int c[i.toNat]) (by omega) (by omega) (by rw [at?_pos hm0, List.getElem?_map, List.getElem?_eq_getElem hi]; rfl), ?_⟩
      k_call_by "go" 0
      exact ⟨_, _, rfl, rfl, rfl, _, rfl, Int.fmod_nonneg_of_pos _ hb, Int.fmod_lt_of_pos _ hb⟩
theorem c_deck (G : Gl H0 mg mb) (fl : Fl) (ns : List Int) (hn : ns.length ≤ 1000) : FnP prog w H0 mg (k + 1) (nameAt (stmtAt 15)) [.lst fl (ns.map .int)] fun ρ => ∃ l c, ρ = .deck l c 0 ∧ c.length ≤ 100 := by
  refine G.go 15 [Str.ofString "script"] rfl (fun vs pm cd doc hl => by obtain ⟨v, rfl⟩ := len1 hl; rfl) (by decide) (by decide) rfl rfl rfl (by intro ρ h; rw [List.mem_singleton.mp h]; rfl) ?_
  intro L a cd σ V nc hσ
  have h0 : σ (Str.ofString "script") = some (.lst false (ns.map .int)) := by rw [hσ]; rfl
  clear hσ
  refine S.cons (S.ret ?_)
  refine E.deckNew nc ?_
  k_call_by "cmp0" 0
  k_call_by "go" 0
  refine ⟨_, _, rfl, (by rw [List.length_map]; omega), ?_⟩
  k_call_by "go" 0
  rw [show pcut (ns.map PyData.int) .none (some 40) = (ns.map PyData.int).take 40 from pcut_to _ 40, ← List.map_take]
  refine ⟨_, _, rfl, (by rw [List.length_map, List.length_take]; omega), fun C V' => ?_⟩
  clear V
  refine CompL.map (f := PyData.int) (g := fun i => some (.int (i.fmod 1000000007))) (fun i hi => ⟨_, rfl, ?_⟩) ?_
  · k_call_by "go" 0
  · rw [List.filterMap_eq_map']
    refine ⟨rfl, (ns.take 40).map fun i => i.fmod 1000000007, by rw [List.map_map]; rfl, fun l => ⟨rfl, l, _, rfl, by rw [List.length_map, List.length_take]; omega⟩⟩
end
end
section -- F11
section
variable {prog : Program} {w : World} {H0 : Heap} {mg mb : Vals} {k : Nat}
inductive Kd where
  | pair
  | del
  | ins
  deriving DecidableEq
noncomputable def Kd.s : Kd → Str
  | .pair => Str.ofString "pair"
  | .del => Str.ofString "delete"
  | .ins => Str.ofString "insert"
noncomputable def Kd.d (x : Kd) : PyData := .str x.s
noncomputable def Kd.n : Kd → Nat
  | .ins => 0
  | _ => 1
noncomputable def Kd.f : Kd → Nat
  | .del => 0
  | _ => 1
noncomputable def nearOf (ks : List Kd) : Nat := (ks.map Kd.n).sum
noncomputable def farOf (ks : List Kd) : Nat := (ks.map Kd.f).sum
theorem nearOf_app (a b : List Kd) : nearOf (a ++ b) = nearOf a + nearOf b := by unfold nearOf; rw [List.map_append, List.sum_append]
theorem farOf_app (a b : List Kd) : farOf (a ++ b) = farOf a + farOf b := by unfold farOf; rw [List.map_append, List.sum_append]
theorem nearOf_rep (n : Nat) (x : Kd) : nearOf (List.replicate n x) = n * x.n := by unfold nearOf; rw [List.map_replicate, List.sum_replicate_nat]
theorem farOf_rep (n : Nat) (x : Kd) : farOf (List.replicate n x) = n * x.f := by unfold farOf; rw [List.map_replicate, List.sum_replicate_nat]
theorem len_le (ks : List Kd) : ks.length ≤ nearOf ks + farOf ks := by
  induction ks with
  | nil => exact Nat.le_refl _
  | cons x r ih =>
    have h1 : nearOf (x :: r) = x.n + nearOf r := by unfold nearOf; rw [List.map_cons, List.sum_cons]
    have h2 : farOf (x :: r) = x.f + farOf r := by unfold farOf; rw [List.map_cons, List.sum_cons]
    have h3 : 1 ≤ x.n + x.f := by cases x <;> exact Nat.le_of_ble_eq_true rfl
    rw [List.length_cons, h1, h2]; omega
structure KindsOk (ks : List Kd) : Prop where
  same : nearOf ks = farOf ks
  le : nearOf ks ≤ 8
  pos : 1 ≤ nearOf ks
theorem nearOf_snoc (ks : List Kd) (x : Kd) : ((nearOf (ks ++ [x]) : Nat) : Int) = (nearOf ks : Nat) + (x.n : Nat) := by rw [nearOf_app]; rfl
theorem farOf_snoc (ks : List Kd) (x : Kd) : ((farOf (ks ++ [x]) : Nat) : Int) = (farOf ks : Nat) + (x.f : Nat) := by rw [farOf_app]; rfl
theorem kd_step {ks : List Kd} {N : Nat} {t : Int} (x : Kd) (hn : nearOf ks + x.n ≤ N) (hf : farOf ks + x.f ≤ N) :
    (N - nearOf (ks ++ [x])) + (N - farOf (ks ++ [x])) < (N - nearOf ks) + (N - farOf ks) ∧ nearOf (ks ++ [x]) ≤ N ∧ farOf (ks ++ [x]) ≤ N ∧ t + 2 + (ks.length : Int) + 1 = t + 2 + ((ks ++ [x]).length : Nat) := by
  have h1 : nearOf (ks ++ [x]) = nearOf ks + x.n := nearOf_app ks [x]
  have h2 : farOf (ks ++ [x]) = farOf ks + x.f := farOf_app ks [x]
  have h3 : 1 ≤ x.n + x.f := by cases x <;> decide
  rw [h1, h2]
  obtain ⟨u, hu⟩ := Nat.exists_eq_add_of_le hn
  obtain ⟨v, hv⟩ := Nat.exists_eq_add_of_le hf
  refine ⟨?_, hn, hf, ?_⟩
  · rw [show N - (nearOf ks + x.n) = u by rw [hu, Nat.add_sub_cancel_left], show N - (farOf ks + x.f) = v by rw [hv, Nat.add_sub_cancel_left], show N - nearOf ks = x.n + u by rw [hu, Nat.add_assoc, Nat.add_sub_cancel_left], show N - farOf ks = x.f + v by rw [hv, Nat.add_assoc, Nat.add_sub_cancel_left]]; clear hu hv hn hf h1 h2; omega
  · rw [List.length_append, Int.natCast_add]; exact Int.add_assoc _ _ _
theorem four_of {j : Int} (h1 : 0 ≤ j) (h2 : j < 4) : j = 0 ∨ j = 1 ∨ j = 2 ∨ j = 3 := by
  obtain ⟨n, rfl⟩ := Int.eq_ofNat_of_zero_le h1
  match n, h2 with
  | 0, _ => exact .inl rfl
  | 1, _ => exact .inr (.inl rfl)
  | 2, _ => exact .inr (.inr (.inl rfl))
  | 3, _ => exact .inr (.inr (.inr rfl))
  | n + 4, h => exact absurd h (by omega)
theorem three_ways {a b N : Nat} (ha : a ≤ N) (hb : b ≤ N) (h : a < N ∨ b < N) : (a = N ∧ b < N) ∨ (b = N ∧ a < N) ∨ (a < N ∧ b < N) := by
  rcases Nat.lt_or_ge a N with p | p <;> rcases Nat.lt_or_ge b N with q | q
  · exact .inr (.inr ⟨p, q⟩)
  · exact .inr (.inl ⟨Nat.le_antisymm hb q, p⟩)
  · exact .inl ⟨Nat.le_antisymm ha p, q⟩
  · exact absurd h (by rintro (h | h); exact Nat.not_le.mpr h p; exact Nat.not_le.mpr h q)
theorem kinds_pair (a m b h : Nat) (ha : a ≤ 2) (hm : 1 ≤ m) (hm' : m ≤ 2) (hb : 1 ≤ b) (hb' : b ≤ 3) (hh : h ≤ 1) (x y : Kd) (hxy : x = .del ∧ y = .ins ∨ x = .ins ∧ y = .del) :
    KindsOk (List.replicate a .pair ++ List.replicate m x ++ List.replicate b .pair ++ List.replicate m y ++ List.replicate h .pair) := by
  have e1 : nearOf (List.replicate a .pair ++ List.replicate m x ++ List.replicate b .pair ++ List.replicate m y ++ List.replicate h .pair) = a + b + h + m := by
    rcases hxy with ⟨rfl, rfl⟩ | ⟨rfl, rfl⟩ <;> simp only [nearOf_app, nearOf_rep, Kd.n] <;> omega
  have e2 : farOf (List.replicate a .pair ++ List.replicate m x ++ List.replicate b .pair ++ List.replicate m y ++ List.replicate h .pair) = a + b + h + m := by
    rcases hxy with ⟨rfl, rfl⟩ | ⟨rfl, rfl⟩ <;> simp only [farOf_app, farOf_rep, Kd.f] <;> omega
  exact ⟨by rw [e1, e2], by rw [e1]; omega, by rw [e1]; omega⟩
theorem kinds_fin (ahead many betw behi : Int) (ha1 : 0 ≤ ahead) (ha2 : ahead < 3) (hm1 : 0 ≤ many) (hm2 : many < 2) (hb1 : 0 ≤ betw) (hb2 : betw < 3) (hh1 : 0 ≤ behi) (hh2 : behi < 2) (x y : Kd) (hxy : x = .del ∧ y = .ins ∨ x = .ins ∧ y = .del) :
    ∃ ks : List Kd, (Res.lst .fresh (List.replicate ahead.toNat (PyData.str (Str.ofString "pair")) ++ List.replicate (1 + many).toNat (.str x.s) ++ List.replicate (1 + betw).toNat (.str (Str.ofString "pair")) ++ List.replicate (1 + many).toNat (.str y.s) ++ List.replicate behi.toNat (.str (Str.ofString "pair")))) = .lst .fresh (ks.map Kd.d) ∧ KindsOk ks :=
  ⟨List.replicate ahead.toNat .pair ++ List.replicate (1 + many).toNat x ++ List.replicate (1 + betw).toNat .pair ++ List.replicate (1 + many).toNat y ++ List.replicate behi.toNat .pair, by simp only [List.map_append, List.map_replicate]; rfl,
    kinds_pair _ _ _ _ (by omega) (by omega) (by omega) (by omega) (by omega) (by omega) x y hxy⟩
noncomputable abbrev I_kinds (l : Addr) (c : List Int) (N : Nat) (t : Int) (m : Nat) (σ : Sto) (dk : Dk) : Prop := ∃ ks tt, dk = some (l, c, tt) ∧ NoCost σ ∧ σ (Str.ofString "size") = some (.dat (.int (N : Int))) ∧ σ (Str.ofString "near") = some (.dat (.int (nearOf ks : Nat))) ∧ σ (Str.ofString "far") = some (.dat (.int (farOf ks : Nat))) ∧ σ (Str.ofString "found") = some (.lst true (ks.map Kd.d)) ∧ nearOf ks ≤ N ∧ farOf ks ≤ N ∧ tt = t + 2 + ks.length ∧ m = (N - nearOf ks) + (N - farOf ks)
theorem c_kinds (G : Gl H0 mg mb) (c : List Int) (t : Int) (hc : c.length ≤ 100) (ht : 0 ≤ t) (ht2 : t ≤ 900) : FnD prog w H0 mg (k + 2) (nameAt (stmtAt 17)) c t [] fun ρ c' t' => c' = c ∧ t ≤ t' ∧ t' ≤ t + 30 ∧ ∃ ks, ρ = .lst .fresh (ks.map Kd.d) ∧ KindsOk ks := by
  have hF : FnAt H0 mg (Str.ofString "_law_draw") _ _ _ := G.fn 16
  have cD : ∀ (t below : Int), 0 ≤ t → t ≤ 1000 → 0 < below → FnD prog w H0 mg (k + 1) (Str.ofString "_law_draw") c t [.dat (.int below)] fun ρ c' t' => c = c' ∧ t' = t + 1 ∧ ∃ v, ρ = .dat (.int v) ∧ 0 ≤ v ∧ v < below := fun t below h1 h2 h3 => (c_draw G c t below hc h1 h2 h3).mono fun _ _ _ ⟨h, r⟩ => ⟨h.symm, r⟩
  refine G.goD 17 [] rfl (fun vs pm cd doc hl => by obtain ⟨v, rfl⟩ := len1 hl; rfl) (by decide) (by decide) (by decide) rfl rfl rfl (by intro ρ h; cases h) ?_
  intro L a cd l σ V nc hσ
  clear hσ
  refine S.cons ?_
  k_call_by "go" 0
  k_call_by "drw" 0
  refine (cD t 3 (by omega) (by omega) (by omega)).mono ?_
  rintro _ _ _ ⟨rfl, rfl, v0, rfl, hv0, hv0'⟩
  k_call_by "gx" 0
  refine ⟨fun _ => ?_, fun _ => ?_⟩
  · k_call_by "go" 0
    k_call_by "tup2" 0
    k_call_by "drw" 0
    refine (cD (t + 1) 3 (by omega) (by omega) (by omega)).mono ?_
    rintro _ _ _ ⟨rfl, rfl, ahead, rfl, ha1, ha2⟩
    k_call_by "gx" 0
    k_call_by "drw" 0
    refine (cD _ 2 (by omega) (by omega) (by omega)).mono ?_
    rintro _ _ _ ⟨rfl, rfl, many, rfl, hm1, hm2⟩
    k_call_by "go" 0
    k_call_by "tup2" 0
    k_call_by "gx" 0
    k_call_by "drw" 0
    refine (cD _ 3 (by omega) (by omega) (by omega)).mono ?_
    rintro _ _ _ ⟨rfl, rfl, betw, rfl, hb1, hb2⟩
    k_call_by "gx" 0
    k_call_by "drw" 0
    refine (cD _ 2 (by omega) (by omega) (by omega)).mono ?_
    rintro _ _ _ ⟨rfl, rfl, behi, rfl, hh1, hh2⟩
    k_call_by "go" 0
    (((with_reducible refine S.unpack2 ‹EnvOk _› ?n1 ?n2 ?hs ?hw ?_); k_call_by "c2" 0))
    k_call_by "gx" 0
    k_call_by "drw" 0
    refine (cD _ 2 (by omega) (by omega) (by omega)).mono ?_
    rintro _ _ _ ⟨rfl, rfl, w0, rfl, hw1, hw2⟩
    k_call_by "gx" 0
    have fin := kinds_fin ahead many betw behi ha1 ha2 hm1 hm2 hb1 hb2 hh1 hh2
    refine ⟨fun _ => ?_, fun _ => ?_⟩
    · k_call_by "go" 0
      refine ⟨_, _, rfl, ?_⟩
      k_call_by "go" 0
      exact ⟨_, _, rfl, rfl, by omega, by omega, fin .del .ins (.inl ⟨rfl, rfl⟩)⟩
    · k_call_by "go" 0
      refine ⟨_, _, rfl, ?_⟩
      k_call_by "go" 0
      exact ⟨_, _, rfl, rfl, by omega, by omega, fin .ins .del (.inr ⟨rfl, rfl⟩)⟩
  · k_call_by "go" 0
    refine S.tup4N false false false true V ⟨by decide, .inl rfl⟩ ⟨by decide, .inl rfl⟩ ⟨by decide, .inl rfl⟩ ⟨by decide, .inl rfl⟩ rfl rfl rfl ?_
    k_call_by "gx" 0
    k_call_by "drw" 0
    refine (cD _ 7 (by omega) (by omega) (by omega)).mono ?_
    rintro _ _ _ ⟨rfl, rfl, v, rfl, hv1, hv2⟩
    k_call_by "go" 0
    obtain ⟨N, hN⟩ : ∃ N : Nat, 1 + v = N := ⟨(1 + v).toNat, by omega⟩
    rw [hN]
    refine S.whil 40 (WhileL.ind (I_kinds l c N t) ?_ 40 (N + N) _ _ (by omega) ⟨[], t + 1 + 1, rfl, (by k_call_by "ncs" 0), (by k_call_by "lk" 0), (by k_call_by "lkq" 0; rfl), (by k_call_by "lkq" 0; rfl), (by k_call_by "lkq" 0; rfl), Nat.zero_le _, Nat.zero_le _, (by simp only [List.length_nil]; omega), rfl⟩)
    rintro m σ dk ⟨ks, tt, rfl, nc, h1, h2, h3, h4, hn, hf, rfl, rfl⟩
    have hlen := len_le ks
    have fin : nearOf ks = N → farOf ks = N → KindsOk ks := fun h1 h2 => ⟨by omega, by omega, by omega⟩
    refine T.mono (P := fun b d => d = some (l, c, t + 2 + ks.length) ∧ (b = true → nearOf ks < N ∨ farOf ks < N) ∧ (b = false → nearOf ks = N ∧ farOf ks = N)) ?_ ?_
    · by_cases c1 : nearOf ks < N
      · have c1' : ((nearOf ks : Nat) : Int) < (N : Int) := by omega
        k_call_by "gx" 0
        exact .inl c1
      · have c1' : ¬ ((nearOf ks : Nat) : Int) < (N : Int) := by omega
        by_cases c2 : farOf ks < N
        · have c2' : ((farOf ks : Nat) : Int) < (N : Int) := by omega
          k_call_by "gx" 0
          exact .inr c2
        · have c2' : ¬ ((farOf ks : Nat) : Int) < (N : Int) := by omega
          k_call_by "gx" 0
          exact ⟨by omega, by omega⟩
    · rintro b d ⟨rfl, hT, hF'⟩
      refine ⟨fun hb => ?_, fun hb => ?_⟩
      · obtain ⟨e1, e2⟩ := hF' hb
        clear hT hF'
        k_call_by "go" 0
        exact ⟨_, _, rfl, rfl, by omega, by omega, ks, rfl, fin e1 e2⟩
      · have hA := hT hb
        clear hT hF' fin hb
        k_call_by "go" 0
        k_call_by "asg" 0
        k_call_by "gx" 0
        k_call_by "drw" 0
        refine (cD _ 4 (by omega) (by omega) (by omega)).mono ?_
        rintro _ _ _ ⟨rfl, rfl, j, rfl, hj1, hj2⟩
        have hk0 : ∃ x : Kd, at? [PyData.str (Str.ofString "pair"), .str (Str.ofString "pair"), .str (Str.ofString "delete"), .str (Str.ofString "insert")] j = some (.str x.s) := by
          have : j = 0 ∨ j = 1 ∨ j = 2 ∨ j = 3 := four_of hj1 hj2
          rcases this with rfl | rfl | rfl | rfl
          · exact ⟨.pair, rfl⟩
          · exact ⟨.pair, rfl⟩
          · exact ⟨.del, rfl⟩
          · exact ⟨.ins, rfl⟩
        obtain ⟨x, hx⟩ := hk0
        refine ⟨_, SubR.lst _ _ _ _ (by omega) (by omega) hx, ?_⟩
        clear hx
        k_call_by "op" 0
        have cas : (nearOf ks = N ∧ farOf ks < N) ∨ (farOf ks = N ∧ nearOf ks < N) ∨ (nearOf ks < N ∧ farOf ks < N) := three_ways hn hf hA
        rcases cas with ⟨c1, c2⟩ | ⟨c1, c2⟩ | ⟨c1, c2⟩
        · have c1' : ((nearOf ks : Nat) : Int) = (N : Int) := by omega
          k_call_by "go" 0
          k_call_by "asg" 0
          k_call_by "go" 0
          k_call_by "tup2" 0
          k_call_by "go" 0
          k_call_by "app" 0
          k_call_by "go" 0
          obtain ⟨q1, q2, q3, q4⟩ := kd_step (ks := ks) (N := N) (t := t) .ins (by show nearOf ks + 0 ≤ N; omega) (by show farOf ks + 1 ≤ N; omega)
          exact ⟨_, q1, ks ++ [.ins], _, rfl, (by k_call_by "ncs" 0), (by k_call_by "lk" 0), (by k_call_by "lkq" 0; rw [nearOf_snoc]; rfl), (by k_call_by "lkq" 0; rw [farOf_snoc]; rfl), (by k_call_by "lkq" 0; rw [List.map_append]; rfl), q2, q3, q4, rfl⟩
        · have c1' : ((farOf ks : Nat) : Int) = (N : Int) := by omega
          have c2' : ¬ ((nearOf ks : Nat) : Int) = (N : Int) := by omega
          k_call_by "go" 0
          k_call_by "asg" 0
          k_call_by "go" 0
          k_call_by "tup2" 0
          k_call_by "go" 0
          k_call_by "app" 0
          k_call_by "go" 0
          obtain ⟨q1, q2, q3, q4⟩ := kd_step (ks := ks) (N := N) (t := t) .del (by show nearOf ks + 1 ≤ N; omega) (by show farOf ks + 0 ≤ N; omega)
          exact ⟨_, q1, ks ++ [.del], _, rfl, (by k_call_by "ncs" 0), (by k_call_by "lk" 0), (by k_call_by "lkq" 0; rw [nearOf_snoc]; rfl), (by k_call_by "lkq" 0; rw [farOf_snoc]; rfl), (by k_call_by "lkq" 0; rw [List.map_append]; rfl), q2, q3, q4, rfl⟩
        · have c1' : ¬ ((farOf ks : Nat) : Int) = (N : Int) := by omega
          have c2' : ¬ ((nearOf ks : Nat) : Int) = (N : Int) := by omega
          cases x <;> simp only [Kd.s] <;> k_call_by "go" 0
          ·
            k_call_by "tup2" 0
            k_call_by "go" 0
            k_call_by "app" 0
            k_call_by "go" 0
            obtain ⟨q1, q2, q3, q4⟩ := kd_step (ks := ks) (N := N) (t := t) .pair (by show nearOf ks + 1 ≤ N; omega) (by show farOf ks + 1 ≤ N; omega)
            exact ⟨_, q1, ks ++ [.pair], _, rfl, (by k_call_by "ncs" 0), (by k_call_by "lk" 0), (by k_call_by "lkq" 0; rw [nearOf_snoc]; rfl), (by k_call_by "lkq" 0; rw [farOf_snoc]; rfl), (by k_call_by "lkq" 0; rw [List.map_append]; rfl), q2, q3, q4, rfl⟩
          ·
            k_call_by "tup2" 0
            k_call_by "go" 0
            k_call_by "app" 0
            k_call_by "go" 0
            obtain ⟨q1, q2, q3, q4⟩ := kd_step (ks := ks) (N := N) (t := t) .del (by show nearOf ks + 1 ≤ N; omega) (by show farOf ks + 0 ≤ N; omega)
            exact ⟨_, q1, ks ++ [.del], _, rfl, (by k_call_by "ncs" 0), (by k_call_by "lk" 0), (by k_call_by "lkq" 0; rw [nearOf_snoc]; rfl), (by k_call_by "lkq" 0; rw [farOf_snoc]; rfl), (by k_call_by "lkq" 0; rw [List.map_append]; rfl), q2, q3, q4, rfl⟩
          ·
            k_call_by "tup2" 0
            k_call_by "go" 0
            k_call_by "app" 0
            k_call_by "go" 0
            obtain ⟨q1, q2, q3, q4⟩ := kd_step (ks := ks) (N := N) (t := t) .ins (by show nearOf ks + 0 ≤ N; omega) (by show farOf ks + 1 ≤ N; omega)
            exact ⟨_, q1, ks ++ [.ins], _, rfl, (by k_call_by "ncs" 0), (by k_call_by "lk" 0), (by k_call_by "lkq" 0; rw [nearOf_snoc]; rfl), (by k_call_by "lkq" 0; rw [farOf_snoc]; rfl), (by k_call_by "lkq" 0; rw [List.map_append]; rfl), q2, q3, q4, rfl⟩
end
end
section -- F12
section
variable {prog : Program} {w : World} {H0 : Heap} {mg mb : Vals} {k : Nat}
/-- the steps' places follow one another -/
noncomputable def Wk : Nat → Nat → List Stp → Nat → Nat → Prop
  | n, f, [], n', f' => n = n' ∧ f = f'
  | n, f, .keep a b :: r, n', f' => a = n ∧ b = f ∧ Wk (n + 1) (f + 1) r n' f'
  | n, f, .draw a b :: r, n', f' => a = n ∧ b = f ∧ Wk (n + 1) (f + 1) r n' f'
  | n, f, .del a :: r, n', f' => a = n ∧ Wk (n + 1) f r n' f'
  | n, f, .ins b :: r, n', f' => b = f ∧ Wk n (f + 1) r n' f'
theorem Wk.app : ∀ {ss rs : List Stp} {n f n' f' n'' f'' : Nat}, Wk n f ss n' f' → Wk n' f' rs n'' f'' → Wk n f (ss ++ rs) n'' f''
  | [], _, _, _, _, _, _, _, ⟨rfl, rfl⟩, h => h
  | .keep a b :: r, _, _, _, _, _, _, _, ⟨h1, h2, h3⟩, h => ⟨h1, h2, h3.app h⟩
  | .draw a b :: r, _, _, _, _, _, _, _, ⟨h1, h2, h3⟩, h => ⟨h1, h2, h3.app h⟩
  | .del a :: r, _, _, _, _, _, _, _, ⟨h1, h3⟩, h => ⟨h1, h3.app h⟩
  | .ins a :: r, _, _, _, _, _, _, _, ⟨h1, h3⟩, h => ⟨h1, h3.app h⟩
theorem nearOf_cons (x : Kd) (r : List Kd) : nearOf (x :: r) = x.n + nearOf r := by unfold nearOf; rw [List.map_cons, List.sum_cons]
theorem farOf_cons (x : Kd) (r : List Kd) : farOf (x :: r) = x.f + farOf r := by unfold farOf; rw [List.map_cons, List.sum_cons]
noncomputable abbrev I_steps (l : Addr) (c : List Int) (ks : List Kd) (t1 : Int) (r : List Kd) (σ : Sto) (dk : Dk) : Prop := ∃ ss n f t2, dk = some (l, c, t2) ∧ NoCost σ ∧ σ (Str.ofString "near") = some (.dat (.int (n : Nat))) ∧ σ (Str.ofString "far") = some (.dat (.int (f : Nat))) ∧ σ (Str.ofString "found") = some (.lst true (ss.map Stp.d)) ∧ Wk 0 0 ss n f ∧ n + nearOf r = nearOf ks ∧ f + farOf r = nearOf ks ∧ ss.length + r.length = ks.length ∧ t1 ≤ t2 ∧ t2 + r.length ≤ t1 + ks.length
theorem c_steps (G : Gl H0 mg mb) (c : List Int) (t : Int) (hc : c.length ≤ 100) (ht : 0 ≤ t) (ht2 : t ≤ 800) : FnD prog w H0 mg (k + 3) (nameAt (stmtAt 18)) c t [] fun ρ c' t' => c' = c ∧ t ≤ t' ∧ t' ≤ t + 60 ∧ ∃ ss N, ρ = .lst .fresh (ss.map Stp.d) ∧ Wk 0 0 ss N N ∧ 1 ≤ N ∧ N ≤ 8 ∧ ss.length ≤ 16 := by
  have hF : FnAt H0 mg (Str.ofString "_law_draw") _ _ _ := G.fn 16
  have hF17 : FnAt H0 mg (Str.ofString "_law_kinds") _ _ _ := G.fn 17
  have cD : ∀ (t below : Int), 0 ≤ t → t ≤ 1000 → 0 < below → FnD prog w H0 mg (k + 2) (Str.ofString "_law_draw") c t [.dat (.int below)] fun ρ c' t' => c = c' ∧ t' = t + 1 ∧ ∃ v, ρ = .dat (.int v) ∧ 0 ≤ v ∧ v < below := fun t below h1 h2 h3 => (c_draw G c t below hc h1 h2 h3).mono fun _ _ _ ⟨h, r⟩ => ⟨h.symm, r⟩
  have cK : FnD prog w H0 mg (k + 2) (Str.ofString "_law_kinds") c t [] fun ρ c' t' => c = c' ∧ t ≤ t' ∧ t' ≤ t + 30 ∧ ∃ ks, ρ = .lst .fresh (ks.map Kd.d) ∧ KindsOk ks := (c_kinds G c t hc ht (by omega)).mono fun _ _ _ ⟨h, r⟩ => ⟨h.symm, r⟩
  refine G.goD 18 [] rfl (fun vs pm cd doc hl => by obtain ⟨v, rfl⟩ := len1 hl; rfl) (by decide) (by decide) (by decide) rfl rfl rfl (by intro ρ h; cases h) ?_
  intro L a cd l σ V nc hσ
  clear hσ
  refine S.cons ?_
  k_call_by "tup3" 0
  k_call_by "go" 0
  k_call_by "for" 0
  refine E.callD0' hF17 G.gnd V rfl (by k_call_by "ncs" 0) (by k_call_by "kd" 0) (by decide) ?_
  refine cK.mono ?_
  rintro _ _ t1 ⟨rfl, ht3, ht4, ks, rfl, hks⟩
  refine ⟨_, _, rfl, (by decide), ?_⟩
  have hlen := len_le ks
  have h8 := hks.le
  have hsm := hks.same
  refine ForL.ind (f := Kd.d) (I_steps l c ks t1) ?_ ?_ ks _ _ ?_
  · rintro x r σ dk ⟨ss, n, f, t2, rfl, nc, h1, h2, h3, hw, hn, hf, hsl, ht5, ht6⟩
    rw [nearOf_cons] at hn
    rw [farOf_cons] at hf
    rw [List.length_cons] at hsl ht6
    refine ⟨_, rfl, ?_⟩
    cases x with
    | pair =>
      simp only [Kd.n, Kd.f] at hn hf
      simp only [Kd.d, Kd.s]
      k_call_by "go" 0
      k_call_by "app" 0
      k_call_by "go" 0
      k_call_by "drw" 0
      refine (cD _ 3 (by omega) (by omega) (by omega)).mono ?_
      rintro _ _ _ ⟨rfl, rfl, v, rfl, hv1, hv2⟩
      k_call_by "gx" 0
      refine ⟨fun _ => ?_, fun _ => ?_⟩
      · k_call_by "go" 0
        k_call_by "tup2" 0
        k_call_by "go" 0
        refine ⟨ss ++ [.draw n f], n + 1, f + 1, _, rfl, (by k_call_by "ncs" 0), (by k_call_by "lkq" 0; simp), (by k_call_by "lkq" 0; simp), (by k_call_by "lkq" 0; rw [List.map_append]; rfl), hw.app (show Wk n f [.draw n f] (n + 1) (f + 1) from ⟨rfl, rfl, rfl, rfl⟩), ?_, ?_, ?_, ?_, ?_⟩
        all_goals (try simp only [List.length_append, List.length_singleton]); omega
      · k_call_by "go" 0
        k_call_by "tup2" 0
        k_call_by "go" 0
        refine ⟨ss ++ [.keep n f], n + 1, f + 1, _, rfl, (by k_call_by "ncs" 0), (by k_call_by "lkq" 0; simp), (by k_call_by "lkq" 0; simp), (by k_call_by "lkq" 0; rw [List.map_append]; rfl), hw.app (show Wk n f [.keep n f] (n + 1) (f + 1) from ⟨rfl, rfl, rfl, rfl⟩), ?_, ?_, ?_, ?_, ?_⟩
        all_goals (try simp only [List.length_append, List.length_singleton]); omega
    | del =>
      simp only [Kd.n, Kd.f] at hn hf
      simp only [Kd.d, Kd.s]
      k_call_by "go" 0
      k_call_by "app" 0
      k_call_by "go" 0
      k_call_by "tup2" 0
      k_call_by "go" 0
      refine ⟨ss ++ [.del n], n + 1, f, _, rfl, (by k_call_by "ncs" 0), (by k_call_by "lkq" 0; simp), (by k_call_by "lkq" 0; simp), (by k_call_by "lkq" 0; rw [List.map_append]; rfl), hw.app (show Wk n f [.del n] (n + 1) f from ⟨rfl, rfl, rfl⟩), ?_, ?_, ?_, ?_, ?_⟩
      all_goals (try simp only [List.length_append, List.length_singleton]); omega
    | ins =>
      simp only [Kd.n, Kd.f] at hn hf
      simp only [Kd.d, Kd.s]
      k_call_by "go" 0
      k_call_by "app" 0
      k_call_by "go" 0
      k_call_by "tup2" 0
      k_call_by "go" 0
      refine ⟨ss ++ [.ins f], n, f + 1, _, rfl, (by k_call_by "ncs" 0), (by k_call_by "lkq" 0; simp), (by k_call_by "lkq" 0; simp), (by k_call_by "lkq" 0; rw [List.map_append]; rfl), hw.app (show Wk n f [.ins f] n (f + 1) from ⟨rfl, rfl, rfl⟩), ?_, ?_, ?_, ?_, ?_⟩
      all_goals (try simp only [List.length_append, List.length_singleton]); omega
  · rintro σ dk ⟨ss, n, f, t2, rfl, nc, h1, h2, h3, hw, hn, hf, hsl, ht5, ht6⟩
    rw [show nearOf [] = 0 from rfl, Nat.add_zero] at hn
    rw [show farOf [] = 0 from rfl, Nat.add_zero] at hf
    simp only [List.length_nil, Nat.add_zero] at hsl ht6
    subst hn
    subst hf
    k_call_by "go" 0
    exact ⟨_, _, rfl, rfl, by omega, by omega, ss, _, rfl, hw, hks.pos, h8, by omega⟩
  · exact ⟨[], 0, 0, t1, rfl, (by k_call_by "ncs" 0), (by k_call_by "lkq" 0; rfl), (by k_call_by "lkq" 0; rfl), (by k_call_by "lkq" 0; rfl), ⟨rfl, rfl⟩, by omega, by omega, by simp, by omega, by omega⟩
end
end
section -- F13
section
variable {prog : Program} {w : World} {H0 : Heap} {mg mb : Vals} {k : Nat}
noncomputable def Stp.word : Stp → Str
  | .keep .. => Str.ofString "keep"
  | .draw .. => Str.ofString "draw"
  | .del _ => Str.ofString "delete"
  | .ins _ => Str.ofString "insert"
noncomputable def Stp.far? : Stp → Option Nat
  | .draw _ f => some f
  | .ins f => some f
  | _ => .none
noncomputable def priceStep (ps ds : List Int) (t : Int × Str) (s : Stp) : Int × Str :=
  (match s with
  | .keep _ _ => t.1
  | .draw _ f => t.1 + ds.getD f 0
  | .del _ => t.1 + ps.getD (if Str.ofString "delete" = t.2 then 1 else 0) 0
  | .ins f => t.1 + ps.getD (if Str.ofString "insert" = t.2 then 3 else 2) 0 + ds.getD f 0, s.word)
theorem at?_ints {ds : List Int} {i : Nat} (h : i < ds.length) : at? (ds.map PyData.int) (i : Int) = some (.int (ds.getD i 0)) := by
  rw [at?_pos (by omega), List.getElem?_map]
  have : (i : Int).toNat = i := by omega
  rw [this, List.getD_eq_getElem?_getD, List.getElem?_eq_getElem h]; rfl
theorem idx1 : ∀ i, i < 1 → [Str.ofString "delete", Str.ofString "insert"][i]? ≠ some (Str.ofString "insert") := by
  intro i hi
  have h0 : i = 0 := by omega
  rw [h0]
  decide +kernel
noncomputable abbrev I_price (p0 : Int) (p1 : Int) (p2 : Int) (p3 : Int) (ds : List Int) (ss : List Stp) (r : List Stp) (σ : Sto) (dk : Dk) : Prop := dk = .none ∧ NoCost σ ∧ σ (Str.ofString "prices") = some (.lst false [.int p0, .int p1, .int p2, .int p3]) ∧ σ (Str.ofString "draws") = some (.lst false (ds.map .int)) ∧ (∀ s ∈ r, ∀ f, s.far? = some f → f < ds.length) ∧ ∃ t : Int × Str, PyData.strOk t.2 = true ∧ σ (Str.ofString "found") = some (.dat (.int t.1)) ∧ σ (Str.ofString "ahead") = some (.dat (.str t.2)) ∧ r.foldl (priceStep [p0, p1, p2, p3] ds) t = ss.foldl (priceStep [p0, p1, p2, p3] ds) (0, Str.ofString "")
theorem c_price (G : Gl H0 mg mb) (fl fl2 fl3 : Fl) (ss : List Stp) (p0 p1 p2 p3 : Int) (ds : List Int) (hs : ss.length ≤ 1000) (hd : ds.length ≤ 1000) (hf : ∀ s ∈ ss, ∀ f, s.far? = some f → f < ds.length) :
    FnP prog w H0 mg (k + 1) (nameAt (stmtAt 24)) [.lst fl (ss.map Stp.d), .lst fl2 ([p0, p1, p2, p3].map .int), .lst fl3 (ds.map .int)] fun ρ => ρ = .dat (.int (ss.foldl (priceStep [p0, p1, p2, p3] ds) (0, Str.ofString "")).1) := by
  refine G.go 24 [Str.ofString "steps", Str.ofString "prices", Str.ofString "draws"] rfl (fun vs pm cd doc hl => by obtain ⟨v, u, t, rfl⟩ := len3 hl; rfl) (by decide) (by decide) rfl rfl rfl (by intro ρ h; rcases List.mem_cons.mp h with rfl | h; rfl; rcases List.mem_cons.mp h with rfl | h; rfl; rw [List.mem_singleton.mp h]; rfl) ?_
  intro L a cd σ V nc hσ
  have h0 : σ (Str.ofString "steps") = some (.lst false (ss.map Stp.d)) := by rw [hσ]; rfl
  have h1 : σ (Str.ofString "prices") = some (.lst false [.int p0, .int p1, .int p2, .int p3]) := by rw [hσ]; rfl
  have h2 : σ (Str.ofString "draws") = some (.lst false (ds.map .int)) := by rw [hσ]; rfl
  clear hσ
  refine S.cons ?_
  k_call_by "tup2" 0
  k_call_by "go" 0
  k_call_by "for" 0
  k_call_by "go" 0
  refine ⟨_, _, rfl, (by decide), ?_⟩
  refine ForL.ind (f := Stp.d) (I_price p0 p1 p2 p3 ds ss) ?_ ?_ ss _ _ ?_
  · rintro s r σ dk ⟨rfl, nc, h1, h2, hr, ⟨t1, t2⟩, ht, h3, h4, hfo⟩
    dsimp only at ht h3 h4
    have hs1 := hr s (.head _)
    have hr' : ∀ s ∈ r, ∀ f, s.far? = some f → f < ds.length := fun x hx => hr x (.tail _ hx)
    rw [List.foldl_cons] at hfo
    refine ⟨_, rfl, ?_⟩
    clear hr
    cases s with
    | keep n f =>
      simp only [Stp.d]
      k_call_by "go" 0
      k_call_by "asg" 0
      k_call_by "go" 0
      exact ⟨(by k_call_by "ncs" 0), (by k_call_by "lk" 0), (by k_call_by "lk" 0), hr', (t1, Str.ofString "keep"), (by show PyData.strOk (Str.ofString "keep") = true; decide +kernel), (by k_call_by "lk" 0), (by k_call_by "lk" 0), hfo⟩
    | draw n f =>
      have hlt := hs1 f rfl
      simp only [Stp.d]
      k_call_by "go" 0
      k_call_by "asg" 0
      k_call_by "go" 0
      refine ⟨_, SubR.lst _ _ _ _ (by omega) (by omega) (at?_ints hlt), ?_⟩
      k_call_by "go" 0
      k_call_by "asg" 0
      k_call_by "go" 0
      exact ⟨(by k_call_by "ncs" 0), (by k_call_by "lk" 0), (by k_call_by "lk" 0), hr', (t1 + ds.getD f 0, Str.ofString "draw"), (by show PyData.strOk (Str.ofString "draw") = true; decide +kernel), (by k_call_by "lk" 0), (by k_call_by "lk" 0), hfo⟩
    | del n =>
      simp only [Stp.d]
      by_cases he : Str.ofString "delete" = t2
      · subst he
        k_call_by "go" 0
        k_call_by "asg" 0
        k_call_by "go" 0
        refine ⟨_, [Str.ofString "delete", Str.ofString "insert"], rfl, ?_⟩
        k_call_by "go" 0
        refine ⟨0, rfl, fun i hi => absurd hi (Nat.not_lt_zero _), by omega, ?_⟩
        k_call_by "go" 0
        k_call_by "asg" 0
        k_call_by "go" 0
        exact ⟨(by k_call_by "ncs" 0), (by k_call_by "lk" 0), (by k_call_by "lk" 0), hr', (t1 + p1, Str.ofString "delete"), (by show PyData.strOk (Str.ofString "delete") = true; decide +kernel), (by k_call_by "lkq" 0; rfl), (by k_call_by "lk" 0), (by rw [← hfo]; simp only [priceStep, Stp.word]; simp [])⟩
      · have he2 : Str.ofString "delete" ≠ t2 := he
        k_call_by "go" 0
        k_call_by "asg" 0
        k_call_by "go" 0
        refine ⟨_, [Str.ofString "delete", Str.ofString "insert"], rfl, ?_⟩
        k_call_by "go" 0
        refine ⟨0, rfl, fun i hi => absurd hi (Nat.not_lt_zero _), by omega, ?_⟩
        k_call_by "go" 0
        k_call_by "asg" 0
        k_call_by "go" 0
        exact ⟨(by k_call_by "ncs" 0), (by k_call_by "lk" 0), (by k_call_by "lk" 0), hr', (t1 + p0, Str.ofString "delete"), (by show PyData.strOk (Str.ofString "delete") = true; decide +kernel), (by k_call_by "lkq" 0; rfl), (by k_call_by "lk" 0), (by rw [← hfo]; simp only [priceStep, Stp.word]; simp [he])⟩
    | ins f =>
      have hlt := hs1 f rfl
      simp only [Stp.d]
      by_cases he : Str.ofString "insert" = t2
      · subst he
        k_call_by "go" 0
        k_call_by "asg" 0
        k_call_by "go" 0
        refine ⟨_, [Str.ofString "delete", Str.ofString "insert"], rfl, ?_⟩
        k_call_by "go" 0
        refine ⟨1, rfl, idx1, by omega, ?_⟩
        k_call_by "go" 0
        k_call_by "asg" 0
        k_call_by "go" 0
        refine ⟨_, SubR.lst _ _ _ _ (by omega) (by omega) (at?_ints hlt), ?_⟩
        k_call_by "go" 0
        k_call_by "asg" 0
        k_call_by "go" 0
        exact ⟨(by k_call_by "ncs" 0), (by k_call_by "lk" 0), (by k_call_by "lk" 0), hr', (t1 + p3 + ds.getD f 0, Str.ofString "insert"), (by show PyData.strOk (Str.ofString "insert") = true; decide +kernel), (by k_call_by "lkq" 0; rfl), (by k_call_by "lk" 0), (by rw [← hfo]; simp only [priceStep, Stp.word]; simp [])⟩
      · have he2 : Str.ofString "insert" ≠ t2 := he
        k_call_by "go" 0
        k_call_by "asg" 0
        k_call_by "go" 0
        refine ⟨_, [Str.ofString "delete", Str.ofString "insert"], rfl, ?_⟩
        k_call_by "go" 0
        refine ⟨1, rfl, idx1, by omega, ?_⟩
        k_call_by "go" 0
        k_call_by "asg" 0
        k_call_by "go" 0
        refine ⟨_, SubR.lst _ _ _ _ (by omega) (by omega) (at?_ints hlt), ?_⟩
        k_call_by "go" 0
        k_call_by "asg" 0
        k_call_by "go" 0
        exact ⟨(by k_call_by "ncs" 0), (by k_call_by "lk" 0), (by k_call_by "lk" 0), hr', (t1 + p2 + ds.getD f 0, Str.ofString "insert"), (by show PyData.strOk (Str.ofString "insert") = true; decide +kernel), (by k_call_by "lkq" 0; rfl), (by k_call_by "lk" 0), (by rw [← hfo]; simp only [priceStep, Stp.word]; simp [he])⟩
  · rintro σ dk ⟨rfl, nc, h1, h2, _, t, ht, h3, h4, hfo⟩
    rw [List.foldl_nil] at hfo
    subst hfo
    k_call_by "go" 0
  · exact ⟨rfl, (by k_call_by "ncs" 0), (by k_call_by "lk" 0), (by k_call_by "lk" 0), hf, (0, Str.ofString ""), (by decide +kernel), (by k_call_by "lk" 0), (by k_call_by "lk" 0), rfl⟩
end
end
section -- F14
section
variable {prog : Program} {w : World} {H0 : Heap} {mg mb : Vals} {k : Nat} {env : Env} {σ : Sto} {dk : Dk} {KF : Frag}
noncomputable abbrev iEnv (L : Addr) (cd : Value) : Env := envOf (Str.ofString "ScriptCosts.__init__") (scopeOf (methAt 0)) L 28 cd
theorem init_set {A : Around} {Q : Flow → Shared → Prop} {X' : Value → Shared → Prop} {s : Shared} {g : Heap} {L x dx : Addr} {cd : Value} {mm : Vals} {n : Str} {es : List DictEntry} {c : Nat} {pb pc pe : Pos} {ve : Expr} {PV : Value → List (Addr × Obj) → Prop}
    (X : KF.In g) (CK : CostK KF) (F : Fr g L s.heap mm) (N : News g L s.heap [(x, instObj 45 dx), (dx, dictOf es c)]) (hxd : x ≠ dx) (hn : n ∈ costNames) (e0 : mm (Str.ofString "self") = some (.ref x)) (hz : es.length ≤ 100) (hno : getL n es = some .none)
    (hev : ∀ (Q' : Value → Shared → Prop), (∀ v ex h' tk, PV v ex → (∀ p ∈ ex, p.1 ≠ dx) → Fr g L h' mm → News g L h' ((x, instObj 45 dx) :: (dx, dictOf es c) :: ex) → Q' v ⟨h', s.gens, s.drawn, tk, s.os⟩) → wpAny (model prog w) A (eval ve (iEnv L cd)) Q' X' s)
    (hs : swapsWith ve (some (.Attribute (.Name (Str.ofString "self") pb) n pc)) pe.line (iEnv L cd) = pure false)
    (h : ∀ v ex h' tk hh kk, PV v ex → Fr g L h' mm → News g L h' ((x, instObj 45 dx) :: (dx, dictOf (es ++ [⟨hh, .str n kk, v⟩]) (c + 1)) :: ex) → Q .next ⟨h', s.gens, s.drawn, tk, s.os⟩) :
    wpAny (model prog w) A (exec (.Assign [.Attribute (.Name (Str.ofString "self") pb) n pc] ve pe) (iEnv L cd)) Q X' s := by
  refine plainObj_wpAny_Assign_Attribute (hev _ fun v ex h₁ tk₁ hp hex F₁ N₁ => ?_) hs
  refine wpAny_Name (wpAny_loadName_local rfl rfl F₁.ns e0 ?_) (by decide)
  have hput : putL n (PyData.keyHash w.params n) (.str n (tk₁ + 1)) v es = es ++ [⟨PyData.keyHash w.params n, .str n (tk₁ + 1), v⟩] ∧ putN n es c = c + 1 := by
    have hnone : ∀ e ∈ es, e.key.isStr n = false := by
      unfold getL at hno
      split at hno
      · cases hno
      · rename_i hf
        intro e he
        have := List.find?_eq_none.mp hf e he
        simpa using this
    constructor
    · clear hno hz N N₁ h hev
      induction es with
      | nil => rfl
      | cons e' r ih =>
        unfold putL
        rw [hnone e' (.head _), if_neg Bool.false_ne_true, ih (fun y hy => hnone y (.tail _ hy))]; rfl
    · unfold putN
      have : es.any (fun x => x.key.isStr n) = false := by
        rw [List.any_eq_false]
        intro e he
        rw [hnone e he]; decide
      rw [this]; rfl
  have U : Upd dx (dictOf es c) (dictOf (es ++ [⟨PyData.keyHash w.params n, .str n (tk₁ + 1), v⟩]) (c + 1)) ((x, instObj 45 dx) :: (dx, dictOf es c) :: ex) ((x, instObj 45 dx) :: (dx, dictOf (es ++ [⟨PyData.keyHash w.params n, .str n (tk₁ + 1), v⟩]) (c + 1)) :: ex) :=
    .tail hxd (.head hex)
  have I : InstAt h₁ x (instObj 45 dx) 45 (some (dictOf es c)) := InstAt.of_news N₁ (.head _) (.tail _ (.head _))
  refine set_dict (K := KF) (s := ⟨h₁, s.gens, s.drawn, tk₁, s.os⟩) (h₀ := g) F₁ X N₁ I rfl CK.setter CK.over (CK.taker n hn) CK.dict (by rw [hno]; rfl) (by rw [hput.1, hput.2]) U (by rw [List.length_append, List.length_singleton]; omega) fun h' F' N' => h v ex h' _ _ _ hp F' N'
theorem init_run {A : Around} {Q : Flow → Shared → Prop} {X' : Value → Shared → Prop} {s : Shared} {g : Heap} {L x dx : Addr} {cd : Value} {mm : Vals} {v0 v1 v2 v3 : Value} {v4 : Addr} {ds : List PyData}
    (G : Gnd H0 mg mb) (X : KF.In g) (CK : CostK KF) (hg : Stays H0 g) (F : Fr g L s.heap mm) (N : News g L s.heap [(x, instObj 45 dx), (dx, emptyDict)]) (hxd : x ≠ dx)
    (e0 : mm (Str.ofString "self") = some (.ref x)) (e1 : mm (Str.ofString "delete_first") = some v0) (e2 : mm (Str.ofString "delete_more") = some v1) (e3 : mm (Str.ofString "insert_first") = some v2) (e4 : mm (Str.ofString "insert_more") = some v3) (e5 : mm (Str.ofString "draws") = some (.ref v4))
    (hds : Lst g v4 ds) (hdl : ds.length ≤ 1000)
    (h : ∀ h' tk (a0 a1 a2 a3 a4 : Int) (k0 k1 k2 k3 k4 : Tok) (l : Addr) (n : Nat), Stays g h' → h'.get? x = some (instObj 45 dx) → h'.get? dx = some (dictOf [⟨a0, .str (Str.ofString "delete_first") k0, v0⟩, ⟨a1, .str (Str.ofString "delete_more") k1, v1⟩, ⟨a2, .str (Str.ofString "insert_first") k2, v2⟩, ⟨a3, .str (Str.ofString "insert_more") k3, v3⟩, ⟨a4, .str (Str.ofString "draws") k4, .ref l⟩] n) → Lst h' l ds → Q .next ⟨h', s.gens, s.drawn, tk, s.os⟩) :
    wpAny (model prog w) A (execs (bodyOf (methAt 0)) (iEnv L cd)) Q X' s := by
  have nm : ∀ (s₁ : Shared) (es : List DictEntry) (c : Nat) (n : Str) (v : Value) (p : Pos) (hn : (iEnv L cd).kindOf n = some .local) (hd : (n == ("__debug__" : Str)) = false) (hm : mm n = some v) (F : Fr g L s₁.heap mm) (N : News g L s₁.heap [(x, instObj 45 dx), (dx, dictOf es c)]) (Q' : Value → Shared → Prop), (∀ v' ex h' tk, (v' = v ∧ ex = []) → (∀ p ∈ ex, p.1 ≠ dx) → Fr g L h' mm → News g L h' ((x, instObj 45 dx) :: (dx, dictOf es c) :: ex) → Q' v' ⟨h', s₁.gens, s₁.drawn, tk, s₁.os⟩) → wpAny (model prog w) A (eval (.Name n p) (iEnv L cd)) Q' X' s₁ := by
    intro s₁ es c n v p hn hd hm F N Q' hq
    exact wpAny_Name (wpAny_loadName_local rfl hn F.ns hm (hq v [] s₁.heap s₁.toks ⟨rfl, rfl⟩ (fun _ h => by cases h) F N)) hd
  have V : EnvOk (iEnv L cd) := fenv_ok _ _ _ _ _ rfl
  refine wpAny_execs_cons (init_set (PV := fun v' ex => v' = v0 ∧ ex = []) X CK F N hxd (by simp [costNames]) e0 (Nat.le_of_ble_eq_true rfl) rfl (nm s [] _ _ _ _ rfl (by decide) e1 F N) rfl ?_)
  rintro _ _ h1 tk1 a0 k0 ⟨rfl, rfl⟩ F1 N1
  refine wpAny_execs_cons (init_set (s := ⟨h1, s.gens, s.drawn, tk1, s.os⟩) (PV := fun v' ex => v' = v1 ∧ ex = []) X CK F1 N1 hxd (by simp [costNames]) e0 (Nat.le_of_ble_eq_true rfl) rfl (nm _ _ _ _ _ _ rfl (by decide) e2 F1 N1) rfl ?_)
  rintro _ _ h2 tk2 a1 k1 ⟨rfl, rfl⟩ F2 N2
  refine wpAny_execs_cons (init_set (s := ⟨h2, s.gens, s.drawn, tk2, s.os⟩) (PV := fun v' ex => v' = v2 ∧ ex = []) X CK F2 N2 hxd (by simp [costNames]) e0 (Nat.le_of_ble_eq_true rfl) rfl (nm _ _ _ _ _ _ rfl (by decide) e3 F2 N2) rfl ?_)
  rintro _ _ h3 tk3 a2 k2 ⟨rfl, rfl⟩ F3 N3
  refine wpAny_execs_cons (init_set (s := ⟨h3, s.gens, s.drawn, tk3, s.os⟩) (PV := fun v' ex => v' = v3 ∧ ex = []) X CK F3 N3 hxd (by simp [costNames]) e0 (Nat.le_of_ble_eq_true rfl) rfl (nm _ _ _ _ _ _ rfl (by decide) e4 F3 N3) rfl ?_)
  rintro _ _ h4 tk4 a3 k3 ⟨rfl, rfl⟩ F4 N4
  obtain ⟨vs, ⟨nn, p⟩, r⟩ := hds
  have e1' := readsAll_length r
  rw [Array.length_toList] at e1'
  refine wpAny_execs_cons (init_set (s := ⟨h4, s.gens, s.drawn, tk4, s.os⟩) (PV := fun v' ex => ∃ l c', v' = .ref l ∧ ex = [(l, { cls := .type "list", dict := .none, data := .seq vs c', slots := #[] })]) X CK F4 N4 hxd (by simp [costNames]) e0 (Nat.le_of_ble_eq_true rfl) rfl ?_ rfl ?_)
  · intro Q' hq
    refine Call_ (ld_bi G V (fun b o e => F4.keep b o (hg b o e)) rfl G.list (PyProof.Rows.callWith_type1 (args_cons (wpAny_Name (wpAny_loadName_local rfl rfl F4.ns e5 (args_nil ?_)) (by decide)) (by rfl)) (by rfl) (by rfl))) (by rfl)
    refine call_list_seq v4 (T := "list") (.inl rfl) (F4.keep _ _ p) rfl rfl (fun h' c' st hl => ?_) (by rw [e1', sizeLine_eq]; omega)
    have lL : (h4.objs.size : Addr) ≠ L := by
      rintro rfl
      obtain ⟨_, _, _, ho, _⟩ := F4.ns
      exact absurd (Heap.lt_size ho) (Nat.lt_irrefl _)
    have ldx : (h4.objs.size : Addr) ≠ dx := by
      rintro rfl
      exact absurd (Heap.lt_size (N4 _ (.tail _ (.head _))).1) (Nat.lt_irrefl _)
    have gl : g.get? h4.objs.size = .none := by
      cases q : g.get? h4.objs.size with
      | none => rfl
      | some o => exact absurd (Heap.lt_size (F4.keep _ _ q)) (Nat.lt_irrefl _)
    refine hq _ _ h' _ ⟨_, c', rfl, rfl⟩ (fun p hp => by rw [List.mem_singleton.mp hp]; exact ldx) ⟨F4.ns.keeps st, fun b o e => st b o (F4.keep b o e), F4.above⟩ ?_
    intro q hq'
    rcases List.mem_cons.mp hq' with rfl | hq'
    · exact ⟨st _ _ (N4 _ (.head _)).1, (N4 _ (.head _)).2⟩
    rcases List.mem_cons.mp hq' with rfl | hq'
    · exact ⟨st _ _ (N4 _ (.tail _ (.head _))).1, (N4 _ (.tail _ (.head _))).2⟩
    rw [List.mem_singleton.mp hq']
    exact ⟨hl, lL, gl⟩
  · rintro _ _ h5 tk5 a4 k4 ⟨l, c', rfl, rfl⟩ F5 N5
    refine wpAny_execs_nil (h h5 tk5 a0 a1 a2 a3 a4 k0 k1 k2 k3 k4 l _ F5.keep (N5 _ (.head _)).1 (N5 _ (.tail _ (.head _))).1 ⟨vs, ⟨c', (N5 _ (.tail _ (.tail _ (.head _)))).1⟩, ReadsAll.keeps F5.keep r⟩)
end
end
section -- F15
section
variable {prog : Program} {w : World} {H0 : Heap} {mg mb : Vals} {k : Nat} {env : Env} {σ : Sto} {dk : Dk} {KF : Frag}
theorem stays_push2' (h : Heap) (o o' : Obj) : Stays h ((h.push o).push o') := fun b q e => Heap.get?_push_of_some _ (Heap.get?_push_of_some _ e)
theorem past_none (h : Heap) (i : Nat) : h.get? (h.objs.size + i) = .none := by
  cases q : h.get? (h.objs.size + i) with
  | none => rfl
  | some o => exact absurd (Heap.lt_size q) (Nat.not_lt.mpr (Nat.le_add_right _ i))
noncomputable abbrev iNames : List Str := [Str.ofString "self", Str.ofString "delete_first", Str.ofString "delete_more", Str.ofString "insert_first", Str.ofString "insert_more", Str.ofString "draws"]
theorem init_call {A : Around} {R : Result → Shared → Prop} {g : Heap} {ge : Array GenState} {d : Drawn} {tk : Nat} {os : OsState} {u0 u1 u2 u3 u4 : Value} {v4 : Addr} {ds : List PyData}
    (G : Gnd H0 mg mb) (X : KF.In g) (CK : CostK KF) (hM : MethIn KF 28 (Str.ofString "ScriptCosts.__init__") (argsOf (methAt 0)) (bodyOf (methAt 0)) (scopeOf (methAt 0))) (hg : Stays H0 g) (hroom : A.depth < recursionLimit) (hds : Lst g v4 ds) (hdl : ds.length ≤ 1000) (hu : u4 = .ref v4)
    (h : ∀ h' tk (a0 a1 a2 a3 a4 : Int) (k0 k1 k2 k3 k4 : Tok) (l : Addr) (n : Nat), Stays g h' → h'.get? (g.objs.size + 1) = some (instObj 45 g.objs.size) → h'.get? g.objs.size = some (dictOf [⟨a0, .str (Str.ofString "delete_first") k0, u0⟩, ⟨a1, .str (Str.ofString "delete_more") k1, u1⟩, ⟨a2, .str (Str.ofString "insert_first") k2, u2⟩, ⟨a3, .str (Str.ofString "insert_more") k3, u3⟩, ⟨a4, .str (Str.ofString "draws") k4, .ref l⟩] n) → Lst h' l ds → R (.ok (.ret .none)) ⟨h', ge, d, tk, os⟩) :
    codeAny (model prog w) A (.call (.ref 28) ⟨[.ref (g.objs.size + 1), u0, u1, u2, u3, u4], []⟩) R ⟨(g.push emptyDict).push (instObj 45 g.objs.size), ge, d, tk, os⟩ := by
  subst hu
  obtain ⟨o, fd, ho, hdat, hcd, hbody, hsc, hpa, hq, hgl, hcl, hbi, hdf, hkw⟩ := hM.at_
  obtain ⟨nm, qn, pa, bo, sc, gl, cl, df, kd, doc, pm, an, cdv, ct, bi⟩ := fd
  dsimp only at hcd hbody hsc hpa hq hgl hcl hbi hdf hkw
  subst hbody hsc hpa hq hgl hcl hbi hdf hkw
  have st := stays_push2' g emptyDict (instObj 45 g.objs.size)
  refine codeAny_call_def (body := bodyOf (methAt 0)) (binds := iNames.zip [.ref (g.objs.size + 1), u0, u1, u2, u3, .ref v4]) hroom (st _ _ (X _ _ ho)) hdat ((G.lim.keeps hg).keeps st) ((codeRec_of X hcd).keeps st) rfl (BindsTo.of_eq rfl) (by show ∀ x ∈ (scopeOf (methAt 0)).names, x.2 ≠ .cell; decide) (fun x hx => (by decide : ∀ n ∈ iNames, (scopeOf (methAt 0)).names.lookup n = some .local) x.1 (by obtain ⟨x1, x2⟩ := x; exact (List.of_mem_zip hx).1)) (fun h₀ hns hst => ?_) rfl rfl rfl
  have sz : ((g.push emptyDict).push (instObj 45 g.objs.size)).objs.size = g.objs.size + 2 := by rw [Heap.size_push, Heap.size_push]
  rw [sz] at hns ⊢
  have gn : ∀ i, g.get? (g.objs.size + i) = .none := fun i => by
    cases q : g.get? (g.objs.size + i) with
    | none => rfl
    | some o => exact absurd (Heap.lt_size q) (Nat.not_lt.mpr (Nat.le_add_right _ i))
  refine init_run (s := ⟨h₀, ge, d, tk + _, os⟩) (g := g) (dx := g.objs.size) (x := g.objs.size + 1) G X CK hg ⟨hns, fun b o e => hst b o (st b o e), Nat.le_add_right _ 2⟩ ?_ (Nat.succ_ne_self _) rfl rfl rfl rfl rfl rfl hds hdl ?_
  · intro q hq
    rcases List.mem_cons.mp hq with rfl | hq
    · exact ⟨hst _ _ (by heap_get), Nat.ne_of_lt (Nat.lt_succ_self _), gn 1⟩
    rw [List.mem_singleton.mp hq]
    exact ⟨hst _ _ (by heap_get), Nat.ne_of_lt (Nat.lt_add_of_pos_right (Nat.zero_lt_succ 1)), gn 0⟩
  · intro h' tk' a0 a1 a2 a3 a4 k0 k1 k2 k3 k4 l n s1 s2 s3 s4
    exact h h' tk' a0 a1 a2 a3 a4 k0 k1 k2 k3 k4 l n s1 s2 s3 s4
/-- ScriptCosts(..) -/
theorem E.newCost {p pos : Pos} {e : Expr} {es : List Expr} {P : Res → Dk → Prop} (G : Gnd H0 mg mb) (X : KF.In H0) (CK : CostK KF) (hM : MethIn KF 28 (Str.ofString "ScriptCosts.__init__") (argsOf (methAt 0)) (bodyOf (methAt 0)) (scopeOf (methAt 0))) (V : EnvOk env)
    (hk : env.kindOf (Str.ofString "ScriptCosts") = some .globalImplicit) (hm : mg (Str.ofString "ScriptCosts") = some (.ref 45)) (hn : noStar (e :: es) = true)
    (h : Er prog w H0 (k + 1) env σ (e :: es) dk [] fun ρs dk₁ => ∃ (p0 p1 p2 p3 : Int) (fl : Fl) (ds : List Int), ρs = [.dat (.int p0), .dat (.int p1), .dat (.int p2), .dat (.int p3), .lst fl (ds.map .int)] ∧ ds.length ≤ 1000 ∧ ∀ dx, P (.cost true dx [p0, p1, p2, p3] ds) dk₁) :
    E prog w H0 (k + 1) env σ dk (eval (.Call (.Name (Str.ofString "ScriptCosts") p) (e :: es) [] pos) env) P := by
  intro A s m ok R Q X' hQ
  refine Call_ (ld_gl G V R.base hk hm ?_) (by rfl)
  refine callWith_KW (h₀ := H0) (kws := []) X CK.keep (by rfl) (er_spliced (m := m) ok (e :: es) dk [] [] s s.heap _ _ hn h R .nil .refl fun vs h₁ tk₁ ρs dk₁ hP R₁ K₁ Vs => wpAny_evalAll_nil ⟨X.keeps R₁.base, ?_⟩) (by show (List.any _ _ || _) = false; rw [plain_back hn]; rfl) (noStar_eq hn)
  rw [List.nil_append] at Vs
  obtain ⟨p0, p1, p2, p3, fl, ds, rfl, hdl, hP⟩ := hP
  obtain ⟨v0, v1, v2, v3, v4, rfl⟩ : ∃ v0 v1 v2 v3 v4, vs = [v0, v1, v2, v3, v4] := by
    exact len5 Vs.len
  obtain ⟨t0, rfl, _⟩ := reads_int_inv (Vs.val 0 _ _ rfl rfl).2
  obtain ⟨t1, rfl, _⟩ := reads_int_inv (Vs.val 1 _ _ rfl rfl).2
  obtain ⟨t2, rfl, _⟩ := reads_int_inv (Vs.val 2 _ _ rfl rfl).2
  obtain ⟨t3, rfl, _⟩ := reads_int_inv (Vs.val 3 _ _ rfl rfl).2
  obtain ⟨a4, rfl, hl4, _⟩ := (Vs.val 4 _ _ rfl rfl).2
  have Xh := X.keeps R₁.base
  refine wpAny_call (make_core (makes_of Xh CK.made) (looks_findIn Xh CK.init) (fun self => bind_fn Xh self (beq_iff_eq.mp hM.fn)) (.inl rfl) ?_)
  refine init_call (ds := ds.map .int) G Xh CK hM R₁.base ?_ hl4 (by rw [List.length_map]; exact hdl) rfl ?_
  · have := ok.dep
    have hw : ∀ (l : List Value) (kw : List (Str × Value)), (Code.builtin "type.__call__" ⟨.ref 45 :: l, kw⟩).weight = 1 := fun _ _ => rfl
    show A.depth + Code.weight _ < 1000
    rw [hw]; omega
  · intro h' tk' a0 a1 a2 a3 a4 k0 k1 k2 k3 k4 l n st g1 g2 hl
    refine ⟨rfl, ?_⟩
    have st' : Stays h₁ h' := st
    refine hQ _ h' tk' _ dk₁ (hP h₁.objs.size) (R₁.stays st') (K₁.trans (KeepE.of_stays st')) ⟨_, rfl, ⟨_, _, n, l, g1, rfl, g2, rfl, ⟨rfl, a0, a1, a2, a3, a4, k0, k1, k2, k3, k4, t0, t1, t2, t3, p0, p1, p2, p3, rfl, rfl⟩, hl⟩, fun _ => ⟨?_, ?_⟩⟩
    · exact K₁.dom.none (past_none _ 1)
    · exact K₁.dom.none (new_none _)
end
end
section -- F16
section
variable {prog : Program} {w : World} {H0 : Heap} {mg mb : Vals} {k : Nat} {KF : Frag}
theorem FnM.intro {fa : Addr} {qual : Str} {params : Arguments} {body : List Stmt} {scope : Scope} {ns : List Str} {args : List Res} {P : Res → Prop} (G : Gnd H0 mg mb) (XK : KF.In H0) (hM : MethIn KF fa qual params body scope) (hl : ns.length = args.length)
    (hbind : ∀ (vs : List Value) (nm : Str) (doc pm cdv ct : Value) (an : Option Addr), vs.length = ns.length → bindArgs { name := nm, qualname := qual, params, body := .stmts body, scope, globals := mainGlobals, closure := [], defaults := .none, kwdefaults := .none, doc, pyModule := pm, annotations := an, code := cdv, closureTuple := ct, builtins := builtinsNs } ⟨vs, []⟩ = pure (ns.zip vs))
    (hloc : ∀ x ∈ ns, scope.names.lookup x = some .local) (hcell : ∀ x ∈ scope.names, x.2 ≠ .cell) (hco : scope.isCoroutine = false) (hgen : scope.isGenerator = false) (hk : scope.kind = .function)
    (h : ∀ L cd, S prog w H0 k (envOf qual scope L fa cd) (setAll noSto ns (args.map Res.ent)) .none (execs body (envOf qual scope L fa cd)) fun o => match o with | .ret ρ _ => ρ.isNew = true ∧ P ρ | .next .. => P (.dat .none)) :
    FnM prog w H0 (k + 1) fa args P := by
  intro A s vs ok hB ha Q X hQ
  obtain ⟨o, fd, ho, hdat, hcr, hbody, hsc, hpa, hq, hgl, hcl, hbi, hdf, hkw⟩ := hM.at_
  obtain ⟨nm, qn, pa, bo, sc, gl, cl, df, kd, doc, pm, an, cd, ct, bi⟩ := fd
  dsimp only at hcr hbody hsc hpa hq hgl hcl hbi hdf hkw
  subst hbody hsc hpa hq hgl hcl hbi hdf hkw
  have hlen : vs.length = ns.length := by
    rw [ArgsOk.len ha, hl]
  refine wpAny_call (codeAny_call_def  (binds := ns.zip vs) ok.room (hB fa o (XK _ _ ho)) hdat (G.lim.keeps hB) ((codeRec_of XK hcr).keeps hB) rfl (BindsTo.of_eq (hbind vs nm doc pm cd ct an hlen)) hcell (fun x hx => hloc x.1 (by obtain ⟨x1, x2⟩ := x; exact (List.of_mem_zip hx).1)) (fun h₀ hns hst => ?_) hco hgen hk)
  have hst' : Stays s.heap h₀ := hst
  have hnL : s.heap.get? s.heap.objs.size = .none := new_none _
  have ha₀ : ArgsOk h₀ vs args := by
    exact ArgsOk.stays hst' ha
  have R : Rel prog w H0 (envOf qn sc s.heap.objs.size fa cd) h₀ (fun x => (ns.zip vs).reverse.lookup x) (setAll noSto ns (args.map Res.ent)) .none := by
    refine ⟨fun b o e => hst b o (hB b o e), ⟨⟨_, hns, fun x _ => rfl⟩, (by intro x c _ hc; cases hc)⟩, hB.dom.none hnL, (by intro x c hc; cases hc), ?_, ?_, ?_, (by intro l c t q; cases q)⟩
    · intro x e hx
      rw [lookup_pairs (α := Nat)] at hx
      have : (noSto : Sto) x = .none := rfl
      rw [this, Option.or_none] at hx
      obtain ⟨v, hv, hh⟩ := lookup_vals ha₀ hl x e hx
      exact ⟨v, hv, hh H0⟩
    · intro x xs hx
      exfalso
      rcases setAll_from hx with q | q
      · obtain ⟨ρ, _, hρ⟩ := List.mem_map.mp q
        cases ρ <;> cases hρ
      · cases q
    · intro x dx ps ds hx
      rcases setAll_from hx with q | q
      · exact ArgsOk.costNe ha dx ps ds q
      · cases q
  have noOwn : ∀ b, ¬ OwnA (fun x => (ns.zip vs).reverse.lookup x) (setAll noSto ns (args.map Res.ent)) b := by
    rintro b ⟨x, xs, hx, _⟩
    rcases setAll_from hx with q | q
    · obtain ⟨ρ, _, hρ⟩ := List.mem_map.mp q
      cases ρ <;> cases hρ
    · cases q
  have noMut : ∀ b o, s.heap.get? b = some o → ¬ Mut (envOf qn sc s.heap.objs.size fa cd) (fun x => (ns.zip vs).reverse.lookup x) (setAll noSto ns (args.map Res.ent)) .none b := by
    rintro b o hb (q | ⟨x, _, q⟩ | q | ⟨q, _⟩)
    · have q' : b = s.heap.objs.size := q
      subst q'; rw [hnL] at hb; cases hb
    · cases q
    · exact noOwn b q
    · cases q
  refine h s.heap.objs.size cd (A.deeper (envOf qn sc s.heap.objs.size fa cd)) _ _ (ok.deeper _) R _ _ fun f h' tk o hK hO => ?_
  cases o with
  | next σ' dk' =>
    obtain ⟨rfl, m', R', S'⟩ := hO
    exact hQ .none h' tk (.dat .none) hK rfl (fun b o hb => S'.get b o (hst b o hb) (noMut b o hb)) .none
  | ret ρ dk' =>
    obtain ⟨v, m', σ', rfl, R', S', hv⟩ := hO
    obtain ⟨hnew, hP⟩ := hK
    refine hQ v h' tk ρ hP hnew (fun b o hb => S'.get b o (hst b o hb) (noMut b o hb)) ?_
    cases ρ with
    | dat d => exact hv
    | lst fl xs =>
      cases fl with
      | fresh =>
        obtain ⟨b, e1, e2, e3⟩ := hv
        exact ⟨b, e1, e2, hst'.dom.none ((e3 rfl).elim id fun q => absurd q (noOwn b))⟩
      | safe => cases hnew
      | ownd => cases hnew
    | deck l c t =>
      obtain ⟨b, e1, e2, e3, e4⟩ := hv
      exact ⟨b, e1, e2, hst'.dom.none e3, hst'.dom.none e4⟩
    | cost fr dx ps ds =>
      cases fr with
      | true =>
        obtain ⟨b, e1, e2, e3⟩ := hv
        exact ⟨b, e1, e2, hst'.dom.none (e3 rfl).1, hst'.dom.none (e3 rfl).2⟩
      | false => cases hnew
theorem c_deleting (G : Gl H0 mg mb) (X : KF.In H0) (CK : CostK KF) (hM : MethIn KF 35 (Str.ofString "ScriptCosts.deleting") (argsOf (methAt 1)) (bodyOf (methAt 1)) (scopeOf (methAt 1))) (dx : Addr) (p0 p1 p2 p3 : Int) (ds : List Int) (kd : Int) :
    FnM prog w H0 (k + 1) 35 [.cost false dx [p0, p1, p2, p3] ds, .dat (.int kd)] fun ρ => ρ = .dat (.int (if kd = 1 then p1 else p0)) := by
  obtain ⟨t1, hg1⟩ := G.going
  refine FnM.intro (ns := [Str.ofString "self", Str.ofString "kind"]) G.gnd X hM rfl (fun vs nm doc pm cdv ct an hl => by obtain ⟨v, u, rfl⟩ := len2 hl; rfl) (by decide) (by decide) rfl rfl rfl fun L cd => ?_
  have V : EnvOk (envOf (Str.ofString "ScriptCosts.deleting") (scopeOf (methAt 1)) L 35 cd) := fenv_ok _ _ _ _ _ rfl
  have h0 : setAll noSto [Str.ofString "self", Str.ofString "kind"] ([Res.cost false dx [p0, p1, p2, p3] ds, .dat (.int kd)].map Res.ent) (Str.ofString "self") = some (.cost dx [p0, p1, p2, p3] ds) := rfl
  have h1 : setAll noSto [Str.ofString "self", Str.ofString "kind"] ([Res.cost false dx [p0, p1, p2, p3] ds, .dat (.int kd)].map Res.ent) (Str.ofString "kind") = some (.dat (.int kd)) := rfl
  generalize setAll noSto [Str.ofString "self", Str.ofString "kind"] ([Res.cost false dx [p0, p1, p2, p3] ds, .dat (.int kd)].map Res.ent) = σ at h0 h1 ⊢
  refine S.cons ?_
  by_cases hk : kd = 1
  · rw [if_pos hk]
    k_call_by "go" 0
    refine E.costInt X CK V (.inl rfl) h0 (by simp [costNames]) (fun es t0 t1 t2 t3 q0 q1 q2 q3 hp g0 g1 g2 g3 => by cases hp; exact ⟨_, g1⟩) ?_ (by decide)
    k_call_by "go" 0
  · rw [if_neg hk]
    k_call_by "go" 0
    refine E.costInt X CK V (.inl rfl) h0 (by simp [costNames]) (fun es t0 t1 t2 t3 q0 q1 q2 q3 hp g0 g1 g2 g3 => by cases hp; exact ⟨_, g0⟩) ?_ (by decide)
    k_call_by "go" 0
theorem c_inserting (G : Gl H0 mg mb) (X : KF.In H0) (CK : CostK KF) (hM : MethIn KF 42 (Str.ofString "ScriptCosts.inserting") (argsOf (methAt 2)) (bodyOf (methAt 2)) (scopeOf (methAt 2))) (dx : Addr) (p0 p1 p2 p3 : Int) (ds : List Int) (kd : Int) (f : Nat) (hf : f < ds.length) (hd : ds.length ≤ 1000) :
    FnM prog w H0 (k + 1) 42 [.cost false dx [p0, p1, p2, p3] ds, .dat (.int kd), .dat (.int f)] fun ρ => ρ = .dat (.int ((if kd = 2 then p3 else p2) + ds.getD f 0)) := by
  obtain ⟨t1, hg1⟩ := G.coming
  refine FnM.intro (ns := [Str.ofString "self", Str.ofString "kind", Str.ofString "new"]) G.gnd X hM rfl (fun vs nm doc pm cdv ct an hl => by obtain ⟨v, u, t, rfl⟩ := len3 hl; rfl) (by decide) (by decide) rfl rfl rfl fun L cd => ?_
  have V : EnvOk (envOf (Str.ofString "ScriptCosts.inserting") (scopeOf (methAt 2)) L 42 cd) := fenv_ok _ _ _ _ _ rfl
  have h0 : setAll noSto [Str.ofString "self", Str.ofString "kind", Str.ofString "new"] ([Res.cost false dx [p0, p1, p2, p3] ds, .dat (.int kd), .dat (.int f)].map Res.ent) (Str.ofString "self") = some (.cost dx [p0, p1, p2, p3] ds) := rfl
  have h1 : setAll noSto [Str.ofString "self", Str.ofString "kind", Str.ofString "new"] ([Res.cost false dx [p0, p1, p2, p3] ds, .dat (.int kd), .dat (.int f)].map Res.ent) (Str.ofString "kind") = some (.dat (.int kd)) := rfl
  have h2 : setAll noSto [Str.ofString "self", Str.ofString "kind", Str.ofString "new"] ([Res.cost false dx [p0, p1, p2, p3] ds, .dat (.int kd), .dat (.int f)].map Res.ent) (Str.ofString "new") = some (.dat (.int f)) := rfl
  generalize setAll noSto [Str.ofString "self", Str.ofString "kind", Str.ofString "new"] ([Res.cost false dx [p0, p1, p2, p3] ds, .dat (.int kd), .dat (.int f)].map Res.ent) = σ at h0 h1 h2 ⊢
  refine S.cons ?_
  by_cases hk : kd = 2
  · rw [if_pos hk]
    k_call_by "go" 0
    refine E.costInt X CK V (.inl rfl) h0 (by simp [costNames]) (fun es t0 t1 t2 t3 q0 q1 q2 q3 hp g0 g1 g2 g3 => by cases hp; exact ⟨_, g3⟩) ?_ (by decide)
    k_call_by "go" 0
    refine E.costDraws X CK V (.inl rfl) h0 ?_ (by decide)
    k_call_by "go" 0
    refine ⟨_, SubR.lst _ _ _ _ (by omega) (by omega) (at?_ints hf), ?_⟩
    k_call_by "go" 0
  · rw [if_neg hk]
    k_call_by "go" 0
    refine E.costInt X CK V (.inl rfl) h0 (by simp [costNames]) (fun es t0 t1 t2 t3 q0 q1 q2 q3 hp g0 g1 g2 g3 => by cases hp; exact ⟨_, g2⟩) ?_ (by decide)
    k_call_by "go" 0
    refine E.costDraws X CK V (.inl rfl) h0 ?_ (by decide)
    k_call_by "go" 0
    refine ⟨_, SubR.lst _ _ _ _ (by omega) (by omega) (at?_ints hf), ?_⟩
    k_call_by "go" 0
end
end
section -- F17
section
variable {prog : Program} {w : World} {H0 : Heap} {mg mb : Vals} {k : Nat} {KF : Frag}
theorem FnM.eqM {fa : Addr} {args : List Res} {ρ₀ : Res} {P : Res → Prop} (h : FnM prog w H0 k fa args fun ρ => ρ = ρ₀) (hp : P ρ₀) : FnM prog w H0 k fa args P :=
  fun A s vs ok hB ha Q X hQ => h A s vs ok hB ha Q X fun v h' tk ρ e => hQ v h' tk ρ (e ▸ hp)
noncomputable def costStep (p0 p1 p2 p3 : Int) (ds : List Int) (t : Int × Int) (s : Stp) : Int × Int :=
  (match s with
  | .keep _ _ => t.1
  | .draw _ f => t.1 + ds.getD f 0
  | .del _ => t.1 + (if t.2 = 1 then p1 else p0)
  | .ins f => t.1 + ((if t.2 = 2 then p3 else p2) + ds.getD f 0), s.kind)
/-- all that is known of the class -/
structure ClsIn (KF : Frag) (H0 : Heap) (mg : Vals) : Prop where
  X : KF.In H0
  CK : CostK KF
  name : mg (Str.ofString "ScriptCosts") = some (.ref 45)
  m0 : MethIn KF 28 (Str.ofString "ScriptCosts.__init__") (argsOf (methAt 0)) (bodyOf (methAt 0)) (scopeOf (methAt 0))
  m1 : MethIn KF 35 (Str.ofString "ScriptCosts.deleting") (argsOf (methAt 1)) (bodyOf (methAt 1)) (scopeOf (methAt 1))
  m2 : MethIn KF 42 (Str.ofString "ScriptCosts.inserting") (argsOf (methAt 2)) (bodyOf (methAt 2)) (scopeOf (methAt 2))
noncomputable abbrev I_cost (dx : Addr) (p0 : Int) (p1 : Int) (p2 : Int) (p3 : Int) (ds : List Int) (ss : List Stp) (r : List Stp) (σ : Sto) (dk : Dk) : Prop := dk = .none ∧ σ (Str.ofString "costs") = some (.cost dx [p0, p1, p2, p3] ds) ∧ (∀ s ∈ r, ∀ f, s.far? = some f → f < ds.length) ∧ ∃ t : Int × Int, σ (Str.ofString "total") = some (.dat (.int t.1)) ∧ σ (Str.ofString "kind") = some (.dat (.int t.2)) ∧ r.foldl (costStep p0 p1 p2 p3 ds) t = ss.foldl (costStep p0 p1 p2 p3 ds) (0, 0)
theorem c_cost (G : Gl H0 mg mb) (C : ClsIn KF H0 mg) (fl : Fl) (fr : Bool) (dx : Addr) (ss : List Stp) (p0 p1 p2 p3 : Int) (ds : List Int) (hs : ss.length ≤ 1000) (hd : ds.length ≤ 1000) (hf : ∀ s ∈ ss, ∀ f, s.far? = some f → f < ds.length) :
    FnP prog w H0 mg (k + 2) (nameAt (stmtAt 6)) [.lst fl (ss.map Stp.d), .cost fr dx [p0, p1, p2, p3] ds] fun ρ => ρ = .dat (.int (ss.foldl (costStep p0 p1 p2 p3 ds) (0, 0)).1) := by
  obtain ⟨tg, hg0⟩ := G.plain
  have hF5 : FnAt H0 mg (Str.ofString "script_kind") _ _ _ := G.fn 5
  have cK : ∀ s : Stp, FnP prog w H0 mg (k + 1) (Str.ofString "script_kind") [.dat s.d] fun ρ => ρ = .dat (.int s.kind) := fun s => c_kind G s
  refine FnP.intro (ns := [Str.ofString "script", Str.ofString "costs"]) G.gnd (G.fn 6) rfl (fun vs pm cd doc hl => by obtain ⟨v, u, rfl⟩ := len2 hl; rfl) (by decide) (by decide) rfl rfl rfl fun L a cd => ?_
  have V : EnvOk (fe 6 L a cd) := fenv_ok _ _ _ _ _ rfl
  have h0 : setAll noSto [Str.ofString "script", Str.ofString "costs"] ([Res.lst fl (ss.map Stp.d), .cost fr dx [p0, p1, p2, p3] ds].map Res.ent) (Str.ofString "script") = some (.lst false (ss.map Stp.d)) := rfl
  have h1 : setAll noSto [Str.ofString "script", Str.ofString "costs"] ([Res.lst fl (ss.map Stp.d), .cost fr dx [p0, p1, p2, p3] ds].map Res.ent) (Str.ofString "costs") = some (.cost dx [p0, p1, p2, p3] ds) := rfl
  generalize setAll noSto [Str.ofString "script", Str.ofString "costs"] ([Res.lst fl (ss.map Stp.d), .cost fr dx [p0, p1, p2, p3] ds].map Res.ent) = σ at h0 h1 ⊢
  refine S.cons ?_
  k_call_by "tup2" 0
  k_call_by "go" 0
  k_call_by "for" 0
  k_call_by "go" 0
  refine ⟨_, _, rfl, (by decide), ?_⟩
  refine ForL.ind (f := Stp.d) (I_cost dx p0 p1 p2 p3 ds ss) ?_ ?_ ss _ _ ?_
  · rintro s r σ dk ⟨rfl, h1, hr, ⟨t1, t2⟩, h3, h4, hfo⟩
    dsimp only at h3 h4
    have hs1 := hr s (.head _)
    have hr' : ∀ s ∈ r, ∀ f, s.far? = some f → f < ds.length := fun x hx => hr x (.tail _ hx)
    rw [List.foldl_cons] at hfo
    refine ⟨_, rfl, ?_⟩
    clear hr
    have kdr : FnP prog w H0 mg (k + 1) (Str.ofString "script_kind") [.dat s.d] fun ρ => ρ = .dat (.int s.kind) := cK s
    clear cK
    cases s with
    | keep n f =>
      simp only [Stp.d] at kdr ⊢
      k_call_by "go" 0
      k_call_by "asg" 0
      refine E.call1 hF5 G.gnd V rfl ?_ rfl (by decide)
      k_call_by "go" 0
      refine kdr.eq ?_
      k_call_by "go" 0
      exact ⟨(by k_call_by "lk" 0), hr', (t1, 0), (by k_call_by "lk" 0), (by k_call_by "lkq" 0; rfl), hfo⟩
    | draw n f =>
      have hlt := hs1 f rfl
      simp only [Stp.d] at kdr ⊢
      k_call_by "go" 0
      refine E.costDraws C.X C.CK V (.inl rfl) (by k_call_by "lk" 0) ?_ (by decide)
      k_call_by "go" 0
      refine ⟨_, SubR.lst _ _ _ _ (by omega) (by omega) (at?_ints hlt), ?_⟩
      k_call_by "go" 0
      k_call_by "asg" 0
      refine E.call1 hF5 G.gnd V rfl ?_ rfl (by decide)
      k_call_by "go" 0
      refine kdr.eq ?_
      k_call_by "go" 0
      exact ⟨(by k_call_by "lk" 0), hr', (t1 + ds.getD f 0, 0), (by k_call_by "lk" 0), (by k_call_by "lkq" 0; rfl), hfo⟩
    | del n =>
      simp only [Stp.d] at kdr ⊢
      k_call_by "go" 0
      refine E.callM C.X C.CK V (.inl rfl) (by k_call_by "lk" 0) (by decide) C.m1 C.CK.del (fun es g5 g6 => g5) rfl ?_ ⟨_, rfl⟩
      refine Er.cons ?_
      k_call_by "go" 0
      refine Er.nil ?_
      refine (c_deleting G C.X C.CK C.m1 dx p0 p1 p2 p3 ds t2).eqM ?_
      k_call_by "go" 0
      k_call_by "asg" 0
      refine E.call1 hF5 G.gnd V rfl ?_ rfl (by decide)
      k_call_by "go" 0
      refine kdr.eq ?_
      k_call_by "go" 0
      exact ⟨(by k_call_by "lk" 0), hr', (t1 + (if t2 = 1 then p1 else p0), 1), (by k_call_by "lk" 0), (by k_call_by "lkq" 0; rfl), hfo⟩
    | ins f =>
      have hlt := hs1 f rfl
      simp only [Stp.d] at kdr ⊢
      k_call_by "go" 0
      refine E.callM C.X C.CK V (.inl rfl) (by k_call_by "lk" 0) (by decide) C.m2 C.CK.ins (fun es g5 g6 => g6) rfl ?_ ⟨_, rfl⟩
      refine Er.cons ?_
      k_call_by "go" 0
      refine Er.cons ?_
      k_call_by "go" 0
      refine Er.nil ?_
      refine (c_inserting G C.X C.CK C.m2 dx p0 p1 p2 p3 ds t2 f hlt hd).eqM ?_
      k_call_by "go" 0
      k_call_by "asg" 0
      refine E.call1 hF5 G.gnd V rfl ?_ rfl (by decide)
      k_call_by "go" 0
      refine kdr.eq ?_
      k_call_by "go" 0
      exact ⟨(by k_call_by "lk" 0), hr', (t1 + ((if t2 = 2 then p3 else p2) + ds.getD f 0), 2), (by k_call_by "lk" 0), (by k_call_by "lkq" 0; rfl), hfo⟩
  · rintro σ dk ⟨rfl, h1, _, t, h3, h4, hfo⟩
    rw [List.foldl_nil] at hfo
    subst hfo
    k_call_by "go" 0
  · exact ⟨rfl, (by k_call_by "lk" 0), hf, (0, 0), (by k_call_by "lk" 0), (by k_call_by "lk" 0), rfl⟩
end
end
section -- P1
theorem delR_cons (A B : List PyData) (x : PyData) : delR (A ++ x :: B) A.length 1 = A ++ B ++ [PyData.none] := by
  unfold delR
  rw [List.take_left, show A ++ x :: B = (A ++ [x]) ++ B from (List.append_assoc A [x] B).symm, List.drop_left' (by rw [List.length_append]; rfl)]; rfl
theorem rep_one (m : Nat) : List.replicate m PyData.none ++ [PyData.none] = List.replicate (m + 1) PyData.none := List.replicate_succ'.symm
theorem delR_succ {L : List PyData} {a c : Nat} (h : a + c < L.length) : delR L a (c + 1) = delR (delR L a c) a 1 := by
  have ha : (L.take a).length = a := by rw [List.length_take]; omega
  have e : delR L a c = L.take a ++ L[a + c] :: (L.drop (a + c + 1) ++ List.replicate c PyData.none) := by
    unfold delR; rw [List.drop_eq_getElem_cons h, List.append_assoc]; rfl
  have := delR_cons (L.take a) (L.drop (a + c + 1) ++ List.replicate c PyData.none) L[a + c]
  rw [ha] at this
  rw [e, this, List.append_assoc, List.append_assoc, rep_one, ← List.append_assoc]; rfl
theorem delR_one {K rows : List PyData} {n m : Nat} (h : n < rows.length) : delR (K ++ rows.drop n ++ List.replicate m PyData.none) K.length 1 = K ++ rows.drop (n + 1) ++ List.replicate (m + 1) PyData.none := by
  rw [List.drop_eq_getElem_cons h, List.append_assoc, List.cons_append, delR_cons, ← rep_one]; simp only [List.append_assoc]
theorem len_tr {L : List PyData} {f m z : Nat} (h : L.length = f + m + z) : (L.take f ++ List.replicate m PyData.none).length = f + m := by
  rw [List.length_append, List.length_replicate, len_tk (by rw [h, Nat.add_assoc]; exact Nat.le_add_right _ _)]
theorem insR_nf {L : List PyData} {f m z : Nat} (h : L.length = f + m + z) : insR L f m = L.take f ++ List.replicate m PyData.none ++ (L.drop f).take z := by
  unfold insR
  rw [List.take_append, len_tr h, List.take_of_length_le (by rw [len_tr h, h]; exact Nat.le_add_right _ _), h, Nat.add_sub_cancel_left]
theorem insR_succ {L : List PyData} {f c : Nat} (h : f + c < L.length) : insR L f (c + 1) = insR (insR L f c) (f + c) 1 := by
  obtain ⟨z, hz⟩ := Nat.exists_eq_add_of_lt h
  have h1 := len_tr (f := f) (m := c) (z := z + 1) hz
  have hl : (insR L f c).length = f + c + 1 + z := by
    rw [insR_nf (z := z + 1) hz, List.length_append, h1, len_tk (by rw [List.length_drop, hz, show f + c + z + 1 = f + (c + (z + 1)) by rw [Nat.add_assoc, Nat.add_assoc], Nat.add_sub_cancel_left]; exact Nat.le_add_left _ _), Nat.add_assoc (f + c), Nat.add_comm 1 z]
  rw [insR_nf (L := insR L f c) hl, insR_nf (m := c + 1) (z := z) (by rw [hz, ← Nat.add_assoc, Nat.add_right_comm]), insR_nf (m := c) (z := z + 1) hz, List.take_left' h1, List.drop_left' h1, List.take_take, Nat.min_eq_left (Nat.le_succ z), ← rep_one]
  simp only [List.append_assoc]; rfl
theorem insR_one {D R : List PyData} {q : Nat} : insR (D ++ R ++ List.replicate (q + 1) PyData.none) D.length 1 = (D ++ [PyData.none]) ++ R ++ List.replicate q PyData.none := by
  unfold insR
  rw [List.append_assoc, List.take_left, List.drop_left, ← rep_one, show D ++ List.replicate 1 PyData.none ++ (R ++ (List.replicate q PyData.none ++ [PyData.none])) = (D ++ [PyData.none] ++ R ++ List.replicate q PyData.none) ++ [PyData.none] by simp only [List.append_assoc]; rfl]
  exact List.take_left' (by simp only [List.length_append, List.length_replicate, List.length_singleton]; omega)
theorem scr_t (xs : List PyData) (top bot m : Nat) : scrR xs top bot m true = xs.take top ++ (((xs.drop top).take (bot + 1 - top)).drop m ++ List.replicate m PyData.none) ++ xs.drop (bot + 1) := rfl
theorem scr_f (xs : List PyData) (top bot m : Nat) : scrR xs top bot m false = xs.take top ++ (List.replicate m PyData.none ++ ((xs.drop top).take (bot + 1 - top)).take (((xs.drop top).take (bot + 1 - top)).length - m)) ++ xs.drop (bot + 1) := rfl
theorem cut4 (rows : List PyData) (p x y : Nat) (h : p + x + y ≤ rows.length) : ∃ A X Y Z : List PyData, rows = A ++ (X ++ (Y ++ Z)) ∧ A.length = p ∧ X.length = x ∧ Y.length = y := by
  have h1 : p ≤ rows.length := Nat.le_trans (Nat.le_add_right _ _) (Nat.le_trans (Nat.le_add_right _ _) h)
  have h2 : x + y ≤ (rows.drop p).length := by rw [List.length_drop]; exact Nat.le_sub_of_add_le (by rw [Nat.add_comm, ← Nat.add_assoc]; exact h)
  have h3 : x ≤ (rows.drop p).length := Nat.le_trans (Nat.le_add_right _ _) h2
  have h4 : y ≤ ((rows.drop p).drop x).length := by rw [List.length_drop]; exact Nat.le_sub_of_add_le (by rw [Nat.add_comm]; exact h2)
  exact ⟨rows.take p, (rows.drop p).take x, ((rows.drop p).drop x).take y, ((rows.drop p).drop x).drop y, by rw [List.take_append_drop, List.take_append_drop, List.take_append_drop], List.length_take_of_le h1, List.length_take_of_le h3, List.length_take_of_le h4⟩
section
variable {A X Y Z : List PyData} {a x y m : Nat}
theorem len_ab (hA : A.length = a) (hX : X.length = x) : (A ++ X).length = a + x := by rw [List.length_append, hA, hX]
theorem delR_at (hA : A.length = a) (hX : X.length = m) : delR (A ++ (X ++ Z)) a m = A ++ (Z ++ List.replicate m PyData.none) := by
  unfold delR
  rw [List.take_left' hA, ← List.append_assoc A X, List.drop_left' (len_ab hA hX), List.append_assoc]
theorem insR_at (hA : A.length = a) : insR (A ++ (Z ++ List.replicate m PyData.none)) a m = A ++ (List.replicate m PyData.none ++ Z) := by
  unfold insR
  rw [List.take_left' hA, List.drop_left' hA, ← List.append_assoc (A ++ List.replicate m PyData.none), List.take_left' (by simp only [List.length_append, List.length_replicate]; rw [Nat.add_assoc, Nat.add_comm m]), List.append_assoc]
end
theorem scr_up {rows : List PyData} {a b m : Nat} (h0 : 0 < m) (h1 : a < b) (h2 : b + m ≤ rows.length) : scrR rows a (b + m - 1) m true = insR (delR rows a m) b m := by
  obtain ⟨y, rfl⟩ := Nat.exists_eq_add_of_le (Nat.le_of_lt h1)
  have e0 : a + y + m - 1 + 1 = a + (m + y) := by rw [Nat.sub_add_cancel (Nat.le_trans h0 (Nat.le_add_left m (a + y))), Nat.add_assoc, Nat.add_comm y m]
  obtain ⟨A, X, Y, Z, rfl, hA, hX, hY⟩ := cut4 rows a m y (by rw [Nat.add_right_comm]; exact h2)
  have e1 : delR (A ++ (X ++ (Y ++ Z))) a m = (A ++ Y) ++ (Z ++ List.replicate m PyData.none) := by
    rw [delR_at hA hX]; simp only [List.append_assoc]
  have e2 : scrR (A ++ (X ++ (Y ++ Z))) a (a + y + m - 1) m true = (A ++ Y) ++ (List.replicate m PyData.none ++ Z) := by
    rw [scr_t, e0, Nat.add_sub_cancel_left, List.take_left' hA, List.drop_left' hA, ← List.append_assoc X, List.take_left' (len_ab hX hY), List.drop_left' hX, ← List.append_assoc A (X ++ Y) Z, List.drop_left' (len_ab hA (len_ab hX hY))]; simp only [List.append_assoc]
  rw [e1, e2, insR_at (len_ab hA hY)]
theorem scr_down {rows : List PyData} {a b m : Nat} (h0 : 0 < m) (h1 : b < a) (h2 : a + m ≤ rows.length) : scrR rows b (a + m - 1) m false = insR (delR rows a m) b m := by
  obtain ⟨y, rfl⟩ := Nat.exists_eq_add_of_le (Nat.le_of_lt h1)
  have e0 : b + y + m - 1 + 1 = b + (y + m) := by rw [Nat.sub_add_cancel (Nat.le_trans h0 (Nat.le_add_left m (b + y))), Nat.add_assoc]
  obtain ⟨A, Y, X, Z, rfl, hA, hY, hX⟩ := cut4 rows b y m h2
  have e1 : delR (A ++ (Y ++ (X ++ Z))) (b + y) m = A ++ ((Y ++ Z) ++ List.replicate m PyData.none) := by
    rw [← List.append_assoc A Y, delR_at (len_ab hA hY) hX]; simp only [List.append_assoc]
  have e2 : scrR (A ++ (Y ++ (X ++ Z))) b (b + y + m - 1) m false = A ++ (List.replicate m PyData.none ++ (Y ++ Z)) := by
    rw [scr_f, e0, Nat.add_sub_cancel_left, List.take_left' hA, List.drop_left' hA, ← List.append_assoc Y, List.take_left' (len_ab hY hX), len_ab hY hX, Nat.add_sub_cancel, List.take_left' hY, ← List.append_assoc A (Y ++ X) Z, List.drop_left' (len_ab hA (len_ab hY hX))]; simp only [List.append_assoc]
  rw [e1, e2, insR_at hA]
end
section -- P2
theorem pick_nat (xs : List PyData) (i : Nat) (h : i < xs.length) : some (pick xs (i : Int)) = xs[i]? := by
  unfold pick
  rw [List.getD_eq_getElem?_getD, Int.toNat_natCast, List.getElem?_eq_getElem h]; rfl
theorem eq_map_range {L : List PyData} {n : Nat} {g : Nat → PyData} (hl : L.length = n) (h : ∀ i, i < n → L[i]? = some (g i)) : L = (List.range n).map g := by
  apply List.ext_getElem?
  intro i
  rw [List.getElem?_map]
  by_cases hi : i < n
  · rw [List.getElem?_range hi, h i hi]; rfl
  · rw [List.getElem?_eq_none (by omega), List.getElem?_eq_none (by rw [List.length_range]; omega)]; rfl
section
variable {A B C : List PyData} {i a b : Nat}
theorem get_fst (ha : A.length = a) (h : i < a) : (A ++ B ++ C)[i]? = A[i]? := by
  rw [List.append_assoc, List.getElem?_append_left (by omega)]
theorem get_mid (ha : A.length = a) (hb : B.length = b) (h1 : a ≤ i) (h2 : i < a + b) : (A ++ B ++ C)[i]? = B[i - a]? := by
  rw [List.getElem?_append_left (by rw [List.length_append]; omega), List.getElem?_append_right (by omega), ha]
theorem get_lst (ha : A.length = a) (hb : B.length = b) (h : a + b ≤ i) : (A ++ B ++ C)[i]? = C[i - (a + b)]? := by
  rw [List.getElem?_append_right (by rw [List.length_append]; omega), List.length_append, ha, hb]
theorem get_rep {m : Nat} (h : i < m) : (List.replicate m PyData.none)[i]? = some .none := List.getElem?_replicate_of_lt h
theorem get_cut {xs : List PyData} {p n j : Nat} (h : i < n) (hj : p + i = j) : ((xs.drop p).take n)[i]? = xs[j]? := by
  rw [List.getElem?_take_of_lt h, List.getElem?_drop, hj]
theorem get_dr {xs : List PyData} {p j : Nat} (hj : p + i = j) : (xs.drop p)[i]? = xs[j]? := by rw [List.getElem?_drop, hj]
theorem len_cut {xs : List PyData} {p n : Nat} (h : p + n ≤ xs.length) : ((xs.drop p).take n).length = n := by rw [List.length_take, List.length_drop]; omega
end
theorem scr_parts {rows : List PyData} {top bot m : Nat} (h1 : top ≤ bot) (h2 : bot < rows.length) (h3 : m ≤ bot + 1 - top) : ∃ q z, bot + 1 = top + (m + q) ∧ rows.length = top + (m + q) + z ∧ bot + 1 - top = m + q := by
  obtain ⟨L, hL⟩ := Nat.exists_eq_add_of_le (Nat.le_succ_of_le h1)
  rw [show bot + 1 = top + L from hL, Nat.add_sub_cancel_left] at h3
  obtain ⟨q, rfl⟩ := Nat.exists_eq_add_of_le h3
  obtain ⟨z, hz⟩ := Nat.exists_eq_add_of_le (Nat.succ_le_of_lt h2)
  exact ⟨q, z, hL, by rw [← show bot + 1 = _ from hL]; exact hz, by rw [show bot + 1 = _ from hL, Nat.add_sub_cancel_left]⟩
theorem shifted_up {rows : List PyData} {top bot m : Nat} (h0 : 0 < m) (h1 : top ≤ bot) (h2 : bot < rows.length) (h3 : m ≤ bot + 1 - top) : scrR rows top bot m true = (List.range rows.length).map (shiftAt rows top bot m) := by
  obtain ⟨q, z, e1, e2, e3⟩ := scr_parts h1 h2 h3
  have hA : (rows.take top).length = top := len_tk (by omega)
  have hC : ((rows.drop top).take (m + q)).length = m + q := len_cut (by omega)
  have hP : (((rows.drop top).take (m + q)).drop m).length = q := by rw [List.length_drop, hC, Nat.add_sub_cancel_left]
  have hB : (((rows.drop top).take (m + q)).drop m ++ List.replicate m PyData.none).length = q + m := by rw [List.length_append, hP, List.length_replicate]
  have hZ : (rows.drop (top + (m + q))).length = z := by rw [List.length_drop, e2, Nat.add_sub_cancel_left]
  rw [scr_t, e3, e1]
  clear h2 h3 e3
  refine eq_map_range (by rw [List.length_append, List.length_append, hA, hB, hZ, e2, Nat.add_comm q m]) fun i hi => ?_
  unfold shiftAt
  by_cases c1 : top ≤ i ∧ i ≤ bot
  · obtain ⟨j, rfl⟩ := Nat.exists_eq_add_of_le c1.1
    rw [if_pos (by clear hA hC hP hB hZ; omega), get_mid hA hB c1.1 (by clear hA hC hP hB hZ; omega), Nat.add_sub_cancel_left]
    by_cases c2 : j < q
    · rw [if_pos (by clear hA hC hP hB hZ; omega), show (((top + j : Nat) : Int) + (m : Int)) = ((top + j + m : Nat) : Int) from rfl, pick_nat _ _ (by clear hA hC hP hB hZ; omega), List.getElem?_append_left (by rw [hP]; exact c2), List.getElem?_drop, get_cut (j := top + j + m) (by clear hA hC hP hB hZ; omega) (by clear hA hC hP hB hZ; omega)]
    · rw [if_neg (by clear hA hC hP hB hZ; omega), List.getElem?_append_right (by rw [hP]; clear hA hC hP hB hZ; omega), hP, get_rep (by clear hA hC hP hB hZ; omega)]
  · rw [if_neg (by clear hA hC hP hB hZ; omega), pick_nat _ _ hi]
    by_cases c2 : i < top
    · rw [get_fst hA c2, List.getElem?_take_of_lt c2]
    · obtain ⟨j, rfl⟩ := Nat.exists_eq_add_of_le (show top + (q + m) ≤ i by clear hA hC hP hB hZ; omega)
      rw [get_lst hA hB (Nat.le_add_right _ _), Nat.add_sub_cancel_left, get_dr (j := top + (q + m) + j) (by clear hA hC hP hB hZ; omega)]
theorem shifted_down {rows : List PyData} {top bot m : Nat} (h0 : 0 < m) (h1 : top ≤ bot) (h2 : bot < rows.length) (h3 : m ≤ bot + 1 - top) : scrR rows top bot m false = (List.range rows.length).map (shiftAt rows top bot (-(m : Int))) := by
  obtain ⟨q, z, e1, e2, e3⟩ := scr_parts h1 h2 h3
  have hA : (rows.take top).length = top := len_tk (by omega)
  have hC : ((rows.drop top).take (m + q)).length = m + q := len_cut (by omega)
  have hP : (((rows.drop top).take (m + q)).take q).length = q := len_tk (by rw [hC]; exact Nat.le_add_left _ _)
  have hB : (List.replicate m PyData.none ++ ((rows.drop top).take (m + q)).take q).length = m + q := by rw [List.length_append, List.length_replicate, hP]
  have hZ : (rows.drop (top + (m + q))).length = z := by rw [List.length_drop, e2, Nat.add_sub_cancel_left]
  rw [scr_f, e3, e1, hC, Nat.add_sub_cancel_left]
  clear h2 h3 e3
  refine eq_map_range (by rw [List.length_append, List.length_append, hA, hB, hZ, e2]) fun i hi => ?_
  unfold shiftAt
  by_cases c1 : top ≤ i ∧ i ≤ bot
  · obtain ⟨j, rfl⟩ := Nat.exists_eq_add_of_le c1.1
    rw [if_pos (by clear hA hC hP hB hZ; omega), get_mid hA hB c1.1 (by clear hA hC hP hB hZ; omega), Nat.add_sub_cancel_left]
    by_cases c2 : m ≤ j
    · obtain ⟨r, rfl⟩ := Nat.exists_eq_add_of_le c2
      rw [if_pos (by clear hA hC hP hB hZ; omega), show (((top + (m + r) : Nat) : Int) + -(m : Int)) = ((top + r : Nat) : Int) by clear hA hC hP hB hZ; omega, pick_nat _ _ (by clear hA hC hP hB hZ; omega), List.getElem?_append_right (by rw [List.length_replicate]; exact c2), List.length_replicate, Nat.add_sub_cancel_left, List.getElem?_take_of_lt (by clear hA hC hP hB hZ; omega), get_cut (j := top + r) (by clear hA hC hP hB hZ; omega) rfl]
    · rw [if_neg (by clear hA hC hP hB hZ; omega), List.getElem?_append_left (by rw [List.length_replicate]; clear hA hC hP hB hZ; omega), get_rep (by clear hA hC hP hB hZ; omega)]
  · rw [if_neg (by clear hA hC hP hB hZ; omega), pick_nat _ _ hi]
    by_cases c2 : i < top
    · rw [get_fst hA c2, List.getElem?_take_of_lt c2]
    · obtain ⟨j, rfl⟩ := Nat.exists_eq_add_of_le (show top + (m + q) ≤ i by clear hA hC hP hB hZ; omega)
      rw [get_lst hA hB (Nat.le_add_right _ _), Nat.add_sub_cancel_left, get_dr rfl]
theorem pushed_del {rows : List PyData} {a m : Nat} (h : a + m ≤ rows.length) : delR rows a m = (List.range rows.length).map (pushAt rows true a m) := by
  have hA : (rows.take a).length = a := len_tk (by omega)
  have hB : (rows.drop (a + m)).length = rows.length - (a + m) := List.length_drop
  unfold delR
  refine eq_map_range (by rw [List.length_append, List.length_append, hA, hB, List.length_replicate]; omega) fun i hi => ?_
  unfold pushAt
  by_cases c1 : i < a
  · rw [if_pos (by clear hA hB; omega), pick_nat _ _ hi, get_fst hA c1, List.getElem?_take_of_lt c1]
  · rw [if_neg (by clear hA hB; omega), if_pos rfl]
    by_cases c2 : i + m < rows.length
    · rw [if_pos (by clear hA hB; omega), show ((i : Int) + (m : Int)) = ((i + m : Nat) : Int) from rfl, pick_nat _ _ c2, get_mid hA hB (by clear hA hB; omega) (by clear hA hB; omega), get_dr (j := i + m) (by clear hA hB; omega)]
    · rw [if_neg (by clear hA hB; omega), get_lst hA hB (by clear hA hB; omega), get_rep (by clear hA hB; omega)]
theorem pushed_ins {rows : List PyData} {a m : Nat} (h : a ≤ rows.length) : insR rows a m = (List.range rows.length).map (pushAt rows false a m) := by
  have hA : (rows.take a).length = a := len_tk h
  have hB : (List.replicate m PyData.none).length = m := List.length_replicate
  unfold insR
  refine eq_map_range (by rw [List.length_take, List.length_append, List.length_append, hA, hB, List.length_drop]; omega) fun i hi => ?_
  rw [List.getElem?_take_of_lt hi]
  unfold pushAt
  by_cases c1 : i < a
  · rw [if_pos (by clear hA hB; omega), pick_nat _ _ hi, get_fst hA c1, List.getElem?_take_of_lt c1]
  · rw [if_neg (by clear hA hB; omega), if_neg Bool.false_ne_true]
    by_cases c2 : a + m ≤ i
    · rw [if_pos (by clear hA hB; omega), show ((i : Int) - (m : Int)) = ((i - m : Nat) : Int) by clear hA hB; omega, pick_nat _ _ (by clear hA hB; omega), get_lst hA hB c2, get_dr (j := i - m) (by clear hA hB; omega)]
    · rw [if_neg (by clear hA hB; omega), get_mid hA hB (by clear hA hB; omega) (by clear hA hB; omega), get_rep (by clear hA hB; omega)]
/-- the costs of the steps and their price -/
theorem cost_price (p0 p1 p2 p3 : Int) (ds : List Int) : ∀ (ss : List Stp) (t : Int × Int) (u : Int × Str), t.1 = u.1 → (t.2 = 1 ↔ Str.ofString "delete" = u.2) → (t.2 = 2 ↔ Str.ofString "insert" = u.2) → (ss.foldl (costStep p0 p1 p2 p3 ds) t).1 = (ss.foldl (priceStep [p0, p1, p2, p3] ds) u).1
  | [], t, u, h, _, _ => h
  | s :: r, (t1, t2), (u1, u2), h1, h2, h3 => by
    dsimp only at h1 h2 h3
    subst h1
    rw [List.foldl_cons, List.foldl_cons]
    cases s with
    | keep n f => exact cost_price p0 p1 p2 p3 ds r _ _ rfl (by simp only [costStep, priceStep, Stp.kind, Stp.word]; decide +kernel) (by simp only [costStep, priceStep, Stp.kind, Stp.word]; decide +kernel)
    | draw n f => exact cost_price p0 p1 p2 p3 ds r _ _ rfl (by simp only [costStep, priceStep, Stp.kind, Stp.word]; decide +kernel) (by simp only [costStep, priceStep, Stp.kind, Stp.word]; decide +kernel)
    | del n =>
      refine cost_price p0 p1 p2 p3 ds r _ _ ?_ (by simp only [costStep, priceStep, Stp.kind, Stp.word]) (by simp only [costStep, priceStep, Stp.kind, Stp.word]; decide +kernel)
      simp only [costStep, priceStep]
      by_cases c : t2 = 1
      · rw [if_pos c, if_pos (h2.mp c)]; rfl
      · rw [if_neg c, if_neg fun q => c (h2.mpr q)]; rfl
    | ins f =>
      refine cost_price p0 p1 p2 p3 ds r _ _ ?_ (by simp only [costStep, priceStep, Stp.kind, Stp.word]; decide +kernel) (by simp only [costStep, priceStep, Stp.kind, Stp.word])
      simp only [costStep, priceStep]
      by_cases c : t2 = 2
      · rw [if_pos c, if_pos (h3.mp c), Int.add_assoc]; rfl
      · rw [if_neg c, if_neg fun q => c (h3.mpr q), Int.add_assoc]; rfl
end
section -- P3
noncomputable def Stp.pair? : Stp → Option (Nat × Nat)
  | .keep n f => some (n, f)
  | .draw n f => some (n, f)
  | _ => .none
noncomputable def pairsOf (ss : List Stp) : List (Nat × Nat) := ss.filterMap Stp.pair?
noncomputable def pD (p : Nat × Nat) : PyData := .tuple [.int p.1, .int p.2]
theorem kept_eq (ss : List Stp) : ss.filterMap Stp.kept = (pairsOf ss).map pD := by
  unfold pairsOf
  rw [List.map_filterMap]
  congr 1
  funext s
  cases s <;> rfl
noncomputable def rowAt (rows : List PyData) (n : Nat) : PyData := rows.getD n .none
/-- the rows kept, in order -/
noncomputable def pairRows (rows : List PyData) : List Stp → List PyData
  | [] => []
  | .keep n _ :: r => rowAt rows n :: pairRows rows r
  | .draw n _ :: r => rowAt rows n :: pairRows rows r
  | _ :: r => pairRows rows r
/-- the rows of the new screen, before the drawing -/
noncomputable def dueL (rows : List PyData) : List Stp → List PyData
  | [] => []
  | .keep n _ :: r => rowAt rows n :: dueL rows r
  | .draw n _ :: r => rowAt rows n :: dueL rows r
  | .ins _ :: r => .none :: dueL rows r
  | .del _ :: r => dueL rows r
/-- the rows that stay and are not drawn over -/
noncomputable def aloneL (rows : List PyData) : List Stp → List PyData
  | [] => []
  | .keep n _ :: r => rowAt rows n :: aloneL rows r
  | .draw _ _ :: r => .none :: aloneL rows r
  | .ins _ :: r => .none :: aloneL rows r
  | .del _ :: r => aloneL rows r
noncomputable def Stp.isDel : Stp → Bool
  | .del _ => true
  | _ => false
noncomputable def Stp.isIns : Stp → Bool
  | .ins _ => true
  | _ => false
noncomputable def dels (ss : List Stp) : Nat := ss.countP Stp.isDel
noncomputable def inss (ss : List Stp) : Nat := ss.countP Stp.isIns
theorem Wk.count : ∀ {ss : List Stp} {n f n' f' : Nat}, Wk n f ss n' f' → n' = n + (pairsOf ss).length + dels ss ∧ f' = f + (pairsOf ss).length + inss ss
  | [], _, _, _, _, ⟨rfl, rfl⟩ => ⟨rfl, rfl⟩
  | .keep a b :: r, n, f, n', f', ⟨h1, h2, h3⟩ => by
    obtain ⟨e1, e2⟩ := Wk.count h3
    have p : pairsOf (.keep a b :: r) = (a, b) :: pairsOf r := rfl
    have d : dels (.keep a b :: r) = dels r := rfl
    have i : inss (.keep a b :: r) = inss r := rfl
    rw [p, d, i, List.length_cons]; clear p d i h1 h2; omega
  | .draw a b :: r, n, f, n', f', ⟨h1, h2, h3⟩ => by
    obtain ⟨e1, e2⟩ := Wk.count h3
    have p : pairsOf (.draw a b :: r) = (a, b) :: pairsOf r := rfl
    have d : dels (.draw a b :: r) = dels r := rfl
    have i : inss (.draw a b :: r) = inss r := rfl
    rw [p, d, i, List.length_cons]; clear p d i h1 h2; omega
  | .del a :: r, n, f, n', f', ⟨h1, h3⟩ => by
    obtain ⟨e1, e2⟩ := Wk.count h3
    have p : pairsOf (.del a :: r) = pairsOf r := rfl
    have d : dels (.del a :: r) = dels r + 1 := by unfold dels; rw [List.countP_cons_of_pos rfl]
    have i : inss (.del a :: r) = inss r := rfl
    rw [p, d, i]; omega
  | .ins a :: r, n, f, n', f', ⟨h1, h3⟩ => by
    obtain ⟨e1, e2⟩ := Wk.count h3
    have p : pairsOf (.ins a :: r) = pairsOf r := rfl
    have d : dels (.ins a :: r) = dels r := rfl
    have i : inss (.ins a :: r) = inss r + 1 := by unfold inss; rw [List.countP_cons_of_pos rfl]
    rw [p, d, i]; omega
theorem Wk.le {ss : List Stp} {n f n' f' : Nat} (h : Wk n f ss n' f') : n ≤ n' ∧ f ≤ f' := by
  obtain ⟨a, b⟩ := h.count; omega
theorem set_next {pre : List PyData} {M : Nat} (x : PyData) (h : 0 < M) : (pre ++ List.replicate M PyData.none).set pre.length x = (pre ++ [x]) ++ List.replicate (M - 1) PyData.none := by
  obtain ⟨k, rfl⟩ : ∃ k, M = k + 1 := ⟨M - 1, by omega⟩
  rw [List.set_append_right _ _ (Nat.le_refl _), Nat.sub_self, List.replicate_succ, List.set_cons_zero, Nat.add_sub_cancel, List.append_assoc]; rfl
theorem rep_next {pre : List PyData} {M : Nat} (h : 0 < M) : pre ++ List.replicate M PyData.none = (pre ++ [PyData.none]) ++ List.replicate (M - 1) PyData.none := by
  obtain ⟨k, rfl⟩ : ∃ k, M = k + 1 := ⟨M - 1, by omega⟩
  rw [List.replicate_succ, Nat.add_sub_cancel, List.append_assoc]; rfl
theorem due_gen (rows : List PyData) (N : Nat) : ∀ (ss : List Stp) (n f n' : Nat), Wk n f ss n' N → ∀ pre : List PyData, pre.length = f →
    (pairsOf ss).foldl (fun d p => d.set p.2 (rowAt rows p.1)) (pre ++ List.replicate (N - f) PyData.none) = pre ++ dueL rows ss
  | [], n, f, n', ⟨h1, h2⟩, pre, hp => by subst h2; simp [pairsOf, dueL]
  | .keep a b :: r, n, f, n', ⟨h1, h2, h3⟩, pre, hp => by
    have := h3.le
    show (pairsOf r).foldl _ ((pre ++ List.replicate (N - f) PyData.none).set b (rowAt rows a)) = pre ++ (rowAt rows a :: dueL rows r)
    rw [h2, ← hp, set_next _ (by omega), hp, show N - f - 1 = N - (f + 1) by omega, due_gen rows N r _ _ _ h3 _ (by rw [List.length_append, hp]; rfl), List.append_assoc]; rfl
  | .draw a b :: r, n, f, n', ⟨h1, h2, h3⟩, pre, hp => by
    have := h3.le
    show (pairsOf r).foldl _ ((pre ++ List.replicate (N - f) PyData.none).set b (rowAt rows a)) = pre ++ (rowAt rows a :: dueL rows r)
    rw [h2, ← hp, set_next _ (by omega), hp, show N - f - 1 = N - (f + 1) by omega, due_gen rows N r _ _ _ h3 _ (by rw [List.length_append, hp]; rfl), List.append_assoc]; rfl
  | .del a :: r, n, f, n', ⟨h1, h3⟩, pre, hp => due_gen rows N r _ _ _ h3 pre hp
  | .ins b :: r, n, f, n', ⟨h2, h3⟩, pre, hp => by
    have := h3.le
    show (pairsOf r).foldl _ (pre ++ List.replicate (N - f) PyData.none) = pre ++ (.none :: dueL rows r)
    rw [rep_next (by omega), show N - f - 1 = N - (f + 1) by omega, due_gen rows N r _ _ _ h3 _ (by rw [List.length_append, hp]; rfl), List.append_assoc]; rfl
theorem alone_gen (rows : List PyData) (N : Nat) (kp : Nat × Nat → Bool) : ∀ (ss : List Stp) (n f n' : Nat), Wk n f ss n' N → (∀ a b, Stp.keep a b ∈ ss → kp (a, b) = true) → (∀ a b, Stp.draw a b ∈ ss → kp (a, b) = false) → ∀ pre : List PyData, pre.length = f →
    (pairsOf ss).foldl (fun d p => d.set p.2 (if kp p then rowAt rows p.1 else .none)) (pre ++ List.replicate (N - f) PyData.none) = pre ++ aloneL rows ss
  | [], n, f, n', ⟨h1, h2⟩, _, _, pre, hp => by subst h2; simp [pairsOf, aloneL]
  | .keep a b :: r, n, f, n', ⟨h1, h2, h3⟩, k1, k2, pre, hp => by
    have := h3.le
    show (pairsOf r).foldl _ ((pre ++ List.replicate (N - f) PyData.none).set b (if kp (a, b) then rowAt rows a else .none)) = pre ++ (rowAt rows a :: aloneL rows r)
    rw [k1 a b (.head _), if_pos rfl, h2, ← hp, set_next _ (by omega), hp, show N - f - 1 = N - (f + 1) by omega, alone_gen rows N kp r _ _ _ h3 (fun x y h => k1 x y (.tail _ h)) (fun x y h => k2 x y (.tail _ h)) _ (by rw [List.length_append, hp]; rfl), List.append_assoc]; rfl
  | .draw a b :: r, n, f, n', ⟨h1, h2, h3⟩, k1, k2, pre, hp => by
    have := h3.le
    show (pairsOf r).foldl _ ((pre ++ List.replicate (N - f) PyData.none).set b (if kp (a, b) then rowAt rows a else .none)) = pre ++ (.none :: aloneL rows r)
    rw [k2 a b (.head _), if_neg Bool.false_ne_true, h2, ← hp, set_next _ (by omega), hp, show N - f - 1 = N - (f + 1) by omega, alone_gen rows N kp r _ _ _ h3 (fun x y h => k1 x y (.tail _ h)) (fun x y h => k2 x y (.tail _ h)) _ (by rw [List.length_append, hp]; rfl), List.append_assoc]; rfl
  | .del a :: r, n, f, n', ⟨h1, h3⟩, k1, k2, pre, hp => alone_gen rows N kp r _ _ _ h3 (fun x y h => k1 x y (.tail _ h)) (fun x y h => k2 x y (.tail _ h)) pre hp
  | .ins b :: r, n, f, n', ⟨h2, h3⟩, k1, k2, pre, hp => by
    have := h3.le
    show (pairsOf r).foldl _ (pre ++ List.replicate (N - f) PyData.none) = pre ++ (.none :: aloneL rows r)
    rw [rep_next (by omega), show N - f - 1 = N - (f + 1) by omega, alone_gen rows N kp r _ _ _ h3 (fun x y h => k1 x y (.tail _ h)) (fun x y h => k2 x y (.tail _ h)) _ (by rw [List.length_append, hp]; rfl), List.append_assoc]; rfl
noncomputable def newsOf (ss : List Stp) : List Nat := ss.filterMap Stp.far?
theorem drawn_eq (ss : List Stp) : ss.filterMap Stp.drawn = (newsOf ss).map fun (i : Nat) => PyData.int i := by
  unfold newsOf
  rw [List.map_filterMap]
  congr 1
  funext s
  cases s <;> rfl
theorem news_lt : ∀ {ss : List Stp} {n f n' f' : Nat}, Wk n f ss n' f' → ∀ i ∈ newsOf ss, i < f'
  | [], _, _, _, _, _, i, h => by cases h
  | .keep a b :: r, _, _, _, _, ⟨h1, h2, h3⟩, i, h => news_lt h3 i h
  | .draw a b :: r, _, _, _, _, ⟨h1, h2, h3⟩, i, h => by
    rcases List.mem_cons.mp (show i ∈ b :: newsOf r from h) with rfl | h
    · have := h3.le; omega
    · exact news_lt h3 i h
  | .del a :: r, _, _, _, _, ⟨h1, h3⟩, i, h => news_lt h3 i h
  | .ins b :: r, _, _, _, _, ⟨h1, h3⟩, i, h => by
    rcases List.mem_cons.mp (show i ∈ b :: newsOf r from h) with rfl | h
    · have := h3.le; omega
    · exact news_lt h3 i h
theorem done_gen (rows : List PyData) : ∀ (ss : List Stp) (n f n' f' : Nat), Wk n f ss n' f' → ∀ pre : List PyData, pre.length = f →
    (newsOf ss).foldl (fun ys i => ys.set i PyData.none) (pre ++ dueL rows ss) = pre ++ aloneL rows ss
  | [], _, _, _, _, _, pre, hp => rfl
  | .keep a b :: r, n, f, _, _, ⟨h1, h2, h3⟩, pre, hp => by
    show (newsOf r).foldl _ (pre ++ (rowAt rows a :: dueL rows r)) = pre ++ (rowAt rows a :: aloneL rows r)
    have := done_gen rows r _ _ _ _ h3 (pre ++ [rowAt rows a]) (by rw [List.length_append, hp]; rfl)
    simpa using this
  | .draw a b :: r, n, f, _, _, ⟨h1, h2, h3⟩, pre, hp => by
    show (newsOf r).foldl _ ((pre ++ (rowAt rows a :: dueL rows r)).set b PyData.none) = pre ++ (.none :: aloneL rows r)
    have := done_gen rows r _ _ _ _ h3 (pre ++ [PyData.none]) (by rw [List.length_append, hp]; rfl)
    rw [h2, ← hp, List.set_append_right _ _ (Nat.le_refl _), Nat.sub_self, List.set_cons_zero]
    simpa using this
  | .del a :: r, n, f, _, _, ⟨h1, h3⟩, pre, hp => done_gen rows r _ _ _ _ h3 pre hp
  | .ins b :: r, n, f, _, _, ⟨h1, h3⟩, pre, hp => by
    show (newsOf r).foldl _ ((pre ++ (.none :: dueL rows r)).set b PyData.none) = pre ++ (.none :: aloneL rows r)
    have := done_gen rows r _ _ _ _ h3 (pre ++ [PyData.none]) (by rw [List.length_append, hp]; rfl)
    rw [h1, ← hp, List.set_append_right _ _ (Nat.le_refl _), Nat.sub_self, List.set_cons_zero]
    simpa using this
theorem keep_not_draw : ∀ {ss : List Stp} {n f n' f' : Nat}, Wk n f ss n' f' → (∀ a b, Stp.keep a b ∈ ss → n ≤ a) ∧ (∀ a b, Stp.draw a b ∈ ss → n ≤ a) ∧ ∀ a b, Stp.keep a b ∈ ss → Stp.draw a b ∈ ss → False
  | [], _, _, _, _, _ => ⟨(fun _ _ h => by cases h), (fun _ _ h => by cases h), fun _ _ h => by cases h⟩
  | .keep a b :: r, n, f, _, _, ⟨h1, h2, h3⟩ => by
    obtain ⟨k1, k2, k3⟩ := keep_not_draw h3
    refine ⟨fun x y h => ?_, fun x y h => ?_, fun x y h h' => ?_⟩
    · rcases List.mem_cons.mp h with e | h
      · cases e; omega
      · have := k1 x y h; omega
    · rcases List.mem_cons.mp h with e | h
      · cases e
      · have := k2 x y h; omega
    · rcases List.mem_cons.mp h' with e | h'
      · cases e
      · rcases List.mem_cons.mp h with e | h
        · cases e; have := k2 _ _ h'; omega
        · exact k3 x y h h'
  | .draw a b :: r, n, f, _, _, ⟨h1, h2, h3⟩ => by
    obtain ⟨k1, k2, k3⟩ := keep_not_draw h3
    refine ⟨fun x y h => ?_, fun x y h => ?_, fun x y h h' => ?_⟩
    · rcases List.mem_cons.mp h with e | h
      · cases e
      · have := k1 x y h; omega
    · rcases List.mem_cons.mp h with e | h
      · cases e; omega
      · have := k2 x y h; omega
    · rcases List.mem_cons.mp h with e | h
      · cases e
      · rcases List.mem_cons.mp h' with e | h'
        · cases e; have := k1 _ _ h; omega
        · exact k3 x y h h'
  | .del a :: r, n, f, _, _, ⟨h1, h3⟩ => by
    obtain ⟨k1, k2, k3⟩ := keep_not_draw h3
    refine ⟨fun x y h => ?_, fun x y h => ?_, fun x y h h' => ?_⟩
    · rcases List.mem_cons.mp h with e | h
      · cases e
      · have := k1 x y h; omega
    · rcases List.mem_cons.mp h with e | h
      · cases e
      · have := k2 x y h; omega
    · rcases List.mem_cons.mp h with e | h
      · cases e
      · rcases List.mem_cons.mp h' with e | h'
        · cases e
        · exact k3 x y h h'
  | .ins a :: r, n, f, _, _, ⟨h1, h3⟩ => by
    obtain ⟨k1, k2, k3⟩ := keep_not_draw h3
    refine ⟨fun x y h => ?_, fun x y h => ?_, fun x y h h' => ?_⟩
    · rcases List.mem_cons.mp h with e | h
      · cases e
      · exact k1 x y h
    · rcases List.mem_cons.mp h with e | h
      · cases e
      · exact k2 x y h
    · rcases List.mem_cons.mp h with e | h
      · cases e
      · rcases List.mem_cons.mp h' with e | h'
        · cases e
        · exact k3 x y h h'
theorem sub_one_more {a b : Nat} (h : a + 1 ≤ b) : b - a = (b - (a + 1)) + 1 := by
  obtain ⟨z, rfl⟩ := Nat.exists_eq_add_of_le h
  rw [Nat.add_sub_cancel_left, Nat.add_assoc a 1 z, Nat.add_sub_cancel_left, Nat.add_comm]
theorem draws_gen (rows : List PyData) (hr : ∀ n, n < rows.length → isNoneD (rowAt rows n) = false) : ∀ (ss : List Stp) (n f n' f' : Nat), Wk n f ss n' f' → n' ≤ rows.length → ∀ pre : List PyData, pre.length = f →
    newsOf ss = (List.range' f (f' - f)).filterMap fun i => if isNoneD ((pre ++ aloneL rows ss).getD i .none) then some i else .none
  | [], _, _, _, _, ⟨h1, h2⟩, _, pre, hp => by subst h2; simp [newsOf]
  | .keep a b :: r, n, f, _, f', ⟨h1, h2, h3⟩, hn, pre, hp => by
    have hle := h3.le
    have ih := draws_gen rows hr r _ _ _ _ h3 hn (pre ++ [rowAt rows a]) (by rw [List.length_append, hp]; rfl)
    show newsOf r = _
    rw [ih, sub_one_more hle.2, List.range'_succ, List.filterMap_cons_none]
    · congr 1; funext i; congr 3; simp [aloneL]
    · have : (pre ++ aloneL rows (.keep a b :: r)).getD f .none = rowAt rows a := by
        rw [List.getD_eq_getElem?_getD, List.getElem?_append_right (Nat.le_of_eq hp), hp, Nat.sub_self]; rfl
      rw [this, hr a (by omega)]; rfl
  | .draw a b :: r, n, f, _, f', ⟨h1, h2, h3⟩, hn, pre, hp => by
    have hle := h3.le
    have ih := draws_gen rows hr r _ _ _ _ h3 hn (pre ++ [PyData.none]) (by rw [List.length_append, hp]; rfl)
    show b :: newsOf r = _
    rw [ih, sub_one_more hle.2, List.range'_succ, List.filterMap_cons_some (b := f)]
    · rw [h2]; congr 2; funext i; congr 3; simp [aloneL]
    · have : (pre ++ aloneL rows (.draw a b :: r)).getD f .none = .none := by
        rw [List.getD_eq_getElem?_getD, List.getElem?_append_right (Nat.le_of_eq hp), hp, Nat.sub_self]; rfl
      rw [this]; rfl
  | .del a :: r, n, f, _, f', ⟨h1, h3⟩, hn, pre, hp => draws_gen rows hr r _ _ _ _ h3 hn pre hp
  | .ins b :: r, n, f, _, f', ⟨h2, h3⟩, hn, pre, hp => by
    have hle := h3.le
    have ih := draws_gen rows hr r _ _ _ _ h3 hn (pre ++ [PyData.none]) (by rw [List.length_append, hp]; rfl)
    show b :: newsOf r = _
    rw [ih, sub_one_more hle.2, List.range'_succ, List.filterMap_cons_some (b := f)]
    · rw [h2]; congr 2; funext i; congr 3; simp [aloneL]
    · have : (pre ++ aloneL rows (.ins b :: r)).getD f .none = .none := by
        rw [List.getD_eq_getElem?_getD, List.getElem?_append_right (Nat.le_of_eq hp), hp, Nat.sub_self]; rfl
      rw [this]; rfl
theorem aloneL_len (rows : List PyData) : ∀ {ss : List Stp} {n f n' f' : Nat}, Wk n f ss n' f' → f + (aloneL rows ss).length = f'
  | [], _, _, _, _, ⟨h1, h2⟩ => h2
  | .keep a b :: r, n, f, _, f', ⟨h1, h2, h3⟩ => by have := aloneL_len rows h3; simp only [aloneL, List.length_cons]; omega
  | .draw a b :: r, n, f, _, f', ⟨h1, h2, h3⟩ => by have := aloneL_len rows h3; simp only [aloneL, List.length_cons]; omega
  | .del a :: r, n, f, _, f', ⟨h1, h3⟩ => by have := aloneL_len rows (ss := r) h3; simpa only [aloneL] using this
  | .ins b :: r, n, f, _, f', ⟨h2, h3⟩ => by have := aloneL_len rows h3; simp only [aloneL, List.length_cons]; omega
end
section -- P4
noncomputable def delNs (ss : List Stp) : List Int := ss.filterMap fun s => match s with | .del n => some (n : Int) | _ => .none
noncomputable def insNs (ss : List Stp) : List Int := ss.filterMap fun s => match s with | .ins n => some (n : Int) | _ => .none
theorem turn_app (i : List (Int × Int)) (p : Int × Int) : (i ++ [p]).foldl turnStep ([], 0) = turnStep (i.foldl turnStep ([], 0)) p := by rw [List.foldl_append]; rfl
theorem concat_inj {α : Type} {i j : List α} {a b : α} (h : i ++ [a] = j ++ [b]) : i = j ∧ a = b := by
  have := List.append_inj' h rfl
  exact ⟨this.1, (List.cons.inj this.2).1⟩
theorem gone_gen : ∀ (ss : List Stp) (n f n' f' : Nat), Wk n f ss n' f' → ∀ (t : GoneSt) (J : List (Int × Int)), t.g = (J.foldl turnStep ([], 0)).1 → t.m = (J.foldl turnStep ([], 0)).2 →
    (t.r = true → ∃ (i : List (Int × Int)) (a c : Int), J = i ++ [(a, c)] ∧ a + c = (n : Int)) → (t.r = false → ∀ (i : List (Int × Int)) (a c : Int), J = i ++ [(a, c)] → a + c < (n : Int)) →
    (ss.foldl goneStep t).g = (((delNs ss).foldl joinStep J).foldl turnStep ([], 0)).1
  | [], n, f, n', f', h, t, J, h1, h2, h3, h4 => h1
  | .keep a b :: r, n, f, n', f', ⟨e1, e2, h⟩, t, J, h1, h2, h3, h4 => by
    refine gone_gen r _ _ _ _ h ⟨t.g, t.m, false⟩ J h1 h2 nofun fun _ i x c hJ => ?_
    cases hr : t.r with
    | true =>
      obtain ⟨i', a', c', q, q'⟩ := h3 hr
      rw [hJ] at q
      obtain ⟨_, q2⟩ := concat_inj q
      cases q2; omega
    | false => have := h4 hr i x c hJ; omega
  | .draw a b :: r, n, f, n', f', ⟨e1, e2, h⟩, t, J, h1, h2, h3, h4 => by
    refine gone_gen r _ _ _ _ h ⟨t.g, t.m, false⟩ J h1 h2 nofun fun _ i x c hJ => ?_
    cases hr : t.r with
    | true =>
      obtain ⟨i', a', c', q, q'⟩ := h3 hr
      rw [hJ] at q
      obtain ⟨_, q2⟩ := concat_inj q
      cases q2; omega
    | false => have := h4 hr i x c hJ; omega
  | .ins b :: r, n, f, n', f', ⟨e2, h⟩, t, J, h1, h2, h3, h4 => gone_gen r _ _ _ _ h t J h1 h2 h3 h4
  | .del a :: r, n, f, n', f', ⟨e1, h⟩, t, J, h1, h2, h3, h4 => by
    subst e1
    obtain ⟨g, m, rr⟩ := t
    dsimp only at h1 h2 h3 h4
    have step : ∀ (t' : GoneSt) (J' : List (Int × Int)), goneStep ⟨g, m, rr⟩ (.del a) = t' → joinStep J a = J' → t'.g = (J'.foldl turnStep ([], 0)).1 → t'.m = (J'.foldl turnStep ([], 0)).2 → t'.r = true → (∃ (i : List (Int × Int)) (x c : Int), J' = i ++ [(x, c)] ∧ x + c = (a : Int) + 1) →
        ((Stp.del a :: r).foldl goneStep ⟨g, m, rr⟩).g = (((delNs (.del a :: r)).foldl joinStep J).foldl turnStep ([], 0)).1 := by
      intro t' J' q1 q2 q3 q4 q5 q6
      show (r.foldl goneStep (goneStep ⟨g, m, rr⟩ (.del a))).g = (((delNs r).foldl joinStep (joinStep J a)).foldl turnStep ([], 0)).1
      rw [q1, q2]
      exact gone_gen r _ _ _ _ h t' J' q3 q4 (fun _ => by obtain ⟨i, x, c, y, z⟩ := q6; exact ⟨i, x, c, y, by omega⟩) (fun q => by rw [q5] at q; cases q)
    cases rr with
    | true =>
      obtain ⟨i, x, c, rfl, hx⟩ := h3 rfl
      rw [turn_app] at h1 h2
      refine step _ _ rfl (by rw [joinStep_app, if_pos hx]) ?_ ?_ rfl ⟨i, x, c + 1, rfl, by omega⟩
      · rw [turn_app]
        simp only [goneStep, if_true]
        rw [h1]
        exact bump_app _ _ _
      · rw [turn_app]
        simp only [goneStep]
        rw [h2]
        simp only [turnStep]; omega
    | false =>
      refine step _ (J ++ [((a : Int), 1)]) rfl ?_ ?_ ?_ rfl ⟨J, a, 1, rfl, rfl⟩
      · rcases List.eq_nil_or_concat J with rfl | ⟨i, ⟨x, c⟩, rfl⟩
        · rfl
        · rw [List.concat_eq_append, joinStep_app, if_neg]
          have := h4 rfl i x c (List.concat_eq_append ..)
          omega
      · rw [turn_app]
        simp only [goneStep, Bool.false_eq_true, if_false, turnStep]
        rw [h1, h2]
      · rw [turn_app]
        simp only [goneStep, turnStep]
        rw [h2]
theorem come_gen : ∀ (ss : List Stp) (n f n' f' : Nat), Wk n f ss n' f' → ∀ (t : ComeSt) (J : List (Int × Int)), t.g = J →
    (t.r = true → ∃ (i : List (Int × Int)) (a c : Int), J = i ++ [(a, c)] ∧ a + c = (f : Int)) → (t.r = false → ∀ (i : List (Int × Int)) (a c : Int), J = i ++ [(a, c)] → a + c < (f : Int)) →
    (ss.foldl comeStep t).g = (insNs ss).foldl joinStep J
  | [], n, f, n', f', h, t, J, h1, h3, h4 => h1
  | .keep a b :: r, n, f, n', f', ⟨e1, e2, h⟩, t, J, h1, h3, h4 => by
    refine come_gen r _ _ _ _ h ⟨t.g, false⟩ J h1 nofun fun _ i x c hJ => ?_
    cases hr : t.r with
    | true =>
      obtain ⟨i', a', c', q, q'⟩ := h3 hr
      rw [hJ] at q
      obtain ⟨_, q2⟩ := concat_inj q
      cases q2; omega
    | false => have := h4 hr i x c hJ; omega
  | .draw a b :: r, n, f, n', f', ⟨e1, e2, h⟩, t, J, h1, h3, h4 => by
    refine come_gen r _ _ _ _ h ⟨t.g, false⟩ J h1 nofun fun _ i x c hJ => ?_
    cases hr : t.r with
    | true =>
      obtain ⟨i', a', c', q, q'⟩ := h3 hr
      rw [hJ] at q
      obtain ⟨_, q2⟩ := concat_inj q
      cases q2; omega
    | false => have := h4 hr i x c hJ; omega
  | .del b :: r, n, f, n', f', ⟨e2, h⟩, t, J, h1, h3, h4 => come_gen r _ _ _ _ h t J h1 h3 h4
  | .ins a :: r, n, f, n', f', ⟨e1, h⟩, t, J, h1, h3, h4 => by
    subst e1
    obtain ⟨g, rr⟩ := t
    dsimp only at h1 h3 h4
    subst h1
    have step : ∀ (t' : ComeSt) (J' : List (Int × Int)), comeStep ⟨g, rr⟩ (.ins a) = t' → joinStep g a = J' → t'.g = J' → t'.r = true → (∃ (i : List (Int × Int)) (x c : Int), J' = i ++ [(x, c)] ∧ x + c = (a : Int) + 1) →
        ((Stp.ins a :: r).foldl comeStep ⟨g, rr⟩).g = (insNs (.ins a :: r)).foldl joinStep g := by
      intro t' J' q1 q2 q3 q5 q6
      show (r.foldl comeStep (comeStep ⟨g, rr⟩ (.ins a))).g = (insNs r).foldl joinStep (joinStep g a)
      rw [q1, q2]
      exact come_gen r _ _ _ _ h t' J' q3 (fun _ => by obtain ⟨i, x, c, y, z⟩ := q6; exact ⟨i, x, c, y, by omega⟩) (fun q => by rw [q5] at q; cases q)
    cases rr with
    | true =>
      obtain ⟨i, x, c, rfl, hx⟩ := h3 rfl
      refine step _ _ rfl (by rw [joinStep_app, if_pos hx]) ?_ rfl ⟨i, x, c + 1, rfl, by omega⟩
      simp only [comeStep, if_true]
      exact bump_app _ _ _
    | false =>
      refine step _ (g ++ [((a : Int), 1)]) rfl ?_ ?_ rfl ⟨g, a, 1, rfl, rfl⟩
      · rcases List.eq_nil_or_concat g with rfl | ⟨i, ⟨x, c⟩, rfl⟩
        · rfl
        · rw [List.concat_eq_append, joinStep_app, if_neg]
          have := h4 rfl i x c (List.concat_eq_append ..)
          omega
      · simp only [comeStep, Bool.false_eq_true, if_false]
theorem runs_turns {ss : List Stp} {N : Nat} (h : Wk 0 0 ss N N) : runsOf ss = turnsOf ((delNs ss).foldl joinStep []) ((insNs ss).foldl joinStep []) := by
  have h1 := gone_gen ss _ _ _ _ h ⟨[], 0, false⟩ [] rfl rfl nofun (fun _ i a c q => by cases i <;> cases q)
  have h2 := come_gen ss _ _ _ _ h ⟨[], false⟩ [] rfl nofun (fun _ i a c q => by cases i <;> cases q)
  unfold runsOf turnsOf goneOf comeOf
  rw [h1, h2]
noncomputable def sumMany (J : List (Int × Int)) : Int := (J.map (·.2)).sum
theorem sumMany_app (i : List (Int × Int)) (p : Int × Int) : sumMany (i ++ [p]) = sumMany i + p.2 := by unfold sumMany; simp
theorem joined_sum : ∀ (xs : List Int) (J : List (Int × Int)), sumMany (xs.foldl joinStep J) = sumMany J + xs.length
  | [], J => by simp
  | x :: r, J => by
    rw [List.foldl_cons, joined_sum r, List.length_cons]
    have : sumMany (joinStep J x) = sumMany J + 1 := by
      rcases List.eq_nil_or_concat J with rfl | ⟨i, ⟨a, c⟩, rfl⟩
      · rfl
      · rw [List.concat_eq_append, joinStep_app]
        split
        · rw [sumMany_app, sumMany_app]; simp only; omega
        · rw [sumMany_app]
    rw [this]; omega
theorem joined_pos : ∀ (xs : List Int) (J : List (Int × Int)), (∀ p ∈ J, 1 ≤ p.2) → ∀ p ∈ xs.foldl joinStep J, 1 ≤ p.2
  | [], J, h => h
  | x :: r, J, h => by
    refine joined_pos r _ ?_
    rcases List.eq_nil_or_concat J with rfl | ⟨i, ⟨a, c⟩, rfl⟩
    · intro p hp; rw [List.mem_singleton.mp (show p ∈ [(x, 1)] from hp)]; exact Int.le_refl _
    · rw [List.concat_eq_append] at h ⊢
      rw [joinStep_app]
      intro p hp
      split at hp
      · rcases List.mem_append.mp hp with hp | hp
        · exact h p (List.mem_append_left _ hp)
        · rw [List.mem_singleton.mp hp]
          have := h (a, c) (List.mem_append_right _ (.head _))
          simp only at this ⊢; omega
      · rcases List.mem_append.mp hp with hp | hp
        · exact h p hp
        · rw [List.mem_singleton.mp hp]; exact Int.le_refl _
theorem joined_len : ∀ (xs : List Int) (J : List (Int × Int)), (xs.foldl joinStep J).length ≤ J.length + xs.length
  | [], J => Nat.le_refl _
  | x :: r, J => by
    have h1 := joined_len r (joinStep J x)
    have h2 := joinStep_len J x
    rw [List.foldl_cons, List.length_cons]; omega
theorem delNs_len (ss : List Stp) : (delNs ss).length = dels ss := by
  induction ss with
  | nil => rfl
  | cons s r ih =>
    cases s with
    | del n =>
      have h1 : delNs (.del n :: r) = (n : Int) :: delNs r := rfl
      have h2 : dels (.del n :: r) = dels r + 1 := by unfold dels; rw [List.countP_cons_of_pos rfl]
      rw [h1, h2, List.length_cons, ih]
    | _ => exact ih
theorem insNs_len (ss : List Stp) : (insNs ss).length = inss ss := by
  induction ss with
  | nil => rfl
  | cons s r ih =>
    cases s with
    | ins n =>
      have h1 : insNs (.ins n :: r) = (n : Int) :: insNs r := rfl
      have h2 : inss (.ins n :: r) = inss r + 1 := by unfold inss; rw [List.countP_cons_of_pos rfl]
      rw [h1, h2, List.length_cons, ih]
    | _ => exact ih
end
section -- P5
noncomputable def Run.p (r : Run) : Int × Int := ((r.2.1 : Int), (r.2.2 : Int))
theorem bump_runs (i : List Run) (b : Bool) (a c : Nat) : bump ((i ++ [(b, a, c)]).map Run.p) = (i ++ [(b, a, c + 1)]).map Run.p := by
  rw [List.map_append, List.map_append]
  exact (bump_app _ _ _).trans (by simp [Run.p])
theorem on_len {N : Nat} : ∀ (rs : List Run) {xs : List PyData}, xs.length = N → (∀ r ∈ rs, Run.okR N r) → (rs.foldl Run.on xs).length = N
  | [], _, h, _ => h
  | r :: rs, xs, h, hr => on_len rs (Run.on_length h (hr r (.head _))) fun x hx => hr x (.tail _ hx)
theorem foldl_one {α β : Type} (f : α → β → α) (i : List β) (x : β) (a : α) : (i ++ [x]).foldl f a = f (i.foldl f a) x := by rw [List.foldl_append]; rfl
theorem drop_row (rows : List PyData) (n : Nat) (h : n < rows.length) : rows.drop n = rowAt rows n :: rows.drop (n + 1) := by
  rw [List.drop_eq_getElem_cons h]
  unfold rowAt
  rw [List.getD_eq_getElem?_getD, List.getElem?_eq_getElem h]; rfl
noncomputable abbrev GoneR (rows : List PyData) (N n' : Nat) (ss : List Stp) (t : GoneSt) (Kp : List PyData) (m : Nat) : Prop := ∃ rs' : List Run, (ss.foldl goneStep t).g = rs'.map Run.p ∧ (∀ r ∈ rs', r.1 = true ∧ Run.okR N r) ∧ rs'.foldl Run.on rows = (Kp ++ pairRows rows ss) ++ rows.drop n' ++ List.replicate (m + dels ss) PyData.none
theorem gone_on (rows : List PyData) (N : Nat) (hN : rows.length = N) : ∀ (ss : List Stp) (n f n' f' : Nat), Wk n f ss n' f' → n' ≤ N → ∀ (t : GoneSt) (Kp : List PyData) (m : Nat) (rs : List Run),
    t.g = rs.map Run.p → (∀ r ∈ rs, r.1 = true ∧ Run.okR N r) → rs.foldl Run.on rows = Kp ++ rows.drop n ++ List.replicate m PyData.none → Kp.length + m = n → t.m = (m : Int) →
    (t.r = true → ∃ (i : List Run) (a c : Nat), rs = i ++ [(true, a, c)] ∧ a = Kp.length ∧ c ≤ m) →
    GoneR rows N n' ss t Kp m
  | [], n, f, n', f', ⟨e1, e2⟩, hn, t, Kp, m, rs, h1, h2, h3, h4, h5, h6 => by subst e1; exact ⟨rs, h1, h2, by rw [h3]; simp [pairRows, dels]⟩
  | .keep a b :: r, n, f, n', f', ⟨e1, e2, h⟩, hn, t, Kp, m, rs, h1, h2, h3, h4, h5, h6 => by
    have hle := h.le
    obtain ⟨rs', q1, q2, q3⟩ := gone_on rows N hN r _ _ _ _ h hn ⟨t.g, t.m, false⟩ (Kp ++ [rowAt rows a]) m rs h1 h2 (by rw [h3, ← e1, drop_row rows a (by omega)]; simp) (by rw [List.length_append, List.length_singleton]; omega) h5 nofun
    exact ⟨rs', q1, q2, by rw [q3]; simp [pairRows, dels, Stp.isDel]⟩
  | .draw a b :: r, n, f, n', f', ⟨e1, e2, h⟩, hn, t, Kp, m, rs, h1, h2, h3, h4, h5, h6 => by
    have hle := h.le
    obtain ⟨rs', q1, q2, q3⟩ := gone_on rows N hN r _ _ _ _ h hn ⟨t.g, t.m, false⟩ (Kp ++ [rowAt rows a]) m rs h1 h2 (by rw [h3, ← e1, drop_row rows a (by omega)]; simp) (by rw [List.length_append, List.length_singleton]; omega) h5 nofun
    exact ⟨rs', q1, q2, by rw [q3]; simp [pairRows, dels, Stp.isDel]⟩
  | .ins b :: r, n, f, n', f', ⟨e2, h⟩, hn, t, Kp, m, rs, h1, h2, h3, h4, h5, h6 => by
    obtain ⟨rs', q1, q2, q3⟩ := gone_on rows N hN r _ _ _ _ h hn t Kp m rs h1 h2 h3 h4 h5 h6
    exact ⟨rs', q1, q2, by rw [q3]; simp [pairRows, dels, Stp.isDel]⟩
  | .del a :: r, n, f, n', f', ⟨e1, h⟩, hn, t, Kp, m, rs, h1, h2, h3, h4, h5, h6 => by
    subst e1
    have hle := h.le
    obtain ⟨g, mm, rr⟩ := t
    dsimp only at h1 h5 h6
    subst h1
    have hd : dels (.del a :: r) = dels r + 1 := by unfold dels; rw [List.countP_cons_of_pos rfl]
    have fin : ∀ (rs₁ : List Run), goneStep ⟨rs.map Run.p, mm, rr⟩ (.del a) = ⟨rs₁.map Run.p, mm + 1, true⟩ → (∀ r ∈ rs₁, r.1 = true ∧ Run.okR N r) → rs₁.foldl Run.on rows = Kp ++ rows.drop (a + 1) ++ List.replicate (m + 1) PyData.none →
        (∃ (i : List Run) (x c : Nat), rs₁ = i ++ [(true, x, c)] ∧ x = Kp.length ∧ c ≤ m + 1) →
        GoneR rows N n' (.del a :: r) ⟨rs.map Run.p, mm, rr⟩ Kp m := by
      intro rs₁ k1 k2 k3 k4
      obtain ⟨rs', q1, q2, q3⟩ := gone_on rows N hN r _ _ _ _ h hn ⟨rs₁.map Run.p, mm + 1, true⟩ Kp (m + 1) rs₁ rfl k2 k3 (by omega) (by simp only [h5]; omega) (fun _ => k4)
      refine ⟨rs', ?_, q2, ?_⟩
      · rw [List.foldl_cons, k1]; exact q1
      · rw [q3, hd, show m + 1 + dels r = m + (dels r + 1) by omega]; rfl
    cases rr with
    | true =>
      obtain ⟨i, x, c, rfl, rfl, hc⟩ := h6 rfl
      have hok := h2 (true, Kp.length, c) (List.mem_append_right _ (.head _))
      have hi : ∀ r ∈ i, r.1 = true ∧ Run.okR N r := fun r hr => h2 r (List.mem_append_left _ hr)
      have hL : (i.foldl Run.on rows).length = N := on_len i hN fun r hr => (hi r hr).2
      rw [foldl_one] at h3
      refine fin (i ++ [(true, Kp.length, c + 1)]) ?_ ?_ ?_ ⟨i, _, _, rfl, rfl, by omega⟩
      · simp only [goneStep, if_true]
        rw [bump_runs]
      · intro r hr
        rcases List.mem_append.mp hr with hr | hr
        · exact hi r hr
        · rw [List.mem_singleton.mp hr]
          refine ⟨rfl, ?_⟩
          show Kp.length + (c + 1) ≤ N
          omega
      · rw [foldl_one]
        show delR (i.foldl Run.on rows) Kp.length (c + 1) = _
        rw [delR_succ (by rw [hL]; omega)]
        rw [show delR (i.foldl Run.on rows) Kp.length c = _ from h3]
        exact delR_one (by omega)
    | false =>
      refine fin (rs ++ [(true, Kp.length, 1)]) ?_ ?_ ?_ ⟨rs, _, _, rfl, rfl, by omega⟩
      · simp only [goneStep, Bool.false_eq_true, if_false]
        rw [List.map_append, h5]
        congr 2
        simp only [List.map_cons, List.map_nil, Run.p]
        congr 2
        omega
      · intro r hr
        rcases List.mem_append.mp hr with hr | hr
        · exact h2 r hr
        · rw [List.mem_singleton.mp hr]
          refine ⟨rfl, ?_⟩
          show Kp.length + 1 ≤ N
          omega
      · rw [foldl_one, h3]
        exact delR_one (by omega)
theorem come_on (rows X0 : List PyData) (N : Nat) (hX : X0.length = N) : ∀ (ss : List Stp) (n f n' : Nat), Wk n f ss n' N → ∀ (t : ComeSt) (Dl : List PyData) (rs : List Run),
    t.g = rs.map Run.p → (∀ r ∈ rs, r.1 = false ∧ Run.okR N r ∧ r.2.1 + r.2.2 ≤ N) → rs.foldl Run.on X0 = Dl ++ pairRows rows ss ++ List.replicate (inss ss) PyData.none → Dl.length = f →
    (t.r = true → ∃ (i : List Run) (a c : Nat), rs = i ++ [(false, a, c)] ∧ a + c = f) →
    ∃ rs' : List Run, (ss.foldl comeStep t).g = rs'.map Run.p ∧ (∀ r ∈ rs', r.1 = false ∧ Run.okR N r ∧ r.2.1 + r.2.2 ≤ N) ∧ rs'.foldl Run.on X0 = Dl ++ dueL rows ss
  | [], n, f, n', ⟨e1, e2⟩, t, Dl, rs, h1, h2, h3, h4, h6 => ⟨rs, h1, h2, by rw [h3]; simp [pairRows, dueL, inss]⟩
  | .keep a b :: r, n, f, n', ⟨e1, e2, h⟩, t, Dl, rs, h1, h2, h3, h4, h6 => by
    obtain ⟨rs', q1, q2, q3⟩ := come_on rows X0 N hX r _ _ _ h ⟨t.g, false⟩ (Dl ++ [rowAt rows a]) rs h1 h2 (by rw [h3]; simp [pairRows, inss, Stp.isIns]) (by rw [List.length_append, h4]; rfl) nofun
    exact ⟨rs', q1, q2, by rw [q3]; simp [dueL]⟩
  | .draw a b :: r, n, f, n', ⟨e1, e2, h⟩, t, Dl, rs, h1, h2, h3, h4, h6 => by
    obtain ⟨rs', q1, q2, q3⟩ := come_on rows X0 N hX r _ _ _ h ⟨t.g, false⟩ (Dl ++ [rowAt rows a]) rs h1 h2 (by rw [h3]; simp [pairRows, inss, Stp.isIns]) (by rw [List.length_append, h4]; rfl) nofun
    exact ⟨rs', q1, q2, by rw [q3]; simp [dueL]⟩
  | .del b :: r, n, f, n', ⟨e2, h⟩, t, Dl, rs, h1, h2, h3, h4, h6 => by
    obtain ⟨rs', q1, q2, q3⟩ := come_on rows X0 N hX r _ _ _ h t Dl rs h1 h2 (by rw [h3]; simp [pairRows, inss, Stp.isIns]) h4 h6
    exact ⟨rs', q1, q2, by rw [q3]; simp [dueL]⟩
  | .ins a :: r, n, f, n', ⟨e1, h⟩, t, Dl, rs, h1, h2, h3, h4, h6 => by
    subst e1
    have hle := h.le
    obtain ⟨g, rr⟩ := t
    dsimp only at h1 h6
    subst h1
    have hd : inss (.ins a :: r) = inss r + 1 := by unfold inss; rw [List.countP_cons_of_pos rfl]
    rw [hd, show pairRows rows (.ins a :: r) = pairRows rows r from rfl] at h3
    have fin : ∀ (rs₁ : List Run), comeStep ⟨rs.map Run.p, rr⟩ (.ins a) = ⟨rs₁.map Run.p, true⟩ → (∀ r ∈ rs₁, r.1 = false ∧ Run.okR N r ∧ r.2.1 + r.2.2 ≤ N) → rs₁.foldl Run.on X0 = (Dl ++ [PyData.none]) ++ pairRows rows r ++ List.replicate (inss r) PyData.none →
        (∃ (i : List Run) (x c : Nat), rs₁ = i ++ [(false, x, c)] ∧ x + c = a + 1) →
        ∃ rs' : List Run, ((Stp.ins a :: r).foldl comeStep ⟨rs.map Run.p, rr⟩).g = rs'.map Run.p ∧ (∀ r ∈ rs', r.1 = false ∧ Run.okR N r ∧ r.2.1 + r.2.2 ≤ N) ∧ rs'.foldl Run.on X0 = Dl ++ dueL rows (.ins a :: r) := by
      intro rs₁ k1 k2 k3 k4
      obtain ⟨rs', q1, q2, q3⟩ := come_on rows X0 N hX r _ _ _ h ⟨rs₁.map Run.p, true⟩ (Dl ++ [PyData.none]) rs₁ rfl k2 k3 (by rw [List.length_append, h4]; rfl) (fun _ => k4)
      refine ⟨rs', ?_, q2, ?_⟩
      · rw [List.foldl_cons, k1]; exact q1
      · rw [q3, List.append_assoc]; rfl
    cases rr with
    | true =>
      obtain ⟨i, x, c, rfl, hxc⟩ := h6 rfl
      have hi : ∀ r ∈ i, r.1 = false ∧ Run.okR N r ∧ r.2.1 + r.2.2 ≤ N := fun r hr => h2 r (List.mem_append_left _ hr)
      have hL : (i.foldl Run.on X0).length = N := on_len i hX fun r hr => (hi r hr).2.1
      rw [foldl_one] at h3
      refine fin (i ++ [(false, x, c + 1)]) ?_ ?_ ?_ ⟨i, _, _, rfl, by omega⟩
      · simp only [comeStep, if_true]
        rw [bump_runs]
      · intro r hr
        rcases List.mem_append.mp hr with hr | hr
        · exact hi r hr
        · rw [List.mem_singleton.mp hr]
          refine ⟨rfl, ?_, ?_⟩
          · show x ≤ N ∧ c + 1 ≤ N
            omega
          · show x + (c + 1) ≤ N
            omega
      · rw [foldl_one]
        show insR (i.foldl Run.on X0) x (c + 1) = _
        rw [insR_succ (by rw [hL]; omega)]
        rw [show insR (i.foldl Run.on X0) x c = _ from h3, hxc, ← h4]
        exact insR_one
    | false =>
      refine fin (rs ++ [(false, a, 1)]) ?_ ?_ ?_ ⟨rs, _, _, rfl, by omega⟩
      · simp only [comeStep, Bool.false_eq_true, if_false]
        rw [List.map_append]; rfl
      · intro r hr
        rcases List.mem_append.mp hr with hr | hr
        · exact h2 r hr
        · rw [List.mem_singleton.mp hr]
          refine ⟨rfl, ?_, ?_⟩
          · show a ≤ N ∧ 1 ≤ N
            omega
          · show a + 1 ≤ N
            omega
      · rw [foldl_one, h3]
        show insR _ a 1 = _
        rw [← h4]
        exact insR_one
/-- the runs, one behind the other, bring each row to its place -/
theorem runs_due {ss : List Stp} {N : Nat} (h : Wk 0 0 ss N N) (rows : List PyData) (hN : rows.length = N) :
    ∃ rg rc : List Run, goneOf ss = rg.map Run.p ∧ comeOf ss = rc.map Run.p ∧ runsOf ss = (rg ++ rc).map Run.d ∧ (∀ r ∈ rg ++ rc, Run.okR N r) ∧ (∀ r ∈ rg, r.1 = true) ∧ (∀ r ∈ rc, r.1 = false ∧ r.2.1 + r.2.2 ≤ N) ∧ (rg ++ rc).foldl Run.on rows = dueL rows ss := by
  obtain ⟨c1, c2⟩ := h.count
  obtain ⟨rg, a1, a2, a3⟩ := gone_on rows N hN ss _ _ _ _ h (Nat.le_refl _) ⟨[], 0, false⟩ [] 0 [] rfl (fun _ h => by cases h) (by simp) rfl rfl nofun
  have hX : (rg.foldl Run.on rows).length = N := on_len rg hN fun r hr => (a2 r hr).2
  have hz : rows.drop N = [] := by rw [← hN, List.drop_length]
  rw [hz, List.append_nil, List.nil_append, Nat.zero_add] at a3
  obtain ⟨rc, b1, b2, b3⟩ := come_on rows (rg.foldl Run.on rows) N hX ss _ _ _ h ⟨[], false⟩ [] [] rfl (fun _ h => by cases h) (by rw [List.foldl_nil, a3, show dels ss = inss ss by omega]; rfl) rfl nofun
  have e1 : (goneOf ss).map (runD (Str.ofString "delete")) = rg.map Run.d := by
    unfold goneOf; rw [a1, List.map_map]
    refine List.map_congr_left fun r hr => ?_
    have := (a2 r hr).1
    obtain ⟨b, x, c⟩ := r
    simp only at this
    subst this; rfl
  have e2 : (comeOf ss).map (runD (Str.ofString "insert")) = rc.map Run.d := by
    unfold comeOf; rw [b1, List.map_map]
    refine List.map_congr_left fun r hr => ?_
    have := (b2 r hr).1
    obtain ⟨b, x, c⟩ := r
    simp only at this
    subst this; rfl
  refine ⟨rg, rc, a1, b1, ?_, ?_, fun r hr => (a2 r hr).1, fun r hr => ⟨(b2 r hr).1, (b2 r hr).2.2⟩, ?_⟩
  · unfold runsOf; rw [e1, e2, List.map_append]
  · intro r hr
    rcases List.mem_append.mp hr with hr | hr
    · exact (a2 r hr).2
    · exact (b2 r hr).2.1
  · rw [List.foldl_append, b3]; rfl
end
section -- P6
theorem turns_len : ∀ (J : List (Int × Int)) (t : List (Int × Int) × Int), (J.foldl turnStep t).1.length = t.1.length + J.length
  | [], t => rfl
  | p :: r, t => by rw [List.foldl_cons, turns_len r]; simp only [turnStep, List.length_append, List.length_cons, List.length_nil]; omega
theorem goneOf_eq {ss : List Stp} {N : Nat} (h : Wk 0 0 ss N N) : goneOf ss = (((delNs ss).foldl joinStep []).foldl turnStep ([], 0)).1 :=
  gone_gen ss _ _ _ _ h ⟨[], 0, false⟩ [] rfl rfl nofun (fun _ i a c q => by cases i <;> cases q)
theorem comeOf_eq {ss : List Stp} {N : Nat} (h : Wk 0 0 ss N N) : comeOf ss = (insNs ss).foldl joinStep [] :=
  come_gen ss _ _ _ _ h ⟨[], false⟩ [] rfl nofun (fun _ i a c q => by cases i <;> cases q)
theorem lscroll_none {g c : List (Int × Int)} (h : g.length ≠ 1 ∨ c.length ≠ 1) : lscrollOf g c = .none ∧ scrollOf g c = .none := by
  match g, c, h with
  | [], _, _ => exact ⟨rfl, rfl⟩
  | [_], [], _ => exact ⟨rfl, rfl⟩
  | [_], [_], h => rcases h with h | h <;> exact absurd rfl h
  | [_], _ :: _ :: _, _ => exact ⟨rfl, rfl⟩
  | _ :: _ :: _, _, _ => exact ⟨rfl, rfl⟩
theorem scroll_eq {ss : List Stp} {N : Nat} (h : Wk 0 0 ss N N) (rows : List PyData) (hN : rows.length = N) :
    scrollOf (goneOf ss) (comeOf ss) = lscrollOf ((delNs ss).foldl joinStep []) ((insNs ss).foldl joinStep []) ∧
    (scrollOf (goneOf ss) (comeOf ss) ≠ .none → ∃ top bot m up, scrollOf (goneOf ss) (comeOf ss) = scrD top bot m up ∧ top ≤ bot ∧ bot < N ∧ 0 < m ∧ m ≤ bot + 1 - top ∧ scrR rows top bot m up = dueL rows ss) := by
  obtain ⟨c1, c2⟩ := h.count
  have eg := goneOf_eq h
  have ec := comeOf_eq h
  have s1 := joined_sum (delNs ss) []
  have s2 := joined_sum (insNs ss) []
  have p1 := joined_pos (delNs ss) [] (fun _ h => by cases h)
  have lg := turns_len ((delNs ss).foldl joinStep []) ([], 0)
  rw [delNs_len] at s1
  rw [insNs_len] at s2
  obtain ⟨rg, rc, a1, a2, a3, a4, a5, a6, a7⟩ := runs_due h rows hN
  rw [← eg] at lg
  rw [ec]
  rw [ec] at a2
  generalize (delNs ss).foldl joinStep [] = J at eg s1 p1 lg ⊢
  generalize (insNs ss).foldl joinStep [] = I at s2 a2 ⊢
  have lg : (goneOf ss).length = J.length := by rw [lg]; exact Nat.zero_add _
  by_cases hj : J.length = 1
  · by_cases hi : I.length = 1
    · obtain ⟨⟨x, m⟩, rfl⟩ := List.length_eq_one_iff.mp hj
      obtain ⟨⟨y, n⟩, rfl⟩ := List.length_eq_one_iff.mp hi
      have hm : m = (dels ss : Int) := by
        have : sumMany [(x, m)] = m := by unfold sumMany; simp
        rw [this] at s1; rw [s1]; show sumMany [] + _ = _; unfold sumMany; simp
      have hn : n = (inss ss : Int) := by
        have : sumMany [(y, n)] = n := by unfold sumMany; simp
        rw [this] at s2; rw [s2]; show sumMany [] + _ = _; unfold sumMany; simp
      have hmn : m = n := by omega
      have hg : goneOf ss = [(x, m)] := by rw [eg]; simp [turnStep]
      rw [hg] at a1 ⊢
      have hpos : 1 ≤ m := p1 (x, m) (.head _)
      -- the two runs, in Nat
      have r1 : ∃ a c : Nat, rg = [(true, a, c)] ∧ (a : Int) = x ∧ (c : Int) = m := by
        obtain ⟨⟨b, a, c⟩, hx0⟩ := List.length_eq_one_iff.mp (show rg.length = 1 by rw [← List.length_map (f := Run.p), ← a1]; rfl)
        · subst hx0
          have := a5 _ (.head _)
          simp only at this
          subst this
          simp only [List.map_cons, List.map_nil, Run.p, List.cons.injEq, Prod.mk.injEq, and_true] at a1
          exact ⟨a, c, rfl, a1.1.symm, a1.2.symm⟩
      have r2 : ∃ a c : Nat, rc = [(false, a, c)] ∧ (a : Int) = y ∧ (c : Int) = n := by
        obtain ⟨⟨b, a, c⟩, hx0⟩ := List.length_eq_one_iff.mp (show rc.length = 1 by rw [← List.length_map (f := Run.p), ← a2]; rfl)
        · subst hx0
          have := (a6 _ (.head _)).1
          simp only at this
          subst this
          simp only [List.map_cons, List.map_nil, Run.p, List.cons.injEq, Prod.mk.injEq, and_true] at a2
          exact ⟨a, c, rfl, a2.1.symm, a2.2.symm⟩
      obtain ⟨a, c, rfl, rfl, rfl⟩ := r1
      obtain ⟨b, d, rfl, rfl, rfl⟩ := r2
      have hcd : c = d := by omega
      subst hcd
      have ok1 : a + c ≤ N := a4 (true, a, c) (.head _)
      have due : insR (delR rows a c) b c = dueL rows ss := a7
      refine ⟨by rw [scrollOf_11, lscrollOf_11, if_pos rfl], fun hne => ?_⟩
      have hab : ¬ (a : Int) = (b : Int) := by
        intro q
        apply hne
        rw [scrollOf_11, if_pos rfl, if_pos q]
      -- the place of the coming run: within the screen
      have ok2 : b + c ≤ N := (a6 (false, b, c) (.head _)).2
      have hc0 : 1 ≤ c := by omega
      (try clear s1); (try clear s2); (try clear c1); (try clear c2); (try clear hm); (try clear hn); (try clear hpos); (try clear hmn); (try clear hi); (try clear hj); (try clear lg)
      rcases Nat.lt_or_ge a b with hlt | hge
      · refine ⟨a, b + c - 1, c, true, ?_, by omega, by omega, by omega, by omega, ?_⟩
        · simp only [scrollOf_11, if_true, if_neg hab, scrD]
          rw [if_pos (by omega)]
          congr 4; omega
        · rw [scr_up (by omega) hlt (by omega), due]
      · have hlt : b < a := by omega
        refine ⟨b, a + c - 1, c, false, ?_, by omega, by omega, by omega, by omega, ?_⟩
        · simp only [scrollOf_11, if_true, if_neg hab, scrD]
          rw [if_neg (by omega)]
          congr 4; omega
        · rw [scr_down (by omega) hlt (by omega), due]
    · obtain ⟨q1, q2⟩ := lscroll_none (g := J) (c := I) (.inr hi)
      obtain ⟨q3, q4⟩ := lscroll_none (g := goneOf ss) (c := I) (.inr hi)
      rw [q1, q4]
      exact ⟨rfl, fun h => absurd rfl h⟩
  · obtain ⟨q1, q2⟩ := lscroll_none (g := J) (c := I) (.inl hj)
    obtain ⟨q3, q4⟩ := lscroll_none (g := goneOf ss) (c := I) (.inl (by rw [lg]; exact hj))
    rw [q1, q4]
    exact ⟨rfl, fun h => absurd rfl h⟩
end
section -- F18
section
variable {prog : Program} {w : World} {H0 : Heap} {mg mb : Vals} {k : Nat} {KF : Frag}
noncomputable abbrev lawEnv (L fa : Addr) (cd : Value) : Env := envOfC (Str.ofString "law") (scopeOf (stmtAt 25)) L fa cd
theorem lawEnv_ok (L fa : Addr) (cd : Value) : EnvOk (lawEnv L fa cd) := by
  refine ⟨rfl, rfl, rfl, ?_⟩
  intro x y c hx hy
  have hc : (lawEnv L fa cd).cells = [(Str.ofString "alone", L + 1 + 1), (Str.ofString "deck", L + 1)] := rfl
  rw [hc] at hx hy
  have key : ∀ z d, [(Str.ofString "alone", L + 1 + 1), (Str.ofString "deck", L + 1)].lookup z = some d → (z = Str.ofString "alone" ∧ d = L + 1 + 1) ∨ (z = Str.ofString "deck" ∧ d = L + 1) := by
    intro z d hz
    simp only [List.lookup_cons, List.lookup_nil] at hz
    split at hz
    · rename_i q; cases hz; exact .inl ⟨beq_iff_eq.mp q, rfl⟩
    · split at hz
      · rename_i q; cases hz; exact .inr ⟨beq_iff_eq.mp q, rfl⟩
      · cases hz
  rcases key x c hx with ⟨rfl, rfl⟩ | ⟨rfl, rfl⟩ <;> rcases key y _ hy with ⟨rfl, h⟩ | ⟨rfl, h⟩
  · rfl
  · exact absurd h (Nat.succ_ne_self _)
  · exact absurd h.symm (Nat.succ_ne_self _)
  · rfl
noncomputable abbrev lawStmt (j : Nat) : Stmt := ((bodyOf (stmtAt 25))[j]?).getD (.Pass ⟨0,0,0,0⟩)
noncomputable abbrev lawRest (j : Nat) : List Stmt := (bodyOf (stmtAt 25)).drop j
noncomputable def lawK : Out → Prop := fun o => match o with | .ret ρ _ => ρ = .dat (.bool true) | .next .. => False
/-- what the law's frame holds, from the loop on -/
structure LawS (σ : Sto) (ss : List Stp) (N : Nat) (rows : List PyData) : Prop where
  f_nc : NoCost σ
  f_steps : σ (Str.ofString "steps") = some (.lst false (ss.map Stp.d))
  f_kept : σ (Str.ofString "kept") = some (.lst false ((pairsOf ss).map pD))
  f_gone : σ (Str.ofString "gone") = some (.lst false (((delNs ss).foldl joinStep []).map pairD))
  f_come : σ (Str.ofString "come") = some (.lst false (((insNs ss).foldl joinStep []).map pairD))
  f_size : σ (Str.ofString "size") = some (.dat (.int (N : Int)))
  f_rows : σ (Str.ofString "rows") = some (.lst false rows)
  f_was : σ (Str.ofString "was") = some (.lst false rows)
noncomputable def lawNames : List Str := [Str.ofString "steps", Str.ofString "kept", Str.ofString "gone", Str.ofString "come", Str.ofString "size", Str.ofString "rows", Str.ofString "was"]
theorem LawS.set {σ : Sto} {ss : List Stp} {N : Nat} {rows : List PyData} (h : LawS σ ss N rows) {x : Str} {e : Ent} (hx : x ∉ lawNames) (he : e.noCost = true) : LawS (σ.set x e) ss N rows := by
  have ne : ∀ n ∈ lawNames, n ≠ x := fun n hn q => hx (q ▸ hn)
  obtain ⟨h1, h2, h3, h4, h5, h6, h7, h8⟩ := h
  exact ⟨h1.set he, lk_ne h2 (ne _ (by simp [lawNames])), lk_ne h3 (ne _ (by simp [lawNames])), lk_ne h4 (ne _ (by simp [lawNames])), lk_ne h5 (ne _ (by simp [lawNames])), lk_ne h6 (ne _ (by simp [lawNames])), lk_ne h7 (ne _ (by simp [lawNames])), lk_ne h8 (ne _ (by simp [lawNames]))⟩
/-- what is known of the steps and the rows -/
structure Facts (ss : List Stp) (N : Nat) (rows : List PyData) : Prop where
  wk : Wk 0 0 ss N N
  n1 : 1 ≤ N
  n8 : N ≤ 8
  len : ss.length ≤ 16
  rl : rows.length = N
  rn : ∀ n, n < rows.length → isNoneD (rowAt rows n) = false
  rp : ∀ x ∈ rows, P1 x
end
end
section -- F19
section
variable {prog : Program} {w : World} {H0 : Heap} {mg mb : Vals} {k : Nat} {KF : Frag}
theorem P1_pick {xs : List PyData} (h : ∀ x ∈ xs, P1 x) (i : Int) : P1 (pick xs i) := by
  unfold pick
  rw [List.getD_eq_getElem?_getD]
  cases q : xs[i.toNat]? with
  | none => exact P1_none
  | some d => exact h d (List.mem_of_getElem? q)
theorem P1_shift {xs : List PyData} (h : ∀ x ∈ xs, P1 x) (top bot many : Int) (n : Nat) : ∀ x ∈ (List.range n).map (shiftAt xs top bot many), P1 x := by
  intro x hx
  obtain ⟨i, _, rfl⟩ := List.mem_map.mp hx
  unfold shiftAt
  split
  · split
    · exact P1_pick h _
    · exact P1_none
  · exact P1_pick h _
theorem P1_push {xs : List PyData} (h : ∀ x ∈ xs, P1 x) (b : Bool) (first many : Int) (n : Nat) : ∀ x ∈ (List.range n).map (pushAt xs b first many), P1 x := by
  intro x hx
  obtain ⟨i, _, rfl⟩ := List.mem_map.mp hx
  unfold pushAt
  split
  · exact P1_pick h _
  · by_cases q : first ≤ (if b = true then (i : Int) + many else (i : Int) - many) ∧ (if b = true then (i : Int) + many else (i : Int) - many) < xs.length
    · rw [if_pos q]; exact P1_pick h _
    · rw [if_neg q]; exact P1_none
structure Tl (σ : Sto) (N : Nat) (rows : List PyData) : Prop where
  f_nc : NoCost σ
  f_size : σ (Str.ofString "size") = some (.dat (.int (N : Int)))
  f_rows : σ (Str.ofString "rows") = some (.lst false rows)
  f_was : σ (Str.ofString "was") = some (.lst false rows)
noncomputable abbrev DrawC (prog : Program) (w : World) (H0 : Heap) (mg : Vals) (k : Nat) (c : List Int) : Prop := ∀ (t below : Int), 0 ≤ t → t ≤ 1000 → 0 < below → FnD prog w H0 mg (k + 10) (Str.ofString "_law_draw") c t [.dat (.int below)] fun ρ c' t' => c = c' ∧ t' = t + 1 ∧ ∃ v : Nat, ρ = .dat (.int (v : Int)) ∧ (v : Int) < below
theorem law_last (G : Gl H0 mg mb) (L fa : Addr) (cd : Value) (σ : Sto) (N : Nat) (rows : List PyData) (l : Addr) (c : List Int) (t : Int) (hT : Tl σ N rows)
    (hN1 : 1 ≤ N) (hN8 : N ≤ 8) (hrl : rows.length = N) (hrp : ∀ x ∈ rows, P1 x) (cD : DrawC prog w H0 mg k c) (ht : 0 ≤ t) (ht2 : t ≤ 300) :
    S prog w H0 (k + 10) (lawEnv L fa cd) σ (some (l, c, t)) (execs (lawRest 23) (lawEnv L fa cd)) lawK := by
  have V : EnvOk (lawEnv L fa cd) := lawEnv_ok L fa cd
  have hF16 : FnAt H0 mg (Str.ofString "_law_draw") _ _ _ := G.fn 16
  have hF11 : FnAt H0 mg (Str.ofString "script_run_done") _ _ _ := G.fn 11
  have hF23 : FnAt H0 mg (Str.ofString "_law_pushed") _ _ _ := G.fn 23
  obtain ⟨nc, s5, s6, s7⟩ := hT
  have hrow : okD (.list rows) := okD_list hrp
  refine S.cons ?_
  k_call_by "tup2" 0
  k_call_by "drw" 0
  refine (cD t N (by omega) (by omega) (by omega)).mono ?_
  rintro _ _ _ ⟨rfl, rfl, a, rfl, ha⟩
  k_call_by "gx" 0
  k_call_by "drw" 0
  refine (cD _ 2 (by omega) (by omega) (by omega)).mono ?_
  rintro _ _ _ ⟨rfl, rfl, u, rfl, hu⟩
  have fin : ∀ (del : Bool) (σ' : Sto), Tl σ' N rows → σ' (Str.ofString "first") = some (.dat (.int (a : Int))) → σ' (Str.ofString "word") = some (.dat (.str (wordOf del))) → S prog w H0 (k + 10) (lawEnv L fa cd) σ' (some (l, c, t + 1 + 1)) (execs (lawRest 24) (lawEnv L fa cd)) lawK := by
    intro del σ' ⟨nc, s5, s6, s7⟩ s8 s9
    refine S.cons ?_
    k_call_by "asg" 0
    k_call_by "gx" 0
    refine E.callD1' hF16 G.gnd V rfl (by k_call_by "ncs" 0) (by k_call_by "kd" 0) rfl (by decide) ?_
    k_call_by "gx" 0
    refine (cD _ ((N : Int) - a) (by omega) (by omega) (by omega)).mono ?_
    rintro _ _ _ ⟨rfl, rfl, m, rfl, hm⟩
    k_call_by "op" 0
    rw [show (1 : Int) + (m : Int) = ((1 + m : Nat) : Int) by omega]
    k_call_by "go" 0
    refine E.call2 hF11 G.gnd V rfl ?_ rfl (by decide)
    k_call_by "gx" 0
    have hok : Run.okR N (del, a, 1 + m) := by
      cases del
      · show a ≤ N ∧ 1 + m ≤ N
        omega
      · show a + (1 + m) ≤ N
        omega
    have hpush : Run.on rows (del, a, 1 + m) = (List.range N).map (pushAt rows del a ((1 + m : Nat) : Int)) := by
      rw [← hrl] at hok ⊢
      cases del
      · exact pushed_ins hok.1
      · exact pushed_del hok
    have hP := P1_push hrp del a ((1 + m : Nat) : Int) N
    have hd : PyData.tuple [.str (wordOf del), .int (a : Int), .int ((1 + m : Nat) : Int)] = Run.d (del, a, 1 + m) := by cases del <;> rfl
    rw [hd]
    refine (c_run_done (k := k + 9) G .safe rows (del, a, 1 + m) N (by omega) hrl hok).eq ?_
    rw [hpush]
    refine ⟨rfl, ?_⟩
    refine E.call4 hF23 G.gnd V rfl ?_ rfl (by decide)
    k_call_by "gx" 0
    refine (c_pushed (k := k + 9) G .safe rows del a ((1 + m : Nat) : Int) N hrl (by omega) (by omega)).eq ?_
    refine ⟨_, CmpR.eqL _ _ _ _ (okD_list hP) (okD_list hP), _, rfl, ?_⟩
    rw [eqvAll_refl hP]
    refine ⟨nofun, fun _ => ?_⟩
    k_call_by "gx" 0
    rw [eqvAll_refl hrp]
    exact rfl
  have hu' : u = 0 ∨ u = 1 := by omega
  rcases hu' with rfl | rfl
  · refine ⟨_, SubR.lst _ _ _ _ (by omega) (by omega) (show at? _ _ = some (.str (Str.ofString "delete")) from rfl), ?_⟩
    k_call_by "gx" 0
    exact fin true _ ⟨(by k_call_by "ncs" 0), (by k_call_by "lk" 0), (by k_call_by "lk" 0), (by k_call_by "lk" 0)⟩ (by k_call_by "lk" 0) (by k_call_by "lkq" 0; rfl)
  · refine ⟨_, SubR.lst _ _ _ _ (by omega) (by omega) (show at? _ _ = some (.str (Str.ofString "insert")) from rfl), ?_⟩
    k_call_by "gx" 0
    exact fin false _ ⟨(by k_call_by "ncs" 0), (by k_call_by "lk" 0), (by k_call_by "lk" 0), (by k_call_by "lk" 0)⟩ (by k_call_by "lk" 0) (by k_call_by "lkq" 0; rfl)
theorem law_if (G : Gl H0 mg mb) (L fa : Addr) (cd : Value) (σ : Sto) (N : Nat) (rows : List PyData) (l : Addr) (c : List Int) (t : Int) (hT : Tl σ N rows) (a bt m : Nat) (up : Bool)
    (s1 : σ (Str.ofString "top") = some (.dat (.int (a : Int)))) (s2 : σ (Str.ofString "bottom") = some (.dat (.int (bt : Int)))) (s3 : σ (Str.ofString "many") = some (.dat (.int (if up then (m : Int) else -(m : Int))))) (h1 : a ≤ bt) (h2 : bt < N) (h3 : 0 < m) (h4 : m ≤ bt + 1 - a)
    (hN1 : 1 ≤ N) (hN8 : N ≤ 8) (hrl : rows.length = N) (hrp : ∀ x ∈ rows, P1 x) (cD : DrawC prog w H0 mg k c) (ht : 0 ≤ t) (ht2 : t ≤ 300) :
    S prog w H0 (k + 10) (lawEnv L fa cd) σ (some (l, c, t)) (execs (lawRest 22) (lawEnv L fa cd)) lawK := by
  have V : EnvOk (lawEnv L fa cd) := lawEnv_ok L fa cd
  have hF12 : FnAt H0 mg (Str.ofString "script_scrolled") _ _ _ := G.fn 12
  have hF22 : FnAt H0 mg (Str.ofString "_law_shifted") _ _ _ := G.fn 22
  obtain ⟨nc, s5, s6, s7⟩ := hT
  refine S.cons (S.ifs ?_)
  k_call_by "ts" 0
  refine E.call2 hF12 G.gnd V rfl ?_ rfl (by decide)
  k_call_by "gx" 0
  refine (c_scrolled (k := k + 9) G .safe rows a bt m up N (by omega) hrl h1 h2 h3 h4).eq ?_
  have hsh : scrR rows a bt m up = (List.range N).map (shiftAt rows a bt (if up then (m : Int) else -(m : Int))) := by
    rw [← hrl] at h2 ⊢
    cases up
    · exact shifted_down h3 h1 h2 h4
    · exact shifted_up h3 h1 h2 h4
  rw [hsh]
  have hP := P1_shift hrp a bt (if up then (m : Int) else -(m : Int)) N
  refine ⟨rfl, ?_⟩
  refine E.call2 hF22 G.gnd V rfl ?_ rfl (by decide)
  k_call_by "gx" 0
  refine (c_shifted (k := k + 9) G .safe rows a bt (if up then (m : Int) else -(m : Int)) N hrl (by omega) (by omega) (by omega)).eq ?_
  refine ⟨_, CmpR.neL _ _ _ _ (okD_list hP) (okD_list hP), ?_⟩
  rw [eqvAll_refl hP]
  refine ⟨nofun, fun _ => S.nil (Then.next ?_)⟩
  exact law_last G L fa cd σ N rows l c t ⟨nc, s5, s6, s7⟩ hN1 hN8 hrl hrp cD ht ht2
theorem law_tail (G : Gl H0 mg mb) (L fa : Addr) (cd : Value) (σ : Sto) (N : Nat) (rows : List PyData) (l : Addr) (c : List Int) (t : Int) (nc : NoCost σ) (s5 : σ (Str.ofString "size") = some (.dat (.int (N : Int)))) (s6 : σ (Str.ofString "rows") = some (.lst false rows)) (s7 : σ (Str.ofString "was") = some (.lst false rows))
    (hN1 : 1 ≤ N) (hN8 : N ≤ 8) (hrl : rows.length = N) (hrp : ∀ x ∈ rows, P1 x) (hc : c.length ≤ 100) (ht : 0 ≤ t) (ht2 : t ≤ 200) :
    S prog w H0 (k + 10) (lawEnv L fa cd) σ (some (l, c, t)) (execs (lawRest 19) (lawEnv L fa cd)) lawK := by
  have V : EnvOk (lawEnv L fa cd) := lawEnv_ok L fa cd
  have hF16 : FnAt H0 mg (Str.ofString "_law_draw") _ _ _ := G.fn 16
  have hF12 : FnAt H0 mg (Str.ofString "script_scrolled") _ _ _ := G.fn 12
  have hF11 : FnAt H0 mg (Str.ofString "script_run_done") _ _ _ := G.fn 11
  have hF22 : FnAt H0 mg (Str.ofString "_law_shifted") _ _ _ := G.fn 22
  have hF23 : FnAt H0 mg (Str.ofString "_law_pushed") _ _ _ := G.fn 23
  have cD : DrawC prog w H0 mg k c := fun t below h1 h2 h3 => (c_draw G c t below hc h1 h2 h3).mono fun _ _ _ ⟨h, r, v, e, v1, v2⟩ => ⟨h.symm, r, v.toNat, by rw [e, show ((v.toNat : Nat) : Int) = v by omega], by omega⟩
  have hrow : okD (.list rows) := okD_list hrp
  refine S.cons ?_
  -- top
  k_call_by "asg" 0
  k_call_by "drw" 0
  refine (cD t N (by omega) (by omega) (by omega)).mono ?_
  rintro _ _ _ ⟨rfl, rfl, a, rfl, ha⟩
  k_call_by "go" 0
  -- bottom
  k_call_by "asg" 0
  k_call_by "gx" 0
  refine E.callD1' hF16 G.gnd V rfl (by k_call_by "ncs" 0) (by k_call_by "kd" 0) rfl (by decide) ?_
  k_call_by "gx" 0
  refine (cD (t + 1) ((N : Int) - a) (by omega) (by omega) (by omega)).mono ?_
  rintro _ _ _ ⟨rfl, rfl, b, rfl, hb⟩
  k_call_by "op" 0
  rw [show (a : Int) + (b : Int) = ((a + b : Nat) : Int) by omega]
  k_call_by "go" 0
  -- many
  k_call_by "asg" 0
  k_call_by "gx" 0
  refine E.callD1' hF16 G.gnd V rfl (by k_call_by "ncs" 0) (by k_call_by "kd" 0) rfl (by decide) ?_
  k_call_by "gx" 0
  refine (cD (t + 1 + 1) (((a + b : Nat) : Int) - a + 1) (by omega) (by omega) (by omega)).mono ?_
  rintro _ _ _ ⟨rfl, rfl, m, rfl, hm⟩
  k_call_by "gx" 0
  k_call_by "drw" 0
  refine (cD _ 2 (by omega) (by omega) (by omega)).mono ?_
  rintro _ _ _ ⟨rfl, rfl, u, rfl, hu⟩
  have hu' : u = 0 ∨ u = 1 := by omega
  rcases hu' with rfl | rfl
  · refine ⟨_, SubR.lst _ _ _ _ (by omega) (by omega) (show at? _ _ = some (.int 1) from rfl), ?_⟩
    k_call_by "gx" 0
    refine Then.next ?_
    exact law_if G L fa cd _ N rows l _ _ ⟨(by k_call_by "ncs" 0), (by k_call_by "lk" 0), (by k_call_by "lk" 0), (by k_call_by "lk" 0)⟩ a (a + b) (1 + m) true (by k_call_by "lk" 0) (by k_call_by "lk" 0) (by k_call_by "lkq" 0; rw [if_pos rfl]; congr 2; omega) (by omega) (by omega) (by omega) (by omega) hN1 hN8 hrl hrp cD (by omega) (by omega)
  · refine ⟨_, SubR.lst _ _ _ _ (by omega) (by omega) (show at? _ _ = some (.int (-1)) from rfl), ?_⟩
    k_call_by "gx" 0
    refine Then.next ?_
    exact law_if G L fa cd _ N rows l _ _ ⟨(by k_call_by "ncs" 0), (by k_call_by "lk" 0), (by k_call_by "lk" 0), (by k_call_by "lk" 0)⟩ a (a + b) (1 + m) false (by k_call_by "lk" 0) (by k_call_by "lk" 0) (by k_call_by "lkq" 0; rw [if_neg Bool.false_ne_true]; congr 2; omega) (by omega) (by omega) (by omega) (by omega) hN1 hN8 hrl hrp cD (by omega) (by omega)
end
end
section -- F20
section
variable {prog : Program} {w : World} {H0 : Heap} {mg mb : Vals} {k : Nat} {KF : Frag}
noncomputable def Sto.drop (σ : Sto) (x : Str) : Sto := fun y => if y = x then .none else σ y
theorem lk_drop {σ : Sto} {x y : Str} {e : Ent} (h : σ y = some e) (hne : y ≠ x) : σ.drop x y = some e := by unfold Sto.drop; rw [if_neg hne]; exact h
theorem drop_le {σ : Sto} {x : Str} : ∀ y e, σ.drop x y = some e → σ y = some e := by
  intro y e h
  unfold Sto.drop at h
  split at h
  · cases h
  · exact h
theorem drop_nc {σ : Sto} {x : Str} {e : Ent} (h : NoCost σ) : NoCost ((σ.set x e).drop x) := by
  intro y dx ps ds q
  unfold Sto.drop at q
  split at q
  · cases q
  · rename_i hn
    rw [Sto.set_ne _ _ hn] at q
    exact h y dx ps ds q
theorem draws_comp {cenv : Env} {x : Str} {px p1 p2 p3 p4 : Pos} {kk : Nat} {B : Int} {n : Nat} {l : Addr} {c : List Int} {t : Int} {KK : List PyData → Dk → Prop} (G : Gl H0 mg mb) (V' : EnvOk cenv) (hF : FnAt H0 mg (Str.ofString "_law_draw") (argsOf (stmtAt 16)) (bodyOf (stmtAt 16)) (scopeOf (stmtAt 16)))
    (hk : cenv.kindOf (Str.ofString "_law_draw") = some .globalImplicit) (hd : Kind cenv deckName) (hc : c.length ≤ 100) (ht : 0 ≤ t) (ht2 : t + n ≤ 900) (hB : 0 < B)
    (h : ∀ vs : List Int, vs.length = n → KK (vs.map .int) (some (l, c, t + n))) :
    CompL prog w H0 (k + 1) cenv (.Name x px) (.Call (.Name (Str.ofString "_law_draw") p1) [.Name (Str.ofString "deck") p2, .Constant (.int B) kk p3] [] p4) [] noSto (rangeD n) (some (l, c, t)) [] KK := by
  unfold rangeD
  refine CompL.ind (f := fun (i : Nat) => PyData.int i) (I := fun r d acc => ∃ vs : List Int, d = some (l, c, t + vs.length) ∧ acc = vs.map .int ∧ vs.length + r.length = n) ?_ ?_ (List.range n) _ _ ⟨[], by simp, rfl, by simp⟩
  · rintro i r d acc ⟨vs, rfl, rfl, hl⟩
    rw [List.length_cons] at hl
    refine ⟨_, rfl, Tests.nil ⟨nofun, fun _ => ?_⟩⟩
    refine E.callD1' hF G.gnd V' hk (noSto_nc.set rfl) hd rfl (by decide) ?_
    refine E.int ⟨rfl, rfl, ?_⟩
    refine (c_draw G c (t + vs.length) B hc (by omega) (by omega) hB).mono ?_
    rintro _ _ _ ⟨rfl, rfl, v, rfl, hv1, hv2⟩
    exact ⟨_, rfl, vs ++ [v], by rw [List.length_append, List.length_singleton, show t + (vs.length : Int) + 1 = t + ((vs.length + 1 : Nat) : Int) by omega], by rw [List.map_append]; rfl, by rw [List.length_append, List.length_singleton]; omega⟩
  · rintro d acc ⟨vs, rfl, rfl, hl⟩
    simp only [List.length_nil, Nat.add_zero] at hl
    have := h vs hl
    rw [hl]; exact this
theorem law_end (G : Gl H0 mg mb) (C : ClsIn KF H0 mg) (L fa : Addr) (cd : Value) (σ : Sto) (ss : List Stp) (N : Nat) (rows : List PyData) (l : Addr) (c : List Int) (t : Int) (hF : Facts ss N rows) (hS : LawS σ ss N rows) (hc : c.length ≤ 100) (ht : 0 ≤ t) (ht2 : t ≤ 100) :
    S prog w H0 (k + 10) (lawEnv L fa cd) σ (some (l, c, t)) (execs (lawRest 16) (lawEnv L fa cd)) lawK := by
  have V : EnvOk (lawEnv L fa cd) := lawEnv_ok L fa cd
  have hF16 : FnAt H0 mg (Str.ofString "_law_draw") _ _ _ := G.fn 16
  have cD : ∀ (t below : Int), 0 ≤ t → t ≤ 1000 → 0 < below → FnD prog w H0 mg (k + 10) (Str.ofString "_law_draw") c t [.dat (.int below)] fun ρ c' t' => c = c' ∧ t' = t + 1 ∧ ∃ v, ρ = .dat (.int v) ∧ 0 ≤ v ∧ v < below := fun t below h1 h2 h3 => (c_draw G c t below hc h1 h2 h3).mono fun _ _ _ ⟨h, r⟩ => ⟨h.symm, r⟩
  obtain ⟨nc, s1, s2, s3, s4, s5, s6, s7⟩ := hS
  obtain ⟨hW, hN1, hN8, hlen, hrl, hrn, hrp⟩ := hF
  have hF6 : FnAt H0 mg (Str.ofString "script_cost") _ _ _ := G.fn 6
  have hF24 : FnAt H0 mg (Str.ofString "_law_price") _ _ _ := G.fn 24
  refine S.cons ?_
  k_call_by "tup2" 0
  refine E.compD (cl := [(Str.ofString "deck", L + 1)]) G.gnd V ⟨rfl, by decide, rfl, by decide, ?sub⟩ nc rfl (fun C => rfl) (fun C => rfl) ?_ rfl (by intro _; rfl)
  case sub =>
    intro x cc hx
    simp only [List.lookup_cons, List.lookup_nil] at hx
    split at hx
    · rename_i q; cases hx; rw [beq_iff_eq.mp q]; exact ⟨rfl, rfl⟩
    · cases hx
  k_call_by "ex" 0
  refine ⟨4, rfl, by omega, fun Cc V' => ?_⟩
  refine draws_comp (k := k + 9) G V' hF16 rfl (.inr ⟨rfl, _, rfl⟩) hc ht (by omega) (by omega) fun ps hps => ?_
  obtain ⟨p0, p1, p2, p3, rfl⟩ : ∃ p0 p1 p2 p3, ps = [p0, p1, p2, p3] := by
    match ps, hps with
    | [p0, p1, p2, p3], _ => exact ⟨_, _, _, _, rfl⟩
  refine ⟨rfl, ?_⟩
  refine E.compD (cl := [(Str.ofString "deck", L + 1)]) G.gnd V ⟨rfl, by decide, rfl, by decide, ?sub⟩ nc rfl (fun C => rfl) (fun C => rfl) ?_ rfl (by intro _; rfl)
  case sub =>
    intro x cc hx
    simp only [List.lookup_cons, List.lookup_nil] at hx
    split at hx
    · rename_i q; cases hx; rw [beq_iff_eq.mp q]; exact ⟨rfl, rfl⟩
    · cases hx
  k_call_by "ex" 0
  refine ⟨N, rfl, by omega, fun Cc2 V2 => ?_⟩
  refine draws_comp (k := k + 9) G V2 hF16 rfl (.inr ⟨rfl, _, rfl⟩) hc (by omega) (by omega) (by omega) fun ds hds => ?_
  clear V' V2
  k_call_by "go" 0
  -- costs
  k_call_by "asg" 0
  refine E.newCost G.gnd C.X C.CK C.m0 V rfl C.name rfl ?_
  refine Er.cons ?_
  k_call_by "go" 0
  refine Er.cons ?_
  k_call_by "go" 0
  refine Er.cons ?_
  k_call_by "go" 0
  refine Er.cons ?_
  k_call_by "go" 0
  refine Er.cons ?_
  k_call_by "go" 0
  refine Er.nil ⟨p0, p1, p2, p3, .safe, ds, rfl, by omega, fun dx => ?_⟩
  refine ⟨_, rfl, ?_⟩
  k_call_by "go" 0
  refine E.call2 hF6 G.gnd V rfl ?_ rfl (by decide)
  k_call_by "ex" 0
  k_call_by "op" 0
  k_call_by "ex" 0
  refine ⟨rfl, ?_⟩
  have hfar : ∀ s ∈ ss, ∀ f, s.far? = some f → f < ds.length := fun s hs f hf => by
    rw [hds]
    exact news_lt hW f (List.mem_filterMap.mpr ⟨s, hs, hf⟩)
  refine (c_cost (k := k + 8) G C .safe false dx ss p0 p1 p2 p3 ds (by omega) (by omega) hfar).eq ?_
  refine ⟨rfl, ?_⟩
  refine E.call3 hF24 G.gnd V rfl ?_ rfl (by decide)
  k_call_by "ex" 0
  k_call_by "op" 0
  k_call_by "ex" 0
  k_call_by "op" 0
  k_call_by "ex" 0
  refine ⟨rfl, ?_⟩
  refine (c_price (k := k + 9) G .safe .safe .safe ss p0 p1 p2 p3 ds (by omega) (by omega) hfar).eq ?_
  rw [cost_price p0 p1 p2 p3 ds ss (0, 0) (0, Str.ofString "") rfl (by decide +kernel) (by decide +kernel)]
  refine ⟨_, CmpR.neI _ _, ?_⟩
  refine ⟨fun hb => ?_, fun _ => ?_⟩
  · exfalso; simp at hb
  refine S.nil (Then.next ?_)
  refine S.weak (Sto.drop _ (Str.ofString "costs")) drop_le ?_
  exact law_tail G L fa cd _ N rows l c _ (drop_nc (by k_call_by "ncs" 0)) (lk_drop (by k_call_by "lk" 0) (by decide)) (lk_drop (by k_call_by "lk" 0) (by decide)) (lk_drop (by k_call_by "lk" 0) (by decide)) hN1 hN8 hrl hrp hc (by omega) (by omega)
end
end
section -- F21
section
variable {prog : Program} {w : World} {H0 : Heap} {mg mb : Vals} {k : Nat} {KF : Frag}
theorem P1_due {rows : List PyData} (h : ∀ x ∈ rows, P1 x) : ∀ (ss : List Stp), ∀ x ∈ dueL rows ss, P1 x
  | [], x, hx => by cases hx
  | .keep a b :: r, x, hx => by
    rcases List.mem_cons.mp hx with rfl | hx
    · exact P1_pick h a
    · exact P1_due h r x hx
  | .draw a b :: r, x, hx => by
    rcases List.mem_cons.mp hx with rfl | hx
    · exact P1_pick h a
    · exact P1_due h r x hx
  | .del a :: r, x, hx => P1_due h r x hx
  | .ins a :: r, x, hx => by
    rcases List.mem_cons.mp hx with rfl | hx
    · exact P1_none
    · exact P1_due h r x hx
theorem P1_alone {rows : List PyData} (h : ∀ x ∈ rows, P1 x) : ∀ (ss : List Stp), ∀ x ∈ aloneL rows ss, P1 x
  | [], x, hx => by cases hx
  | .keep a b :: r, x, hx => by
    rcases List.mem_cons.mp hx with rfl | hx
    · exact P1_pick h a
    · exact P1_alone h r x hx
  | .draw a b :: r, x, hx => by
    rcases List.mem_cons.mp hx with rfl | hx
    · exact P1_none
    · exact P1_alone h r x hx
  | .del a :: r, x, hx => P1_alone h r x hx
  | .ins a :: r, x, hx => by
    rcases List.mem_cons.mp hx with rfl | hx
    · exact P1_none
    · exact P1_alone h r x hx
theorem P1_run (w : Str) (hw : PyData.strOk w = true) (p : Int × Int) : P1 (runD w p) := by
  refine ⟨?_, Nat.le_of_ble_eq_true rfl⟩
  simp only [runD, PyData.canLay0, PyData.canLayAll0, hw]; rfl
theorem P1_runs (ss : List Stp) : ∀ x ∈ runsOf ss, P1 x := by
  intro x hx
  unfold runsOf at hx
  rcases List.mem_append.mp hx with hx | hx
  · obtain ⟨p, _, rfl⟩ := List.mem_map.mp hx
    exact P1_run _ (by decide +kernel) p
  · obtain ⟨p, _, rfl⟩ := List.mem_map.mp hx
    exact P1_run _ (by decide +kernel) p
theorem P1_scroll (g c : List (Int × Int)) : P1 (lscrollOf g c) := by
  unfold lscrollOf
  split
  · split
    · exact P1_none
    · split <;> exact ⟨rfl, Nat.le_of_ble_eq_true rfl⟩
  · exact P1_none
noncomputable abbrev I_mid (l : Addr) (c : List Int) (t : Int) (ss : List Stp) (N : Nat) (rows : List PyData) (r : List Run) (σ : Sto) (dk : Dk) : Prop := dk = some (l, c, t) ∧ LawS σ ss N rows ∧ σ (Str.ofString "due") = some (.lst true (dueL rows ss)) ∧ (∀ x ∈ r, Run.okR N x) ∧ ∃ ys, ys.length = N ∧ σ (Str.ofString "here") = some (.lst false ys) ∧ r.foldl Run.on ys = dueL rows ss
theorem law_mid (G : Gl H0 mg mb) (C : ClsIn KF H0 mg) (L fa : Addr) (cd : Value) (σ : Sto) (ss : List Stp) (N : Nat) (rows : List PyData) (l : Addr) (c : List Int) (t : Int) (hF : Facts ss N rows) (hS : LawS σ ss N rows) (s8 : σ (Str.ofString "due") = some (.lst true (dueL rows ss))) (s9 : σ (Str.ofString "alone") = some (.lst true (aloneL rows ss)))
    (hc : c.length ≤ 100) (ht : 0 ≤ t) (ht2 : t ≤ 100) :
    S prog w H0 (k + 10) (lawEnv L fa cd) σ (some (l, c, t)) (execs (lawRest 9) (lawEnv L fa cd)) lawK := by
  have V : EnvOk (lawEnv L fa cd) := lawEnv_ok L fa cd
  have hF8 : FnAt H0 mg (Str.ofString "script_kept") _ _ _ := G.fn 8
  have hF13 : FnAt H0 mg (Str.ofString "script_done") _ _ _ := G.fn 13
  have hF7 : FnAt H0 mg (Str.ofString "script_draws") _ _ _ := G.fn 7
  have hF9 : FnAt H0 mg (Str.ofString "script_runs") _ _ _ := G.fn 9
  have hF20 : FnAt H0 mg (Str.ofString "_law_turns") _ _ _ := G.fn 20
  have hF11 : FnAt H0 mg (Str.ofString "script_run_done") _ _ _ := G.fn 11
  have hF10 : FnAt H0 mg (Str.ofString "script_scroll") _ _ _ := G.fn 10
  have hF21 : FnAt H0 mg (Str.ofString "_law_scroll") _ _ _ := G.fn 21
  have hF12 : FnAt H0 mg (Str.ofString "script_scrolled") _ _ _ := G.fn 12
  have hS0 := hS
  have hF0 := hF
  obtain ⟨nc, s1, s2, s3, s4, s5, s6, s7⟩ := hS
  obtain ⟨hW, hN1, hN8, hlen, hrl, hrn, hrp⟩ := hF
  obtain ⟨rg, rc, a1, a2, a3, a4, a5, a6, a7⟩ := runs_due hW rows hrl
  have hPk : ∀ x ∈ (pairsOf ss).map pD, P1 x := fun x hx => by obtain ⟨p, _, rfl⟩ := List.mem_map.mp hx; exact ⟨rfl, Nat.le_of_ble_eq_true rfl⟩
  have hPa := P1_alone hrp ss
  have hPd := P1_due hrp ss
  have hdone : (newsOf ss).foldl (fun ys i => ys.set i PyData.none) (dueL rows ss) = aloneL rows ss := done_gen rows ss _ _ _ _ hW [] rfl
  refine S.cons (S.ifs ?_)
  -- script_kept(steps) != kept or script_done(rows, steps) != alone
  k_call_by "ts" 0
  k_call_by "ts" 0
  k_call_by "ts" 0
  refine E.call1 hF8 G.gnd V rfl ?_ rfl (by decide)
  k_call_by "ex" 0
  refine ⟨rfl, (c_kept (k := k + 9) G .safe ss (by omega)).eq ?_⟩
  rw [kept_eq]
  k_call_by "op" 0
  k_call_by "ex" 0
  refine ⟨_, CmpR.neL _ _ _ _ (okD_list hPk) (okD_list hPk), ?_⟩
  rw [eqvAll_refl hPk]
  refine ⟨nofun, fun _ => ?_⟩
  k_call_by "ts" 0
  k_call_by "ts" 0
  refine E.call2 hF13 G.gnd V rfl ?_ rfl (by decide)
  k_call_by "ex" 0
  k_call_by "op" 0
  k_call_by "ex" 0
  refine ⟨rfl, (c_done (k := k + 8) G .safe .safe ss rows (rg ++ rc) N (by omega) (by omega) hrl a3 a4 (newsOf ss) (drawn_eq ss) (news_lt hW)).eq ?_⟩
  rw [a7, hdone]
  k_call_by "op" 0
  k_call_by "ex" 0
  refine ⟨_, CmpR.neL _ _ _ _ (okD_list hPa) (okD_list hPa), ?_⟩
  rw [eqvAll_refl hPa]
  refine ⟨nofun, fun _ => ?_⟩
  k_call_by "ts" 0
  refine ⟨nofun, fun _ => S.nil (Then.next ?_)⟩
  -- script_draws(steps) != [..]
  refine S.cons (S.ifs ?_)
  k_call_by "ts" 0
  refine E.call1 hF7 G.gnd V rfl ?_ rfl (by decide)
  k_call_by "ex" 0
  refine ⟨rfl, (c_draws (k := k + 9) G .safe ss (by omega)).eq ?_⟩
  have hPn : ∀ x ∈ (newsOf ss).map fun (i : Nat) => PyData.int i, P1 x := fun x hx => by obtain ⟨p, _, rfl⟩ := List.mem_map.mp hx; exact P1_int _
  rw [drawn_eq]
  k_call_by "op" 0
  refine E.compR0 (cl := [(Str.ofString "alone", L + 1 + 1)]) (noSto.set (Str.ofString "alone") (.lst false (aloneL rows ss))) G.gnd V ⟨rfl, by decide, rfl, by decide, ?sub⟩ nc rfl (fun C => rfl) ?cau ?_ rfl (by intro _; rfl)
  case sub =>
    intro x cc hx
    simp only [List.lookup_cons, List.lookup_nil] at hx
    split at hx
    · rename_i q; cases hx; rw [beq_iff_eq.mp q]; exact ⟨rfl, rfl⟩
    · cases hx
  case cau =>
    intro C x e hx
    by_cases q : x = Str.ofString "alone"
    · subst q
      rw [Sto.set_same] at hx; cases hx
      exact ⟨rfl, _, s9, rfl⟩
    · rw [Sto.set_ne _ _ q] at hx; cases hx
  k_call_by "ex" 0
  refine ⟨N, rfl, by omega, fun Cc V' => ?_⟩
  have hal : (aloneL rows ss).length = N := by have := aloneL_len rows hW; omega
  unfold rangeD
  refine CompL.map (f := fun (i : Nat) => PyData.int i) (g := fun (i : Nat) => if isNoneD (pick (aloneL rows ss) (i : Int)) then some (PyData.int (i : Int)) else .none) (fun i hi => ⟨_, rfl, ?_⟩) ?_
  · have hi := List.mem_range.mp hi
    clear V
    refine Tests.one ?_
    k_call_by "ts" 0
    k_call_by "gx" 0
    refine ⟨_, SubR.lst _ _ _ _ (by omega) (by omega) (at?_pick (by omega) (by omega)), ?_⟩
    k_call_by "gx" 0
    refine ⟨fun hb => ⟨rfl, by rw [hb]; rfl⟩, fun hb => ?_⟩
    k_call_by "gx" 0
    exact if_pos hb
  have hdr : ((List.range N).filterMap fun (i : Nat) => if isNoneD (pick (aloneL rows ss) (i : Int)) then some (PyData.int (i : Int)) else .none) = (newsOf ss).map fun (i : Nat) => PyData.int i := by
    have h1 := draws_gen rows hrn ss _ _ _ _ hW (by omega) [] rfl
    rw [h1, List.map_filterMap, Nat.sub_zero, ← List.range_eq_range']
    congr 1
    funext i
    rw [List.nil_append, show pick (aloneL rows ss) (i : Int) = (aloneL rows ss).getD i .none from rfl]
    cases isNoneD ((aloneL rows ss).getD i .none) <;> rfl
  rw [hdr]
  refine ⟨_, CmpR.neL _ _ _ _ (okD_list hPn) (okD_list hPn), ?_⟩
  rw [eqvAll_refl hPn]
  refine ⟨nofun, fun _ => S.nil (Then.next ?_)⟩
  -- told, here
  refine S.cons ?_
  k_call_by "tup2" 0
  refine E.call1 hF9 G.gnd V rfl ?_ rfl (by decide)
  k_call_by "ex" 0
  refine ⟨rfl, (c_runs (k := k + 9) G .safe ss (by omega)).eq ?_⟩
  refine ⟨rfl, ?_⟩
  k_call_by "gx" 0
  refine ⟨_, _, rfl, (by omega), ?_⟩
  k_call_by "go" 0
  -- told != _law_turns(gone, come)
  have hgl : ((delNs ss).foldl joinStep []).length ≤ 16 := by have := joined_len (delNs ss) []; have h2 : (delNs ss).length ≤ ss.length := List.length_filterMap_le _ _; simp only [List.length_nil] at this; omega
  have hcl : ((insNs ss).foldl joinStep []).length ≤ 16 := by have := joined_len (insNs ss) []; have h2 : (insNs ss).length ≤ ss.length := List.length_filterMap_le _ _; simp only [List.length_nil] at this; omega
  have hPr := P1_runs ss
  refine E.call2 hF20 G.gnd V rfl ?_ rfl (by decide)
  k_call_by "gx" 0
  refine (c_turns (k := k + 9) G .safe .safe _ _ (by omega) (by omega)).eq ?_
  rw [← runs_turns hW]
  refine ⟨_, CmpR.neL _ _ _ _ (okD_list hPr) (okD_list hPr), ?_⟩
  rw [eqvAll_refl hPr]
  refine ⟨nofun, fun _ => S.nil (Then.next ?_)⟩
  -- for one in told: here = ..
  refine S.cons ?_
  k_call_by "for" 0
  k_call_by "ex" 0
  rw [a3]
  refine ⟨_, _, rfl, (by decide), ?_⟩
  refine ForL.ind (f := Run.d) (I_mid l c t ss N rows) ?_ ?_ (rg ++ rc) _ _ ?_
  · rintro r rr σ dk ⟨rfl, hS, s8, hr, ys, hy, h1, hf⟩
    have hS1 := hS
    obtain ⟨nc, s1, s2, s3, s4, s5, s6, s7⟩ := hS
    refine ⟨_, rfl, ?_⟩
    refine S.cons ?_
    k_call_by "asg" 0
    refine E.call2 hF11 G.gnd V rfl ?_ rfl (by decide)
    k_call_by "gx" 0
    refine (c_run_done (k := k + 9) G .safe ys r N (by omega) hy (hr r (.head _))).eq ?_
    k_call_by "go" 0
    exact ⟨(hS1.set (by decide) rfl).set (by decide) rfl, (by k_call_by "lk" 0), fun x hx => hr x (.tail _ hx), _, Run.on_length hy (hr r (.head _)), (by k_call_by "lk" 0), hf⟩
  · rintro σ dk ⟨rfl, hS, s8, _, ys, hy, h1, hf⟩
    rw [List.foldl_nil] at hf
    subst hf
    have hS1 := hS
    obtain ⟨nc, s1, s2, s3, s4, s5, s6, s7⟩ := hS
    obtain ⟨sc1, sc2⟩ := scroll_eq hW rows hrl
    have hgo : (goneOf ss).length ≤ 1000 := by
      have := a4; rw [a1, List.length_map]
      have hh := congrArg List.length a1
      rw [List.length_map] at hh
      have h2 := turns_len ((delNs ss).foldl joinStep []) ([], 0)
      rw [← goneOf_eq hW, hh] at h2
      simp only [List.length_nil] at h2
      omega
    have hco : (comeOf ss).length ≤ 1000 := by rw [comeOf_eq hW]; omega
    refine Then.next (S.cons ?_)
    k_call_by "asg" 0
    refine E.call1 hF10 G.gnd V rfl ?_ rfl (by decide)
    k_call_by "ex" 0
    refine ⟨rfl, (c_scroll (k := k + 8) G .safe ss (by omega) hgo hco).eq ?_⟩
    have hPs := P1_scroll ((delNs ss).foldl joinStep []) ((insNs ss).foldl joinStep [])
    rw [sc1] at sc2 ⊢
    refine ⟨_, rfl, Then.next (S.cons (S.ifs ?_))⟩
    k_call_by "ts" 0
    k_call_by "ts" 0
    k_call_by "ts" 0
    k_call_by "ex" 0
    k_call_by "op" 0
    k_call_by "ex" 0
    refine ⟨_, CmpR.neL _ _ _ _ (okD_list hPd) (okD_list hPd), ?_⟩
    rw [eqvAll_refl hPd]
    refine ⟨nofun, fun _ => ?_⟩
    k_call_by "ts" 0
    k_call_by "ts" 0
    k_call_by "ex" 0
    k_call_by "op" 0
    refine E.call2 hF21 G.gnd V rfl ?_ rfl (by decide)
    k_call_by "gx" 0
    refine (c_lscroll (k := k + 9) G .safe .safe _ _ (by omega) (by omega)).eq ?_
    refine ⟨_, CmpR.ne _ _ (okD_of hPs) (okD_of hPs), ?_⟩
    rw [SeqAt.eqv_refl _ hPs.1]
    refine ⟨nofun, fun _ => ?_⟩
    have fin : ∀ (e : Ent), e.noCost = true → S prog w H0 (k + 10) (lawEnv L fa cd) (σ.set (Str.ofString "scroll") e) (some (l, c, t)) (execs (lawRest 16) (lawEnv L fa cd)) lawK := fun e he => law_end G C L fa cd _ ss N rows l c t hF0 (hS1.set (by decide) he) hc ht ht2
    k_call_by "ts" 0
    k_call_by "ts" 0
    k_call_by "ts" 0
    k_call_by "ts" 0
    k_call_by "ex" 0
    k_call_by "op" 0
    k_call_by "ex" 0
    refine ⟨_, CmpR.isNotN _, ?_⟩
    rcases Classical.em (lscrollOf ((delNs ss).foldl joinStep []) ((insNs ss).foldl joinStep []) = PyData.none) with hnn | hnn
    · rw [hnn]
      refine ⟨fun _ => ⟨nofun, fun _ => T.orNil ⟨nofun, fun _ => S.nil (Then.next (fin _ rfl))⟩⟩, nofun⟩
    · obtain ⟨top, bot, m, up, e, q1, q2, q3, q4, q5⟩ := sc2 hnn
      rw [e]
      refine ⟨nofun, fun _ => ?_⟩
      k_call_by "ts" 0
      k_call_by "ts" 0
      refine E.call2 hF12 G.gnd V rfl ?_ rfl (by decide)
      k_call_by "gx" 0
      refine (c_scrolled (k := k + 9) G .safe rows top bot m up N (by omega) hrl q1 q2 q3 q4).eq ?_
      rw [q5]
      k_call_by "op" 0
      k_call_by "ex" 0
      refine ⟨_, CmpR.neL _ _ _ _ (okD_list hPd) (okD_list hPd), ?_⟩
      rw [eqvAll_refl hPd]
      refine ⟨fun _ => ⟨nofun, fun _ => T.orNil ⟨nofun, fun _ => S.nil (Then.next (fin _ rfl))⟩⟩, nofun⟩
  · exact ⟨rfl, (hS0.set (by decide) rfl).set (by decide) rfl, (by k_call_by "lk" 0), a4, _, hrl, (by k_call_by "lk" 0), a7⟩
theorem eqv_keep {s : Stp} {a b : Nat} (h : PyData.eqv s.d (Stp.keep a b).d = true) : s = .keep a b := by
  cases s with
  | keep n f =>
    simp only [Stp.d, PyData.eqv, PyData.eqvAll, Bool.and_eq_true, beq_iff_eq, Bool.and_true] at h
    have h1 : n = a := by omega
    have h2 : f = b := by omega
    rw [h1, h2]
  | draw n f =>
    simp only [Stp.d, PyData.eqv, PyData.eqvAll, Bool.and_eq_true, beq_iff_eq] at h
    exact absurd h.1 (by decide)
  | del n =>
    simp only [Stp.d, PyData.eqv, PyData.eqvAll, Bool.and_eq_true, beq_iff_eq] at h
    exact absurd h.1 (by decide)
  | ins n =>
    simp only [Stp.d, PyData.eqv, PyData.eqvAll, Bool.and_eq_true, beq_iff_eq] at h
    exact absurd h.1 (by decide)
noncomputable def kpOf (ss : List Stp) (p : Nat × Nat) : Bool := (ss.map Stp.d).any fun y => PyData.eqv y (.tuple [.str (Str.ofString "keep"), .int (p.1 : Int), .int (p.2 : Int)])
theorem P1_step (s : Stp) : P1 s.d := by
  cases s <;> exact ⟨by simp only [Stp.d, PyData.canLay0, PyData.canLayAll0]; decide +kernel, Nat.le_of_ble_eq_true rfl⟩
theorem kp_keep {ss : List Stp} {a b : Nat} (h : Stp.keep a b ∈ ss) : kpOf ss (a, b) = true := by
  unfold kpOf
  rw [List.any_eq_true]
  exact ⟨_, List.mem_map_of_mem h, SeqAt.eqv_refl _ (P1_step (.keep a b)).1⟩
theorem kp_draw {ss : List Stp} {N : Nat} (hW : Wk 0 0 ss N N) {a b : Nat} (h : Stp.draw a b ∈ ss) : kpOf ss (a, b) = false := by
  unfold kpOf
  rw [List.any_eq_false]
  intro y hy q
  obtain ⟨s, hs, rfl⟩ := List.mem_map.mp hy
  have := eqv_keep (a := a) (b := b) q
  rw [this] at hs
  exact (keep_not_draw hW).2.2 a b hs h
theorem pairs_lt : ∀ {ss : List Stp} {n f n' f' : Nat}, Wk n f ss n' f' → ∀ p ∈ pairsOf ss, p.1 < n' ∧ p.2 < f'
  | [], _, _, _, _, _, p, h => by cases h
  | .keep a b :: r, n, f, _, _, ⟨h1, h2, h3⟩, p, h => by
    have hl := h3.le
    rcases List.mem_cons.mp (show p ∈ (a, b) :: pairsOf r from h) with rfl | h
    · constructor <;> simp only <;> omega
    · exact pairs_lt h3 p h
  | .draw a b :: r, n, f, _, _, ⟨h1, h2, h3⟩, p, h => by
    have hl := h3.le
    rcases List.mem_cons.mp (show p ∈ (a, b) :: pairsOf r from h) with rfl | h
    · constructor <;> simp only <;> omega
    · exact pairs_lt h3 p h
  | .del a :: r, n, f, _, _, ⟨h1, h3⟩, p, h => pairs_lt h3 p h
  | .ins b :: r, n, f, _, _, ⟨h1, h3⟩, p, h => pairs_lt h3 p h
theorem law_for (G : Gl H0 mg mb) (C : ClsIn KF H0 mg) (L fa : Addr) (cd : Value) (σ : Sto) (ss : List Stp) (N : Nat) (rows : List PyData) (l : Addr) (c : List Int) (t : Int) (hF : Facts ss N rows) (hS : LawS σ ss N rows) (s8 : σ (Str.ofString "due") = some (.lst true (List.replicate N PyData.none))) (s9 : σ (Str.ofString "alone") = some (.lst true (List.replicate N PyData.none)))
    (hc : c.length ≤ 100) (ht : 0 ≤ t) (ht2 : t ≤ 100) :
    S prog w H0 (k + 10) (lawEnv L fa cd) σ (some (l, c, t)) (execs (lawRest 8) (lawEnv L fa cd)) lawK := by
  have V : EnvOk (lawEnv L fa cd) := lawEnv_ok L fa cd
  have hS0 := hS
  have hF0 := hF
  obtain ⟨nc, s1, s2, s3, s4, s5, s6, s7⟩ := hS
  obtain ⟨hW, hN1, hN8, hlen, hrl, hrn, hrp⟩ := hF
  have hdue : (pairsOf ss).foldl (fun d p => d.set p.2 (rowAt rows p.1)) (List.replicate N PyData.none) = dueL rows ss := by
    have := due_gen rows N ss 0 0 N hW [] rfl
    simpa using this
  have halo : (pairsOf ss).foldl (fun d p => d.set p.2 (if kpOf ss p then rowAt rows p.1 else .none)) (List.replicate N PyData.none) = aloneL rows ss := by
    have := alone_gen rows N (kpOf ss) ss 0 0 N hW (fun a b h => kp_keep h) (fun a b h => kp_draw hW h) [] rfl
    simpa using this
  have hst : okD (.list (ss.map Stp.d)) := okD_list fun x hx => by obtain ⟨s, _, rfl⟩ := List.mem_map.mp hx; exact P1_step s
  refine S.cons ?_
  k_call_by "for" 0
  k_call_by "ex" 0
  refine ⟨_, _, rfl, (by decide), ?_⟩
  refine ForL.ind (f := pD) (fun r σ dk => dk = some (l, c, t) ∧ LawS σ ss N rows ∧ (∀ p ∈ r, p.1 < N ∧ p.2 < N) ∧ ∃ d1 d2 : List PyData, d1.length = N ∧ d2.length = N ∧ σ (Str.ofString "due") = some (.lst true d1) ∧ σ (Str.ofString "alone") = some (.lst true d2) ∧
    r.foldl (fun d p => d.set p.2 (rowAt rows p.1)) d1 = dueL rows ss ∧ r.foldl (fun d p => d.set p.2 (if kpOf ss p then rowAt rows p.1 else .none)) d2 = aloneL rows ss) ?_ ?_ (pairsOf ss) _ _ ?_
  · rintro p r σ dk ⟨rfl, hS, hr, d1, d2, e1, e2, s8, s9, f1, f2⟩
    have hS1 := hS
    obtain ⟨nc, s1, s2, s3, s4, s5, s6, s7⟩ := hS
    obtain ⟨hp1, hp2⟩ := hr p (.head _)
    have hr' : ∀ p ∈ r, p.1 < N ∧ p.2 < N := fun x hx => hr x (.tail _ hx)
    obtain ⟨o, n⟩ := p
    dsimp only at hp1 hp2
    refine ⟨(σ.set (Str.ofString "old") (.dat (.int (o : Int)))).set (Str.ofString "new") (.dat (.int (n : Int))), rfl, ?_⟩
    have hrow : at? rows (o : Int) = some (rowAt rows o) := at?_pick (by omega) (by omega)
    refine S.cons ?_
    k_call_by "sit" 0
    k_call_by "gx" 0
    refine ⟨_, SubR.lst _ _ _ _ (by omega) (by omega) hrow, ?_⟩
    k_call_by "gx" 0
    refine ⟨(by omega), (by omega), ?_⟩
    k_call_by "st" 0
    k_call_by "st" 0
    k_call_by "sit" 0
    k_call_by "ex" 0
    k_call_by "ts" 0
    k_call_by "gx" 0
    refine ⟨_, CmpR.inL _ _ _ (okD_of (P1_step (.keep o n))) hst, ?_⟩
    have hb1 : setAt d1 (n : Int) (rowAt rows o) = d1.set n (rowAt rows o) := by unfold setAt; rw [if_pos (by omega)]; rfl
    have hb2 : ∀ x, setAt d2 (n : Int) x = d2.set n x := fun x => by unfold setAt; rw [if_pos (by omega)]; rfl
    have fin : ∀ (x : PyData) (σ' : Sto), x = (if kpOf ss (o, n) then rowAt rows o else .none) → LawS σ' ss N rows → σ' (Str.ofString "due") = some (.lst true (d1.set n (rowAt rows o))) → σ' (Str.ofString "alone") = some (.lst true (d2.set n x)) →
        some (l, c, t) = some (l, c, t) ∧ LawS σ' ss N rows ∧ (∀ p ∈ r, p.1 < N ∧ p.2 < N) ∧ ∃ d1 d2 : List PyData, d1.length = N ∧ d2.length = N ∧ σ' (Str.ofString "due") = some (.lst true d1) ∧ σ' (Str.ofString "alone") = some (.lst true d2) ∧
    r.foldl (fun d p => d.set p.2 (rowAt rows p.1)) d1 = dueL rows ss ∧ r.foldl (fun d p => d.set p.2 (if kpOf ss p then rowAt rows p.1 else .none)) d2 = aloneL rows ss := by
      intro x σ' hx hS' h8 h9
      refine ⟨rfl, hS', hr', _, _, by rw [List.length_set]; exact e1, by rw [List.length_set]; exact e2, h8, h9, f1, ?_⟩
      rw [hx]; exact f2
    show (kpOf ss (o, n) = true → _) ∧ (kpOf ss (o, n) = false → _)
    refine ⟨fun hk => ?_, fun hk => ?_⟩
    · rw [hk, if_pos rfl] at fin
      k_call_by "gx" 0
      refine ⟨_, SubR.lst _ _ _ _ (by omega) (by omega) hrow, ?_⟩
      k_call_by "gx" 0
      refine ⟨(by omega), (by omega), Then.next (S.nil ?_)⟩
      refine fin _ _ rfl ((((hS1.set (by decide) rfl).set (by decide) rfl).set (by decide) rfl).set (by decide) rfl) ?_ ?_
      · k_call_by "lkq" 0
        rw [hb1]
      · k_call_by "lkq" 0
        rw [hb2]
    · rw [hk, if_neg Bool.false_ne_true] at fin
      k_call_by "gx" 0
      refine ⟨(by omega), (by omega), Then.next (S.nil ?_)⟩
      refine fin _ _ rfl ((((hS1.set (by decide) rfl).set (by decide) rfl).set (by decide) rfl).set (by decide) rfl) ?_ ?_
      · k_call_by "lkq" 0
        rw [hb1]
      · k_call_by "lkq" 0
        rw [hb2]
  · rintro σ dk ⟨rfl, hS, _, d1, d2, e1, e2, s8, s9, f1, f2⟩
    rw [List.foldl_nil] at f1 f2
    subst f1 f2
    exact Then.next (law_mid G C L fa cd σ ss N rows l c t hF0 hS s8 s9 hc ht ht2)
  · exact ⟨rfl, hS0, pairs_lt hW, _, _, List.length_replicate, List.length_replicate, s8, s9, hdue, halo⟩
end
end
section -- F22
section
variable {prog : Program} {w : World} {H0 : Heap} {mg mb : Vals} {k : Nat} {KF : Frag}
theorem mem_le_sum {p : Int × Int} : ∀ {J : List (Int × Int)}, (∀ q ∈ J, 0 ≤ q.2) → p ∈ J → p.2 ≤ sumMany J
  | [], _, h => by cases h
  | q :: r, hq, h => by
    have h0 : sumMany (q :: r) = q.2 + sumMany r := by unfold sumMany; rw [List.map_cons, List.sum_cons]
    have h1 : 0 ≤ sumMany r := by
      clear h h0
      induction r with
      | nil => exact Int.le_refl _
      | cons a r ih =>
        have h0 : sumMany (a :: r) = a.2 + sumMany r := by unfold sumMany; rw [List.map_cons, List.sum_cons]
        have := hq a (.tail _ (.head _))
        have := ih fun x hx => hq x (by rcases List.mem_cons.mp hx with rfl | hx; exact .head _; exact .tail _ (.tail _ hx))
        omega
    have h2 := hq q (.head _)
    rcases List.mem_cons.mp h with rfl | h
    · omega
    · have := mem_le_sum (fun x hx => hq x (.tail _ hx)) h
      omega
theorem c_law (G : Gl H0 mg mb) (C : ClsIn KF H0 mg) (L fa : Addr) (cd : Value) (σ : Sto) (ns : List Int) (hn : ns.length ≤ 63) (nc : NoCost σ) (hs : σ (Str.ofString "script") = some (.lst false (ns.map .int))) (hdk : σ deckName = .none) :
    S prog w H0 (k + 10) (lawEnv L fa cd) σ .none (execs (bodyOf (stmtAt 25)) (lawEnv L fa cd)) fun o => match o with | .ret ρ _ => ρ = .dat (.bool true) | .next .. => False := by
  have V : EnvOk (lawEnv L fa cd) := lawEnv_ok L fa cd
  have hF5 : FnAt H0 mg (Str.ofString "script_kind") _ _ _ := G.fn 5
  have hF15 : FnAt H0 mg (Str.ofString "_law_deck") _ _ _ := G.fn 15
  have hF16 : FnAt H0 mg (Str.ofString "_law_draw") _ _ _ := G.fn 16
  have hF18 : FnAt H0 mg (Str.ofString "_law_steps") _ _ _ := G.fn 18
  have hF19 : FnAt H0 mg (Str.ofString "_law_joined") _ _ _ := G.fn 19
  refine S.cons ?_
  refine S.assignDeck V rfl rfl hdk nc ?_ rfl
  refine E.call1 hF15 G.gnd V rfl ?_ rfl (by decide)
  k_call_by "ex" 0
  refine ⟨rfl, (c_deck G .safe ns (by omega)).mono ?_⟩
  rintro _ ⟨l, c, rfl, hc⟩
  refine ⟨rfl, l, c, 0, rfl, ?_⟩
  k_call_by "go" 0
  k_call_by "asg" 0
  refine E.callD0' hF18 G.gnd V rfl (by k_call_by "ncs" 0) (by k_call_by "kd" 0) (by decide) ?_
  refine (c_steps G c 0 hc (by omega) (by omega)).mono ?_
  rintro _ _ t1 ⟨rfl, ht1, ht2, ss, N, rfl, hW, hN1, hN8, hlen⟩
  have hlen' : (ss.map Stp.d).length ≤ 100 := by rw [List.length_map]; omega
  k_call_by "go" 0
  -- kept
  (((with_reducible refine S.assignComp0 false ‹EnvOk _› ?blk ?nc ?tg ?hy ?hsw ?hx ?_ ?hs); (case hy => exact ⟨by decide +kernel, by rfl⟩); (case hsw => rfl); k_call_by "ccp" 0))
  k_call_by "ex" 0
  refine ⟨_, _, rfl, (by omega), fun Cc V' => ?_⟩
  refine CompL.map (f := Stp.d) (g := Stp.kept) (fun s hs => ⟨_, rfl, ?_⟩) ?_
  · clear V
    cases s <;> dsimp only [Stp.d] <;> k_call_by "go" 0
  rw [kept_eq]
  k_call_by "go" 0
  -- gone
  k_call_by "asg" 0
  refine E.call1 hF19 G.gnd V rfl ?_ rfl (by decide)
  k_call_by "cmp0" 0
  k_call_by "ex" 0
  refine ⟨_, _, rfl, (by omega), fun Cc V' => ?_⟩
  refine CompL.map (f := Stp.d) (g := fun s => match s with | .del n => some (.int (n : Int)) | _ => .none) (fun s hs => ⟨_, rfl, ?_⟩) ?_
  · clear V
    cases s <;> dsimp only [Stp.d] <;> k_call_by "go" 0
  refine ⟨rfl, ?_⟩
  rw [show ss.filterMap (fun s => match s with | .del n => some (PyData.int (n : Int)) | _ => .none) = (delNs ss).map .int by unfold delNs; rw [List.map_filterMap]; congr 1; funext s; cases s <;> rfl]
  have hdl : (delNs ss).length ≤ 16 := Nat.le_trans (List.length_filterMap_le _ _) hlen
  have hil : (insNs ss).length ≤ 16 := Nat.le_trans (List.length_filterMap_le _ _) hlen
  refine (c_joined G .fresh (delNs ss) (by omega)).eq ?_
  k_call_by "op" 0
  k_call_by "go" 0
  -- come
  k_call_by "asg" 0
  refine E.call1 hF19 G.gnd V rfl ?_ rfl (by decide)
  k_call_by "cmp0" 0
  k_call_by "ex" 0
  refine ⟨_, _, rfl, (by omega), fun Cc V' => ?_⟩
  refine CompL.map (f := Stp.d) (g := fun s => match s with | .ins n => some (.int (n : Int)) | _ => .none) (fun s hs => ⟨_, rfl, ?_⟩) ?_
  · clear V
    cases s <;> dsimp only [Stp.d] <;> k_call_by "go" 0
  refine ⟨rfl, ?_⟩
  rw [show ss.filterMap (fun s => match s with | .ins n => some (PyData.int (n : Int)) | _ => .none) = (insNs ss).map .int by unfold insNs; rw [List.map_filterMap]; congr 1; funext s; cases s <;> rfl]
  refine (c_joined G .fresh (insNs ss) (by omega)).eq ?_
  k_call_by "op" 0
  k_call_by "go" 0
  -- size
  obtain ⟨cn1, cn2⟩ := hW.count
  have hpl : ((pairsOf ss).map pD).length ≤ 16 := by rw [List.length_map]; exact Nat.le_trans (List.length_filterMap_le _ _) hlen
  have hgl : ((delNs ss).foldl joinStep []).length ≤ 16 := by have := joined_len (delNs ss) []; simp only [List.length_nil] at this; omega
  have hcl : ((insNs ss).foldl joinStep []).length ≤ 16 := by have := joined_len (insNs ss) []; simp only [List.length_nil] at this; omega
  have hjs : sumMany ((delNs ss).foldl joinStep []) = dels ss := by rw [joined_sum, delNs_len]; unfold sumMany; simp
  have hjp := joined_pos (delNs ss) [] (fun _ h => by cases h)
  have hjle : ∀ i ∈ ((delNs ss).foldl joinStep []).map (·.2), 0 ≤ i ∧ i ≤ 1000 := by
    intro i hi
    obtain ⟨p, hp, rfl⟩ := List.mem_map.mp hi
    have h1 := hjp p hp
    have h2 : p.2 ≤ sumMany ((delNs ss).foldl joinStep []) := mem_le_sum (fun q hq => by have := hjp q hq; omega) hp
    omega
  k_call_by "asg" 0
  k_call_by "gx" 0
  k_call_by "cmp0" 0
  k_call_by "ex" 0
  refine ⟨_, _, rfl, (by rw [List.length_map]; omega), fun Cc V' => ?_⟩
  refine CompL.map (f := pairD) (g := fun p => some (.int p.2)) (fun p hp => ⟨_, rfl, ?_⟩) ?_
  · clear V
    obtain ⟨p1, p2⟩ := p
    k_call_by "go" 0
  rw [List.filterMap_eq_map']
  refine ⟨.fresh, ((delNs ss).foldl joinStep []).map (·.2), by rw [List.map_map]; rfl, by rw [List.length_map]; omega, hjle, ?_⟩
  refine ⟨_, BinR.add _ _, ?_⟩
  have hsz : ((((pairsOf ss).map pD).length : Nat) : Int) + (((delNs ss).foldl joinStep []).map (·.2)).sum = (N : Int) := by
    have : (((delNs ss).foldl joinStep []).map (·.2)).sum = dels ss := hjs
    rw [this, List.length_map]; omega
  rw [hsz]
  clear hsz hjle hjp hjs
  k_call_by "go" 0
  -- rows, due, alone
  first
    | refine S.tup3 false true true V ⟨by decide, .inl rfl⟩ ⟨by decide, .inl rfl⟩ ⟨by decide, .inr ⟨rfl, _, rfl⟩⟩ rfl rfl rfl ?_
    | refine S.tup3N false true true V ⟨by decide, .inl rfl⟩ ⟨by decide, .inl rfl⟩ ⟨by decide, .inr ⟨rfl, _, rfl⟩⟩ rfl rfl rfl ?_
  refine E.compR0 (cl := []) noSto G.gnd V ⟨rfl, by decide, rfl, by decide, fun x c h => by cases h⟩ (by k_call_by "ncs" 0) rfl (fun C => rfl) (fun C x e h => by cases h) ?_ rfl (by intro _; rfl)
  k_call_by "ex" 0
  refine ⟨N, rfl, by omega, fun Cc V' => ?_⟩
  unfold rangeD
  refine CompL.map (f := fun (i : Nat) => PyData.int i) (g := fun i => some (.int (100 + (i : Int)))) (fun i hi => ⟨_, rfl, ?_⟩) ?_
  · clear V
    k_call_by "go" 0
  rw [List.filterMap_eq_map']
  obtain ⟨rows, hrows⟩ : ∃ rows, rows = (List.range N).map fun (i : Nat) => PyData.int (100 + (i : Int)) := ⟨_, rfl⟩
  rw [show List.map ((fun i => PyData.int (100 + (i : Int))) : Nat → PyData) (List.range N) = rows from hrows.symm]
  have hrl : rows.length = N := by rw [hrows]; simp
  have hrn : ∀ n, n < rows.length → isNoneD (rowAt rows n) = false := by
    intro n hn
    rw [hrl] at hn
    unfold rowAt
    rw [hrows, List.getD_eq_getElem?_getD, List.getElem?_map, List.getElem?_range hn]; rfl
  have hrp : ∀ x ∈ rows, P1 x := by
    intro x hx
    rw [hrows] at hx
    obtain ⟨i, _, rfl⟩ := List.mem_map.mp hx
    exact P1_int _
  clear hrows
  refine ⟨rfl, ?_⟩
  k_call_by "gx" 0
  k_call_by "go" 0
  rw [show ((N : Int)).toNat = N by omega]
  -- was
  k_call_by "asg" 0
  k_call_by "go" 0
  refine ⟨_, _, rfl, (by omega), ?_⟩
  refine ⟨_, rfl, Then.next ?_⟩
  refine law_for G C L fa cd _ ss N rows l _ t1 ⟨hW, hN1, hN8, hlen, hrl, hrn, hrp⟩ ⟨(by k_call_by "ncs" 0), (by k_call_by "lk" 0), (by k_call_by "lk" 0), (by k_call_by "lk" 0), (by k_call_by "lk" 0), (by k_call_by "lk" 0), (by k_call_by "lk" 0), (by k_call_by "lk" 0)⟩ (by k_call_by "lk" 0) (by k_call_by "lk" 0) hc (by omega) (by omega)
end
end
section -- J1
theorem reads_int_all {v : Value} {i : Int} {h : Heap} (hr : Reads h v (.int i) []) : ∃ t, v = .int i t := let ⟨t, e, _⟩ := reads_int_inv hr; ⟨t, e⟩
section
variable {mean : ExcName → Option Value} {mg mb : Str → Option Value} {h : Heap}
noncomputable def idxs : List Nat := [5, 6, 7, 8, 9, 10, 11, 12, 13, 15, 16, 17, 18, 19, 20, 21, 22, 23, 24, 25]
noncomputable def recOf (k : Nat) : Str × Arguments × List Stmt × Scope := (nameAt (stmtAt k), argsOf (stmtAt k), bodyOf (stmtAt k), scopeOf (stmtAt k))
theorem recs_eq : ((recsOf vw).map fun d => (d.name, d.params, d.body, d.scope)) = idxs.map recOf := by kernel_rfl
theorem idx_mem (k : Nat) (hk : fnIdx k = true) : k ∈ idxs := by
  have h : ∀ k, k < 25 → fnIdx k = true → k ∈ idxs := by decide
  refine h k ?_ hk
  simp only [fnIdx, Bool.or_eq_true, Bool.and_eq_true, decide_eq_true_eq] at hk
  omega
theorem fn_at (T : Top vw (looseW vw []) mean mg mb h) (k : Nat) (hk : k ∈ idxs) : FnAt h mg (nameAt (stmtAt k)) (argsOf (stmtAt k)) (bodyOf (stmtAt k)) (scopeOf (stmtAt k)) := by
  have hm : recOf k ∈ (recsOf vw).map fun d => (d.name, d.params, d.body, d.scope) := by rw [recs_eq]; exact List.mem_map_of_mem hk
  obtain ⟨d, e1, e2⟩ := List.mem_map.mp hm
  obtain ⟨a, o, pm, code, doc, q1, q2, q3, q4⟩ := T.fn d e1
  obtain ⟨h1, e3⟩ := Prod.mk.inj e2
  obtain ⟨h2, e4⟩ := Prod.mk.inj e3
  obtain ⟨h3, h4⟩ := Prod.mk.inj e4
  rw [h1] at q1 q3 q4
  rw [h2, h3, h4] at q3
  exact ⟨a, o, pm, code, doc, q1, q2, q3, q4⟩
theorem free_of (T : Top vw (looseW vw []) mean mg mb h) (x : Str) (h1 : x ∉ startupNames) (h2 : x ∉ looseW vw []) (h3 : x ∉ (recsOf vw).map (·.name)) (h4 : x ∉ (litsOf vw).map (·.1)) (h5 : x ∉ (clssOf vw (looseW vw [])).map (·.name)) (hn : x ≠ "__name__") {v : Option Value} (hb : bootBuiltins x = v) : mg x = none ∧ mb x = v :=
  ⟨T.free x h1 h2 h3 h4 h5, (T.builtins x hn).trans hb⟩
theorem const_of (T : Top vw (looseW vw []) mean mg mb h) (x : Str) (i : Int) (hv : valOf vw x = some (.int i)) : ∃ t, mg x = some (.int i t) := by
  obtain ⟨v, h1, h2⟩ := T.const x (.int i) hv
  obtain ⟨t, rfl⟩ := reads_int_all (h2 h)
  exact ⟨t, h1⟩
theorem gl_of (T : Top vw (looseW vw []) mean mg mb h) : Gl h mg mb where
  gnd := {
    g := T.g
    b := T.b
    lim := T.nolimit
    len := free_of T _ (by decide +kernel) (by decide +kernel) (by decide +kernel) (by decide +kernel) (by decide +kernel) (by decide) rfl
    sum := free_of T _ (by decide +kernel) (by decide +kernel) (by decide +kernel) (by decide +kernel) (by decide +kernel) (by decide) rfl
    list := free_of T _ (by decide +kernel) (by decide +kernel) (by decide +kernel) (by decide +kernel) (by decide +kernel) (by decide) rfl
    int := free_of T _ (by decide +kernel) (by decide +kernel) (by decide +kernel) (by decide +kernel) (by decide +kernel) (by decide) rfl
    range := free_of T _ (by decide +kernel) (by decide +kernel) (by decide +kernel) (by decide +kernel) (by decide +kernel) (by decide) rfl }
  plain := const_of T _ 0 (by rfl)
  going := const_of T _ 1 (by rfl)
  coming := const_of T _ 2 (by rfl)
  fn := fun k hk => fn_at T k (idx_mem k hk)
theorem costK_of (w : World) : CostK (frag w.params) where
  made := by exact rfl
  keep := by exact rfl
  init := by exact rfl
  over := by exact rfl
  setter := by exact rfl
  dict := by exact rfl
  taker := by
    intro x hx
    simp only [costNames, List.mem_cons, List.not_mem_nil, or_false] at hx
    rcases hx with rfl | rfl | rfl | rfl | rfl <;> exact rfl
  get := fun x => by exact rfl
  attr := by
    intro x hx
    simp only [costNames, List.mem_cons, List.not_mem_nil, or_false] at hx
    rcases hx with rfl | rfl | rfl | rfl | rfl <;> exact rfl
  ng := by exact rfl
  del := by exact rfl
  ins := by exact rfl
theorem cls_of (w : World) {h : Heap} (X : (frag w.params).In h) (G : h.Ns mainGlobals mg) : ClsIn (frag w.params) h mg where
  X := X
  CK := costK_of w
  name := mg_of X G (by exact rfl)
  m0 := ⟨⟨_, _, rfl, rfl, rfl, rfl, rfl, rfl, rfl, rfl, rfl, rfl, rfl, rfl⟩, rfl, rfl⟩
  m1 := ⟨⟨_, _, rfl, rfl, rfl, rfl, rfl, rfl, rfl, rfl, rfl, rfl, rfl, rfl⟩, rfl, rfl⟩
  m2 := ⟨⟨_, _, rfl, rfl, rfl, rfl, rfl, rfl, rfl, rfl, rfl, rfl, rfl, rfl⟩, rfl, rfl⟩
end
end
section -- J2
theorem readsAll_ints {h : Heap} : ∀ {vs : List Value} {ns : List Int}, IntsAre vs ns → ReadsAll h vs (ns.map .int) []
  | _, _, .nil => .nil
  | _, _, .cons n t r => readsAll_cons (.int n t) (readsAll_ints r)
theorem lst_of_well {P : Params} {h : Heap} {a : Addr} {ns : List Int} {vs : List Value} {xs : List WData} (w1 : Well P h (.ref a) (.list xs)) (hL : h.IsList a vs.toArray) (hI : IntsAre vs ns) : Lst h a (ns.map .int) := by
  cases w1 with
  | list hg hall =>
    obtain ⟨o, ho, _, n, hd⟩ := hL
    rw [hg] at ho; cases ho
    simp only [Data.seq.injEq] at hd
    have e := hd.1
    exact ⟨vs.toArray, ⟨_, by rw [hg, e]⟩, by simpa using readsAll_ints hI⟩
section
variable {prog : Program} {w : World} {H0 h₁ : Heap} {mg mb mL : Vals} {KF : Frag} {fa a : Addr} {cd : Value} {ns : List Int}
theorem law_join {ge : Array GenState} {d : Drawn} {tk : Nat} {os : OsState} {Q : Flow → Shared → Prop} {X : Value → Shared → Prop} (G : Gl H0 mg mb) (C : ClsIn KF H0 mg) (hns : ns.length ≤ 63) (F : Fr H0 H0.objs.size h₁ mL) (hmL : mL (Str.ofString "script") = some (.ref a)) (hl : Lst H0 a (ns.map .int))
    (c1 : h₁.IsCell (H0.objs.size + 1) (mL deckName)) (c2 : h₁.IsCell (H0.objs.size + 1 + 1) (mL (Str.ofString "alone")))
    (hQ : ∀ h' tk', Stays H0 h' → Q (.ret (.bool true)) ⟨h', ge, d, tk', os⟩) :
    wpAny (model prog w) (callerA.deeper (lawEnv H0.objs.size fa cd)) (execs (bodyOf (stmtAt 25)) (lawEnv H0.objs.size fa cd)) Q X ⟨h₁, ge, d, tk, os⟩ := by
  have hcells : (lawEnv H0.objs.size fa cd).cells = [(Str.ofString "alone", H0.objs.size + 1 + 1), (Str.ofString "deck", H0.objs.size + 1)] := rfl
  have key : ∀ z c, (lawEnv H0.objs.size fa cd).cells.lookup z = some c → (z = Str.ofString "alone" ∧ c = H0.objs.size + 1 + 1) ∨ (z = Str.ofString "deck" ∧ c = H0.objs.size + 1) := by
    intro z c hz
    rw [hcells] at hz
    simp only [List.lookup_cons, List.lookup_nil] at hz
    split at hz
    · rename_i q; cases hz; exact .inl ⟨beq_iff_eq.mp q, rfl⟩
    · split at hz
      · rename_i q; cases hz; exact .inr ⟨beq_iff_eq.mp q, rfl⟩
      · cases hz
  have st : Stays H0 h₁ := F.keep
  have newC : ∀ x c, (lawEnv H0.objs.size fa cd).cells.lookup x = some c → H0.get? c = .none := by
    intro x c hx
    rcases key x c hx with ⟨_, rfl⟩ | ⟨_, rfl⟩
    · exact past_none H0 2
    · exact past_none H0 1
  have hσ : ∀ y e, noSto.set (Str.ofString "script") (.lst false (ns.map .int)) y = some e → y = Str.ofString "script" ∧ e = .lst false (ns.map .int) := by
    intro y e h
    by_cases q : y = Str.ofString "script"
    · subst q; rw [Sto.set_same] at h; cases h; exact ⟨rfl, rfl⟩
    · rw [Sto.set_ne _ _ q] at h; cases h
  have R : Rel prog w H0 (lawEnv H0.objs.size fa cd) h₁ mL (noSto.set (Str.ofString "script") (.lst false (ns.map .int))) .none := by
    refine ⟨st, ⟨⟨mL, F.ns, fun _ _ => rfl⟩, ?_⟩, new_none H0, newC, ?_, ?_, ?_, (by intro l c t q; cases q)⟩
    · intro x c _ hx
      rcases key x c hx with ⟨rfl, rfl⟩ | ⟨rfl, rfl⟩
      · exact c2
      · exact c1
    · intro x e hx
      obtain ⟨rfl, rfl⟩ := hσ x e hx
      exact ⟨_, hmL, a, rfl, lst_stays hl st, nofun⟩
    · intro x xs hx
      have := (hσ x _ hx).2
      cases this
    · intro x dx ps ds hx
      have := (hσ x _ hx).2
      cases this
  have ok : Okay 10 (callerA.deeper (lawEnv H0.objs.size fa cd)) := by
    refine ⟨rfl, ?_, ?_⟩
    · show 1 + claimMargin + 1 + 10 < 900
      decide
    · show 4 + 3 + 3 * 10 + 300 < 9000
      decide
  refine c_law (k := 0) (prog := prog) (w := w) G C H0.objs.size fa cd _ ns hns (noSto_nc.set rfl) (Sto.set_same ..) ((Sto.set_ne _ _ (by decide)).trans rfl) _ ⟨h₁, ge, d, tk, os⟩ mL ok R Q X fun f h' tk' o hK hO => ?_
  cases o with
  | next σ' dk' => exact hK.elim
  | ret ρ dk' =>
    obtain ⟨v, m', σ', rfl, R', S', hv⟩ := hO
    have hK : ρ = .dat (.bool true) := hK
    subst hK
    obtain ⟨rfl, _⟩ := reads_bool_inv hv
    refine hQ h' tk' fun b o hb => S'.get b o (st b o hb) ?_
    rintro (q | ⟨x, _, q⟩ | ⟨x, xs, hx, _⟩ | ⟨q, _⟩)
    · have q' : b = H0.objs.size := q
      subst q'; rw [new_none] at hb; cases hb
    · rw [newC x b q] at hb; cases hb
    · have := (hσ x _ hx).2; cases this
    · cases q
end
end
end Mine
theorem PySem.Challenge.cw_og0232_01_holds : PySem.Challenge.rw_og0232_01.Holds := by
  w_on
  refine holds_law (by kernel_rfl) fun said => ?_
  refine holds_open (q := Mine.vw) (loose := []) (Xt := fun s => xlAt Mine.vw [] s && recOk (RowW.records PySem.Challenge.rw_og0232_01.row.toRowW) s) (XP := XL Mine.vw []) (Yf := Hook.obs Mine.hk) (Ya := Hook.val Mine.hk) (YP := Hook.says Mine.hk) (N := 2072) Mine.left_ (Hook.of Mine.hk) (Hook.keeps Mine.hk)
    (fun s e => xl_of s (Bool.and_eq_true_iff.mp e).1) XL.keeps (by rfl) (by rfl) (by rfl) (fun s e => recFacts_of (Bool.and_eq_true_iff.mp e).2) (by rfl) (by first | assumption | decide +kernel) (by decide +kernel) ⟨rfl, rfl, rfl, rfl, rfl, by decide +kernel⟩ ?hw ?hc
  case hw => w_witness2
  case hc =>
    generalize hq : Mine.vw = q
    w_strict (
      k_go0
      (all_goals try k_fold)
      rename Frag.In _ _ => KX
      rename Top _ _ _ _ _ _ => T
      rename Fr _ _ _ _ => F
      rename News _ _ _ _ => N0
      rename IntsAre _ _ => hI
      rename Well _ _ _ _ => hW
      rename Heap.IsList _ _ _ => hL
      rename ¬ _ < _ => hc
      rename _ = (#[] : Array GenState) => hg
      rename_i hl hr x0
      subst hq
      refine Mine.law_join (Mine.gl_of T) (Mine.cls_of _ KX T.g) (by omega) F rfl (Mine.lst_of_well hW hL hI) ?_ ?_ ?_
      case refine_1 => (exact ⟨_, (N0 _ (.tail _ (.head _))).1, hr.trans rfl⟩)
      case refine_2 => (exact ⟨_, (N0 _ (.head _)).1, hl.trans rfl⟩)
      case refine_3 => (intro h' tk' st; refine ⟨.inl ⟨.bool true, .bool true, [], rfl, raisesW_false ?_, ReadsW.bool .., ?_, ?_⟩, st, rfl, hg⟩; (· wrow_none_raised); (· wrow_post); (· exact fun _ => ⟨.nil, nofun⟩)))
