import PyProof.Rows.All
import Wide.All
import OpenK.AllK
import Wide.FinOn
import KE.KRevIter
import PyProof.JoinWalk
import PySem.Challenge.RW_nt0183_01
section
-- A1
open PySem PySem.W PyProof.Rows
set_option Elab.async false
set_option linter.all false
set_option maxRecDepth 100000
namespace Mine
/-- plain data -/
inductive D where
  | none
  | bool (b : Bool)
  | int (i : Int)
  | str (x : Str)
  | tup (l : List D)
  | lst (l : List D)
  | obj (c : Addr) (ns : List Str) (l : List D)
  | ptr (a : Addr)
/-- an object's dict: names in order, values -/
noncomputable def keysAre : List DictEntry → List Str → Prop
  | [], [] => True
  | e :: r, n :: ns => (∃ t, e.key = .str n t) ∧ keysAre r ns
  | _, _ => False
mutual
noncomputable def Rep (S : Addr → Prop) (h : Heap) : D → Value → Prop
  | .none, v => v = .none
  | .bool b, v => v = .bool b
  | .int i, v => ∃ t, v = .int i t
  | .str x, v => ∃ t, v = .str x t
  | .tup l, v => ∃ a vs, v = .ref a ∧ ¬ S a ∧ IsTup h a (List.toArray vs) ∧ Reps S h l vs
  | .lst l, v => ∃ a vs, v = .ref a ∧ ¬ S a ∧ h.IsList a (List.toArray vs) ∧ Reps S h l vs
  | .obj c ns l, v => ∃ a da es n, v = .ref a ∧ ¬ S a ∧ ¬ S da ∧ h.get? a = some (instObj c da) ∧ h.get? da = some (dictOf es n) ∧ keysAre es ns ∧ Reps S h l (es.map (·.val))
  | .ptr a, v => v = .ref a
noncomputable def Reps (S : Addr → Prop) (h : Heap) : List D → List Value → Prop
  | [], vs => vs = []
  | d :: ds, vs => ∃ v r, vs = v :: r ∧ Rep S h d v ∧ Reps S h ds r
end
mutual
theorem Rep.mono {S S' : Addr → Prop} {h h' : Heap} (hk : ∀ a o, ¬ S a → h.get? a = some o → h'.get? a = some o) (hS : ∀ a, ¬ S a → (h.get? a).isSome = true → ¬ S' a) :
    ∀ {d : D} {v : Value}, Rep S h d v → Rep S' h' d v
  | .none, _, r => by simpa [Rep] using r
  | .bool _, _, r => by simpa [Rep] using r
  | .int _, _, r => by simpa [Rep] using r
  | .str _, _, r => by simpa [Rep] using r
  | .ptr _, _, r => by simpa [Rep] using r
  | .tup l, v, r => by
    simp only [Rep] at r ⊢
    obtain ⟨a, vs, e, s, ⟨o, g, g'⟩, rs⟩ := r
    exact ⟨a, vs, e, hS a s (by rw [g]; rfl), ⟨o, hk _ _ s g, g'⟩, Reps.mono hk hS rs⟩
  | .lst l, v, r => by
    simp only [Rep] at r ⊢
    obtain ⟨a, vs, e, s, ⟨o, g, g'⟩, rs⟩ := r
    exact ⟨a, vs, e, hS a s (by rw [g]; rfl), ⟨o, hk _ _ s g, g'⟩, Reps.mono hk hS rs⟩
  | .obj c ns l, v, r => by
    simp only [Rep] at r ⊢
    obtain ⟨a, da, es, n, e, s, s', g, g', k, rs⟩ := r
    exact ⟨a, da, es, n, e, hS a s (by rw [g]; rfl), hS da s' (by rw [g']; rfl), hk _ _ s g, hk _ _ s' g', k, Reps.mono hk hS rs⟩
theorem Reps.mono {S S' : Addr → Prop} {h h' : Heap} (hk : ∀ a o, ¬ S a → h.get? a = some o → h'.get? a = some o) (hS : ∀ a, ¬ S a → (h.get? a).isSome = true → ¬ S' a) :
    ∀ {l : List D} {vs : List Value}, Reps S h l vs → Reps S' h' l vs
  | [], _, r => by simpa [Reps] using r
  | d :: l, vs, r => by
    simp only [Reps] at r ⊢
    obtain ⟨v, q, e, a, b⟩ := r
    exact ⟨v, q, e, Rep.mono hk hS a, Reps.mono hk hS b⟩
end
/-- the one thing that may change by name: none, a list, an object in the making -/
inductive Mu where
  | no
  | lst (a : Addr) (l : List D)
  | pls (a : Addr) (l : List D)
  | obj (a da C : Addr) (ns : List Str) (l : List D)
noncomputable def Mu.has : Mu → Addr → Prop
  | .no, _ => False
  | .lst a _, b => b = a
  | .pls a _, b => b = a
  | .obj a da _ _ _, b => b = a ∨ b = da
noncomputable def MuAt (S : Addr → Prop) (h : Heap) : Mu → Prop
  | .no => True
  | .lst a l => ∃ vs, h.IsList a (List.toArray vs) ∧ Reps S h l vs
  | .pls a l => ∃ vs, h.PlainList a (List.toArray vs) ∧ Reps S h l vs
  | .obj a da C ns l => a ≠ da ∧ ∃ es n, h.get? a = some (instObj C da) ∧ h.get? da = some (dictOf es n) ∧ keysAre es ns ∧ Reps S h l (es.map (·.val))
theorem MuAt.mono {S S' : Addr → Prop} {h h' : Heap} {μ : Mu} (hm : ∀ a o, μ.has a → h.get? a = some o → h'.get? a = some o) (hk : ∀ a o, ¬ S a → h.get? a = some o → h'.get? a = some o) (hS : ∀ a, ¬ S a → (h.get? a).isSome = true → ¬ S' a) (r : MuAt S h μ) : MuAt S' h' μ := by
  cases μ with
  | no => trivial
  | lst a l => obtain ⟨vs, ⟨o, g, g'⟩, rs⟩ := r; exact ⟨vs, ⟨o, hm a o rfl g, g'⟩, rs.mono hk hS⟩
  | pls a l => obtain ⟨vs, ⟨n, g⟩, rs⟩ := r; exact ⟨vs, ⟨n, hm a _ rfl g⟩, rs.mono hk hS⟩
  | obj a da C ns l => obtain ⟨ne, es, n, g, g', k, rs⟩ := r; exact ⟨ne, es, n, hm a _ (.inl rfl) g, hm da _ (.inr rfl) g', k, rs.mono hk hS⟩
/-- the state behind differs from the state ahead outside X not at all -/
structure Kp (X : Addr → Prop) (s s' : Shared) : Prop where
  same : ∃ h' tk, s' = { s with heap := h', toks := tk }
  keep0 : ∀ b o, ¬ X b → s.heap.get? b = some o → s'.heap.get? b = some o
  blt : ∀ m, s.heap.Ns builtinsNs m → s'.heap.Ns builtinsNs m
theorem Kp.keep {X : Addr → Prop} {s s' : Shared} (k : Kp X s s') (b : Addr) (o : Obj) (h : ¬ X b) (_ : b ≠ builtinsNs) (e : s.heap.get? b = some o) : s'.heap.get? b = some o := k.keep0 b o h e
noncomputable def No : Addr → Prop := fun _ => False
theorem Kp.refl {X : Addr → Prop} {s : Shared} : Kp X s s := ⟨⟨s.heap, s.toks, rfl⟩, fun _ _ _ e => e, fun _ e => e⟩
theorem Kp.trans {X : Addr → Prop} {s s' s'' : Shared} (a : Kp X s s') (b : Kp X s' s'') : Kp X s s'' :=
  ⟨by obtain ⟨h, t, e⟩ := a.same; obtain ⟨h', t', e'⟩ := b.same; exact ⟨h', t', by rw [e', e]⟩, fun x o n e => b.keep0 x o n (a.keep0 x o n e), fun m e => b.blt m (a.blt m e)⟩
theorem Kp.weak {X Y : Addr → Prop} {s s' : Shared} (h : ∀ a, X a → Y a) (a : Kp X s s') : Kp Y s s' := ⟨a.same, fun b o n e => a.keep0 b o (fun q => n (h b q)) e, a.blt⟩
theorem Kp.of_no {X : Addr → Prop} {s s' : Shared} (a : Kp No s s') : Kp X s s' := a.weak fun _ q => q.elim
theorem Kp.toks {X : Addr → Prop} {s : Shared} {t : Nat} : Kp X s { s with toks := t } := ⟨⟨s.heap, t, rfl⟩, fun _ _ _ e => e, fun _ e => e⟩
theorem Kp.heap {X : Addr → Prop} {s : Shared} {h : Heap} {t : Nat} (k : ∀ b o, s.heap.get? b = some o → h.get? b = some o) : Kp X s { s with heap := h, toks := t } :=
  ⟨⟨h, t, rfl⟩, fun b o _ e => k b o e, fun _ e => e.keeps k⟩
/-- what never changes: program, world, globals, the written part -/
structure Cx where
  prog : Program
  w : World
  mg : Str → Option Value
  mb : Str → Option Value
  K : Frag
  ok : (K.lookup builtinsNs).isNone = true
structure Cx.In (c : Cx) (h : Heap) : Prop where
  k : c.K.In h
  g : h.Ns mainGlobals c.mg
  b : h.Ns builtinsNs c.mb
  lim : h.NoLimit
  blt : ∀ x : Str, x ≠ "__name__" → c.mb x = bootBuiltins x
/-- addresses that may change: live, none of the top's -/
structure Live (c : Cx) (S : Addr → Prop) (h : Heap) : Prop where
  blt : S builtinsNs
  all : ∀ a, S a → (h.get? a).isSome = true ∧ c.K.lookup a = none ∧ a ≠ mainGlobals ∧ a ≠ cStatics
theorem Cx.In.kp {c : Cx} {S X : Addr → Prop} {s s' : Shared} (i : c.In s.heap) (l : Live c S s.heap) (hX : ∀ a, X a → S a) (k : Kp X s s') : c.In s'.heap where
  k := fun a o e => k.keep a o (fun q => by rw [(l.all a (hX a q)).2.1] at e; cases e) (fun q => by subst q; have := c.ok; rw [e] at this; cases this) (i.k a o e)
  g := by
    obtain ⟨o, es, ep, e, r⟩ := i.g
    exact ⟨o, es, ep, k.keep _ _ (fun q => (l.all _ (hX _ q)).2.2.1 rfl) (by decide) e, r⟩
  b := k.blt _ i.b
  lim := by
    obtain ⟨mc, ⟨o, es, ep, e, r⟩, q⟩ := i.lim
    exact ⟨mc, ⟨o, es, ep, k.keep _ _ (fun q => (l.all _ (hX _ q)).2.2.2 rfl) (by decide) e, r⟩, q⟩
  blt := i.blt
theorem Rep.kp {S X : Addr → Prop} {s s' : Shared} (hb : S builtinsNs) (hX : ∀ a, X a → S a) (k : Kp X s s') {d : D} {v : Value} (r : Rep S s.heap d v) : Rep S s'.heap d v :=
  Rep.mono (fun a o n e => k.keep a o (fun q => n (hX a q)) (fun q => n (q ▸ hb)) e) (fun _ n _ => n) r
theorem Reps.kp {S X : Addr → Prop} {s s' : Shared} (hb : S builtinsNs) (hX : ∀ a, X a → S a) (k : Kp X s s') {d : List D} {v : List Value} (r : Reps S s.heap d v) : Reps S s'.heap d v :=
  Reps.mono (fun a o n e => k.keep a o (fun q => n (hX a q)) (fun q => n (q ▸ hb)) e) (fun _ n _ => n) r
/-- `X`'s addresses are still there -/
noncomputable def Still (X : Addr → Prop) (s s' : Shared) : Prop := ∀ a, X a → (s.heap.get? a).isSome = true → (s'.heap.get? a).isSome = true
theorem Still.no {s s' : Shared} : Still No s s' := fun _ q => q.elim
theorem Live.kp {c : Cx} {S X : Addr → Prop} {s s' : Shared} (l : Live c S s.heap) (i : c.In s.heap) (k : Kp X s s') (h : Still X s s') : Live c S s'.heap where
  blt := l.blt
  all := fun a q => by
    obtain ⟨a1, a2, a3, a5⟩ := l.all a q
    refine ⟨?_, a2, a3, a5⟩
    by_cases x : X a
    · exact h a x a1
    · by_cases b : a = builtinsNs
      · subst b
        obtain ⟨o, _, _, e, _⟩ := k.blt _ i.b
        rw [e]; rfl
      · obtain ⟨o, e⟩ := Option.isSome_iff_exists.mp a1
        rw [k.keep a o x b e]; rfl
structure Room (k : Nat) (A : Around) : Prop where
  handled : A.handled = none
  depth : A.depth + 2 * k < recursionLimit
  units : A.units + 60 * k < cLine
/-- where a name's value stands -/
noncomputable def Stands (env : Env) (h : Heap) (x : Str) (v : Value) : Prop :=
  (env.kindOf x = some .local ∧ ∃ m, h.Ns env.locals m ∧ m x = some v) ∨
  (((env.kindOf x = some .cell) ∨ (env.kindOf x = some .free ∧ (x == ("__classdict__" : Str)) = false)) ∧ ∃ c, env.cells.lookup x = some c ∧ h.IsCell c (some v))
noncomputable abbrev Names := List (Str × Option D)
noncomputable abbrev NL := List (Str × NameKind)
structure At (c : Cx) (k : Nat) (nl : NL) (ρ : Names) (μ : Mu) (A : Around) (env : Env) (S : Addr → Prop) (s : Shared) : Prop where
  room : Room (k + 1) A
  scope : env.scope.names = nl
  kind : env.scope.kind = .function
  glob : env.globals = mainGlobals
  blt : env.builtins = builtinsNs
  names : (nl.map (·.1)).Nodup
  dbg : ∀ p ∈ nl, (p.1 == ("__debug__" : Str)) = false ∧ p.1 ≠ ("__name__" : Str)
  live : Live c S s.heap
  inn : c.In s.heap
  ns : ∃ m, s.heap.Ns env.locals m
  loc : S env.locals
  locb : env.locals ≠ builtinsNs
  cells : ∀ x a, env.cells.lookup x = some a → S a ∧ a ≠ builtinsNs ∧ a ≠ env.locals ∧ ∃ v, s.heap.IsCell a v
  cellOne : ∀ x y a, env.cells.lookup x = some a → env.cells.lookup y = some a → x = y
  cellHas : ∀ x, env.kindOf x = some .cell → ∃ a, env.cells.lookup x = some a
  nodup : (ρ.map (·.1)).Nodup
  kinds : ∀ p ∈ ρ, env.kindOf p.1 = some .local ∨ env.kindOf p.1 = some .cell ∨ env.kindOf p.1 = some .free
  rep : ∀ x d, (x, some d) ∈ ρ → ∃ v, Stands env s.heap x v ∧ Rep S s.heap d v
  mu : MuAt S s.heap μ
  muS : ∀ b, μ.has b → S b ∧ b ≠ builtinsNs ∧ b ≠ env.locals ∧ ∀ x, env.cells.lookup x ≠ some b
theorem Mu.isSome {S : Addr → Prop} {h : Heap} {μ : Mu} (r : MuAt S h μ) : ∀ b, μ.has b → (h.get? b).isSome = true := by
  intro b hb
  cases μ with
  | no => exact hb.elim
  | lst a l => obtain ⟨vs, ⟨o, g, g'⟩, rs⟩ := r; rw [show b = a from hb, g]; rfl
  | pls a l => obtain ⟨vs, ⟨n, g⟩, rs⟩ := r; rw [show b = a from hb, g]; rfl
  | obj a da C ns l =>
    obtain ⟨ne, es, n, g, g', k, rs⟩ := r
    rcases hb with rfl | rfl
    · rw [g]; rfl
    · rw [g']; rfl
/-- what the one thing held has changed, nothing else -/
theorem At.kpM {c : Cx} {k : Nat} {nl : NL} {ρ : Names} {μ μ' : Mu} {A : Around} {env : Env} {S : Addr → Prop} {s s' : Shared} (a : At c k nl ρ μ A env S s) (q : Kp μ.has s s') (hh : ∀ b, μ'.has b ↔ μ.has b) (m' : MuAt S s'.heap μ') : At c k nl ρ μ' A env S s' :=
  have st : Still μ.has s s' := fun b hb _ => Mu.isSome m' b ((hh b).mpr hb)
  { room := a.room
    scope := a.scope
    glob := a.glob
    blt := a.blt
    kind := a.kind
    names := a.names
    dbg := a.dbg
    live := a.live.kp a.inn q st
    inn := a.inn.kp a.live (fun b hb => (a.muS b hb).1) q
    ns := by
      obtain ⟨m, o, es, ep, e, r⟩ := a.ns
      exact ⟨m, o, es, ep, q.keep _ _ (fun hb => (a.muS _ hb).2.2.1 rfl) a.locb e, r⟩
    loc := a.loc
    locb := a.locb
    cells := fun x b e => by
      obtain ⟨h1, h2, h3, v, o, h4, h5⟩ := a.cells x b e
      exact ⟨h1, h2, h3, v, o, q.keep _ _ (fun hb => (a.muS _ hb).2.2.2 x e) h2 h4, h5⟩
    cellOne := a.cellOne
    cellHas := a.cellHas
    nodup := a.nodup
    kinds := a.kinds
    rep := fun x d h => by
      obtain ⟨v, st, r⟩ := a.rep x d h
      refine ⟨v, ?_, r.kp a.live.blt (fun b hb => (a.muS b hb).1) q⟩
      rcases st with ⟨h1, m, ⟨o, es, ep, e, r⟩, h3⟩ | ⟨h1, b, h2, o, h3, h4⟩
      · exact .inl ⟨h1, m, ⟨o, es, ep, q.keep _ _ (fun hb => (a.muS _ hb).2.2.1 rfl) a.locb e, r⟩, h3⟩
      · exact .inr ⟨h1, b, h2, o, q.keep _ _ (fun hb => (a.muS _ hb).2.2.2 x h2) (a.cells x b h2).2.1 h3, h4⟩
    mu := m'
    muS := fun b hb => a.muS b ((hh b).mp hb) }
theorem At.kp {c : Cx} {k : Nat} {nl : NL} {ρ : Names} {μ : Mu} {A : Around} {env : Env} {S : Addr → Prop} {s s' : Shared} (a : At c k nl ρ μ A env S s) (q : Kp No s s') : At c k nl ρ μ A env S s' :=
  a.kpM q.of_no (fun _ => Iff.rfl) (a.mu.mono (fun b o hb e => q.keep b o id (a.muS b hb).2.1 e) (fun b o n e => q.keep b o id (fun z => n (z ▸ a.live.blt)) e) fun _ n _ => n)
noncomputable abbrev Sim (c : Cx) (S : Addr → Prop) (s : Shared) (d : D) (Q : Value → Shared → Prop) : Prop := ∀ v s', Kp No s s' → Rep S s'.heap d v → Q v s'
noncomputable abbrev Sims (c : Cx) (S : Addr → Prop) (s : Shared) (ds : List D) (Q : List Value → Shared → Prop) : Prop := ∀ v s', Kp No s s' → Reps S s'.heap ds v → Q v s'
/-- the expression comes to d -/
noncomputable def EV (c : Cx) (k : Nat) (nl : NL) (ρ : Names) (μ : Mu) (e : Expr) (d : D) : Prop :=
  ∀ {A : Around} {env : Env} {S : Addr → Prop} {s : Shared} {Q : Value → Shared → Prop} {E : Value → Shared → Prop}, At c k nl ρ μ A env S s → Sim c S s d Q →
    wpAny (model c.prog c.w) A (eval e env) Q E s
/-- the expressions, one behind the other, come to ds -/
noncomputable def EVs (c : Cx) (k : Nat) (nl : NL) (ρ : Names) (μ : Mu) (es : List Expr) (ds : List D) : Prop :=
  ∀ {A : Around} {env : Env} {S : Addr → Prop} {s : Shared} {pos : Pos} {Q : List Value → Shared → Prop} {E : Value → Shared → Prop}, At c k nl ρ μ A env S s → Sims c S s ds Q →
    wpAny (model c.prog c.w) A (spliced (backTo pos (starEach es env))) Q E s
/-- the test is b -/
noncomputable def TR (c : Cx) (k : Nat) (nl : NL) (ρ : Names) (μ : Mu) (e : Expr) (b : Bool) : Prop :=
  ∀ {A : Around} {env : Env} {S : Addr → Prop} {s : Shared} {Q : Bool → Shared → Prop} {E : Value → Shared → Prop}, At c k nl ρ μ A env S s → (∀ s', Kp No s s' → Q b s') →
    wpAny (model c.prog c.w) A (isTrue e env (eval e env)) Q E s
section
variable {c : Cx} {k : Nat} {nl : NL} {ρ : Names} {μ : Mu}
theorem EV.of {e : Expr} {d d' : D} (h : EV c k nl ρ μ e d) (q : d = d') : EV c k nl ρ μ e d' := q ▸ h
theorem TR.of {e : Expr} {d d' : Bool} (h : TR c k nl ρ μ e d) (q : d = d') : TR c k nl ρ μ e d' := q ▸ h
theorem EVs.nil : EVs c k nl ρ μ [] [] := fun a h => args_nil (h _ _ Kp.refl (by simp [Reps]))
noncomputable def plainExpr : Expr → Bool
  | .Starred .. => false
  | _ => true
theorem starEach_plain {e : Expr} {rest : List Expr} {env : Env} (h : plainExpr e = true) : starEach (e :: rest) env = (false, eval e env) :: starEach rest env := by
  cases e <;> first | rfl | cases h
theorem EVs.cons {e : Expr} {es : List Expr} {d : D} {ds : List D} (h : EV c k nl ρ μ e d) (hs : EVs c k nl ρ μ es ds) (hp : plainExpr e = true := by with_unfolding_all rfl) : EVs c k nl ρ μ (e :: es) (d :: ds) := fun a q =>
  args_cons (h a fun v s' kp r => hs (a.kp kp) fun vs s'' kp' rs => q _ _ (kp.trans kp') (by
    simp only [Reps]; exact ⟨v, vs, rfl, r.kp a.live.blt (fun _ q => q.elim) kp', rs⟩)) (starEach_plain hp)
theorem EV.int {i : Int} {n : Nat} {pos : Pos} : EV c k nl ρ μ (.Constant (.int i) n pos) (.int i) := fun _ h => wpAny_Constant_int (h _ _ Kp.toks (by simp [Rep]))
theorem EV.str {x : Str} {n : Nat} {pos : Pos} : EV c k nl ρ μ (.Constant (.str x) n pos) (.str x) := fun _ h => Calls.Constant_str (h _ _ Kp.toks (by simp [Rep]))
theorem EV.bool {b : Bool} {n : Nat} {pos : Pos} : EV c k nl ρ μ (.Constant (.bool b) n pos) (.bool b) := fun _ h => Constant_bool (h _ _ Kp.refl (by simp [Rep]))
theorem EV.none {n : Nat} {pos : Pos} : EV c k nl ρ μ (.Constant .none n pos) .none := fun _ h => Constant_none (h _ _ Kp.refl (by simp [Rep]))
theorem mem_of_lookup {α : Type} {x : Str} {v : α} : ∀ {l : List (Str × α)}, l.lookup x = some v → (x, v) ∈ l
  | (y, u) :: l, e => by
    rw [List.lookup_cons] at e
    split at e
    · rename_i h; have := beq_iff_eq.mp h; subst this; cases e; exact .head _
    · exact .tail _ (mem_of_lookup e)
theorem At.isName {A : Around} {env : Env} {S : Addr → Prop} {s : Shared} (a : At c k nl ρ μ A env S s) {x : Str} {kd : NameKind} (h : env.kindOf x = some kd) : (x == ("__debug__" : Str)) = false :=
  (a.dbg _ (mem_of_lookup (l := nl) (by rw [← a.scope]; exact h))).1
theorem EV.name {x : Str} {d : D} {pos : Pos} (h : (x, some d) ∈ ρ) : EV c k nl ρ μ (.Name x pos) d := fun a q => by
  obtain ⟨v, st, r⟩ := a.rep x d h
  have hk : ScopeKind.function = .function := rfl
  rcases st with ⟨h1, m, h2, h3⟩ | ⟨h1, b, h2, h3⟩
  · exact wpAny_Name (wpAny_loadName_local a.kind h1 h2 h3 (q _ _ Kp.refl r)) (a.isName h1)
  · rcases h1 with h1 | ⟨h1, hn⟩
    · exact wpAny_Name (wpAny_loadName_cell a.kind h1 h2 h3 (q _ _ Kp.refl r)) (a.isName h1)
    · exact wpAny_Name (wpAny_loadName_free a.kind h1 h2 h3 (q _ _ Kp.refl r) hn) (a.isName h1)
theorem lookup_of_mem {α : Type} {x : Str} {v : α} : ∀ {l : List (Str × α)}, (l.map (·.1)).Nodup → (x, v) ∈ l → l.lookup x = some v
  | (y, u) :: l, n, h => by
    rw [List.map_cons, List.nodup_cons] at n
    rw [List.lookup_cons]
    rcases List.mem_cons.mp h with e | h
    · cases e; simp
    · have hm : x ∈ l.map (·.1) := List.mem_map.mpr ⟨_, h, rfl⟩
      have : (x == y) = false := by
        rw [beq_eq_false_iff_ne]
        intro e
        exact n.1 (e ▸ hm)
      rw [this]
      exact lookup_of_mem n.2 h
/-- a name of the top's -/
theorem Glo.load {x : Str} {v : Value} {pos : Pos} {A : Around} {env : Env} {S : Addr → Prop} {s : Shared} {Q : Value → Shared → Prop} {E : Value → Shared → Prop} (a : At c k nl ρ μ A env S s)
    (hx : (x, NameKind.globalImplicit) ∈ nl) (hv : c.mg x = some v) (q : Q v s) : wpAny (model c.prog c.w) A (eval (.Name x pos) env) Q E s :=
  Calls.Name_function_global a.kind (by show env.scope.names.lookup x = _; rw [a.scope]; exact lookup_of_mem a.names hx) (Calls.loadGlobal_global (by rw [a.glob]; exact a.inn.g) hv q) (a.dbg _ hx).1
theorem Blt.load {x : Str} {v : Value} {pos : Pos} {A : Around} {env : Env} {S : Addr → Prop} {s : Shared} {Q : Value → Shared → Prop} {E : Value → Shared → Prop} (a : At c k nl ρ μ A env S s)
    (hx : (x, NameKind.globalImplicit) ∈ nl) (hm : c.mg x = .none) (hv : bootBuiltins x = some v) (q : Q v s) :
    wpAny (model c.prog c.w) A (eval (.Name x pos) env) Q E s :=
  Calls.Name_function_global a.kind (by show env.scope.names.lookup x = _; rw [a.scope]; exact lookup_of_mem a.names hx)
    (Calls.loadGlobal_builtin (by rw [a.glob]; exact a.inn.g) hm (by rw [a.blt]; exact a.inn.b) ((a.inn.blt x (a.dbg _ hx).2).trans hv) q) (a.dbg _ hx).1
/-- an operation upon data -/
noncomputable def BinD (c : Cx) (op : Operator) (x y d : D) : Prop :=
  ∀ {A : Around} {S : Addr → Prop} {s : Shared} {v u : Value} {Q : Value → Shared → Prop} {E : Value → Shared → Prop}, Live c S s.heap → c.In s.heap → Rep S s.heap x v → Rep S s.heap y u → Sim c S s d Q →
    wpAny (model c.prog c.w) A (binaryOp op v u) Q E s
theorem EV.bin {l r : Expr} {op : Operator} {pos : Pos} {x y d : D} (h1 : EV c k nl ρ μ l x) (h2 : EV c k nl ρ μ r y) (h : BinD c op x y d) : EV c k nl ρ μ (.BinOp l op r pos) d := fun a q =>
  wpAny_BinOp (h1 a fun v s' k1 r1 => h2 (a.kp k1) fun u s'' k2 r2 => h ((a.kp k1).kp k2).live ((a.kp k1).kp k2).inn (r1.kp a.live.blt (fun _ q => q.elim) k2) r2 fun w t k3 r3 => q _ _ ((k1.trans k2).trans k3) r3)
theorem Rep.int_inv {S : Addr → Prop} {h : Heap} {i : Int} {v : Value} (r : Rep S h (.int i) v) : ∃ t, v = .int i t := by simpa [Rep] using r
theorem Rep.str_inv {S : Addr → Prop} {h : Heap} {i : Str} {v : Value} (r : Rep S h (.str i) v) : ∃ t, v = .str i t := by simpa [Rep] using r
theorem Rep.bool_inv {S : Addr → Prop} {h : Heap} {i : Bool} {v : Value} (r : Rep S h (.bool i) v) : v = .bool i := by simpa [Rep] using r
theorem Rep.none_inv {S : Addr → Prop} {h : Heap} {v : Value} (r : Rep S h .none v) : v = .none := by simpa [Rep] using r
theorem Rep.int_mk {S : Addr → Prop} {h : Heap} {i : Int} {t : Tok} : Rep S h (.int i) (.int i t) := by simp [Rep]
theorem Rep.str_mk {S : Addr → Prop} {h : Heap} {i : Str} {t : Tok} : Rep S h (.str i) (.str i t) := by simp [Rep]
theorem Rep.bool_mk {S : Addr → Prop} {h : Heap} {i : Bool} : Rep S h (.bool i) (.bool i) := by simp [Rep]
theorem BinD.add {i j : Int} : BinD c .Add (.int i) (.int j) (.int (i + j)) := fun _ _ r r' q => by
  obtain ⟨t, rfl⟩ := r.int_inv; obtain ⟨u, rfl⟩ := r'.int_inv
  exact add_int (q _ _ Kp.toks Rep.int_mk)
theorem BinD.sub {i j : Int} : BinD c .Sub (.int i) (.int j) (.int (i - j)) := fun _ _ r r' q => by
  obtain ⟨t, rfl⟩ := r.int_inv; obtain ⟨u, rfl⟩ := r'.int_inv
  exact PyProof.Rows.sub_int (q _ _ Kp.toks Rep.int_mk)
theorem BinD.mul {i j : Int} (h : IntMulOk i j) : BinD c .Mult (.int i) (.int j) (.int (i * j)) := fun _ _ r r' q => by
  obtain ⟨t, rfl⟩ := r.int_inv; obtain ⟨u, rfl⟩ := r'.int_inv
  exact PyProof.Rows.mul_int (q _ _ Kp.toks Rep.int_mk) h
theorem BinD.fdiv {i j : Int} (h : j ≠ 0) (hp : Builtin.divisionGoesByPylong i j = false) : BinD c .FloorDiv (.int i) (.int j) (.int (i.fdiv j)) := fun _ _ r r' q => by
  obtain ⟨t, rfl⟩ := r.int_inv; obtain ⟨u, rfl⟩ := r'.int_inv
  exact floordiv_int h (q _ _ Kp.toks Rep.int_mk) (.inl hp)
theorem BinD.fmod {i j : Int} (h : j ≠ 0) : BinD c .Mod (.int i) (.int j) (.int (i.fmod j)) := fun _ _ r r' q => by
  obtain ⟨t, rfl⟩ := r.int_inv; obtain ⟨u, rfl⟩ := r'.int_inv
  exact mod_int' h (q _ _ Kp.toks Rep.int_mk)
theorem BinD.shl {i j : Int} (h : 0 ≤ j) (hs : (Builtin.Int.intBits i : Int) + j ≤ 2 ^ 27) : BinD c .LShift (.int i) (.int j) (.int (i * 2 ^ j.toNat)) := fun _ _ r r' q => by
  obtain ⟨t, rfl⟩ := r.int_inv; obtain ⟨u, rfl⟩ := r'.int_inv
  exact lshift_int h hs (q _ _ Kp.toks Rep.int_mk)
theorem BinD.shr {i j : Int} (h : 0 ≤ j) : BinD c .RShift (.int i) (.int j) (.int (i.fdiv (2 ^ j.toNat))) := fun _ _ r r' q => by
  obtain ⟨t, rfl⟩ := r.int_inv; obtain ⟨u, rfl⟩ := r'.int_inv
  exact rshift_int h (q _ _ Kp.toks Rep.int_mk)
theorem BinD.and {i j : Int} : BinD c .BitAnd (.int i) (.int j) (.int (Builtin.bitAnd i j)) := fun _ _ r r' q => by
  obtain ⟨t, rfl⟩ := r.int_inv; obtain ⟨u, rfl⟩ := r'.int_inv
  exact and_int (q _ _ Kp.toks Rep.int_mk)
theorem BinD.pow {i j : Int} (h : 0 ≤ j) (hs : (Builtin.Int.intBits i : Int) * j ≤ 2 ^ 27) : BinD c .Pow (.int i) (.int j) (.int (i ^ j.toNat)) := fun _ _ r r' q => by
  obtain ⟨t, rfl⟩ := r.int_inv; obtain ⟨u, rfl⟩ := r'.int_inv
  exact pow_int h hs (q _ _ Kp.toks Rep.int_mk)
theorem BinD.cat {x y : Str} (h : x.length + y.length ≤ sizeLine) : BinD c .Add (.str x) (.str y) (.str (x ++ y)) := fun _ _ r r' q => by
  obtain ⟨t, rfl⟩ := r.str_inv; obtain ⟨u, rfl⟩ := r'.str_inv
  exact PyProof.Rows.add_str (fun t' tk => q _ _ Kp.toks Rep.str_mk) h
end
end Mine
end
section
-- A2
open PySem PySem.W PyProof.Rows
set_option Elab.async false
set_option linter.all false
set_option maxRecDepth 100000
namespace Mine
theorem Room.mono {j k : Nat} {A : Around} (r : Room k A) (h : j ≤ k) : Room j A := ⟨r.handled, by have := r.depth; lia, by have := r.units; lia⟩
section
variable {c : Cx} {k : Nat} {nl : NL} {ρ : Names} {μ : Mu}
/-- a comparison upon data -/
noncomputable def CmpD (c : Cx) (op : CmpOp) (x y : D) (b : Bool) : Prop :=
  ∀ {A : Around} {S : Addr → Prop} {s : Shared} {v u : Value} {Q : Value → Shared → Prop} {E : Value → Shared → Prop}, Room 1 A → Live c S s.heap → c.In s.heap → Rep S s.heap x v → Rep S s.heap y u → (∀ s', Kp No s s' → Q (.bool b) s') →
    wpAny (model c.prog c.w) A (compareOp op v u) Q E s
theorem At.room1 {A : Around} {env : Env} {S : Addr → Prop} {s : Shared} (a : At c k nl ρ μ A env S s) : Room 1 A := a.room.mono (by lia)
theorem EV.cmp {l r : Expr} {op : CmpOp} {pos : Pos} {x y : D} {b : Bool} (h1 : EV c k nl ρ μ l x) (h2 : EV c k nl ρ μ r y) (h : CmpD c op x y b) (hm : behindInMarks op r = false := by with_unfolding_all rfl) :
    EV c k nl ρ μ (.Compare l [op] [r] pos) (.bool b) := fun a q =>
  wpAny_Compare1 (h1 a fun v s' k1 r1 => h2 (a.kp k1) fun u s'' k2 r2 => h a.room1 ((a.kp k1).kp k2).live ((a.kp k1).kp k2).inn (r1.kp a.live.blt (fun _ q => q.elim) k2) r2 fun t k3 => q _ _ ((k1.trans k2).trans k3) Rep.bool_mk) hm
theorem TR.cmp {l r : Expr} {op : CmpOp} {pos : Pos} {x y : D} {b : Bool} (h1 : EV c k nl ρ μ l x) (h2 : EV c k nl ρ μ r y) (h : CmpD c op x y b) (hm : behindInMarks op r = false := by with_unfolding_all rfl) :
    TR c k nl ρ μ (.Compare l [op] [r] pos) b := fun a q =>
  wpAny_isTrue_Compare1 (h1 a fun v s' k1 r1 => h2 (a.kp k1) fun u s'' k2 r2 => h a.room1 ((a.kp k1).kp k2).live ((a.kp k1).kp k2).inn (r1.kp a.live.blt (fun _ q => q.elim) k2) r2 fun t k3 => wpAny_truthy_bool (q _ ((k1.trans k2).trans k3))) hm
/-- a chain of two comparisons -/
theorem TR.chain {l r r' : Expr} {op op' : CmpOp} {pos : Pos} {x y z : D} {b b' : Bool} (h1 : EV c k nl ρ μ l x) (h2 : EV c k nl ρ μ r y) (h : CmpD c op x y b) (h3 : EV c k nl ρ μ r' z) (h' : CmpD c op' y z b') (hm : lastMarks [op, op'] [r, r'] = false := by with_unfolding_all rfl) :
    TR c k nl ρ μ (.Compare l [op, op'] [r, r'] pos) (b && b') := fun a q =>
  isTrue_chain (h1 a fun v s' k1 r1 => test_link (h2 (a.kp k1) fun u s'' k2 r2 => h a.room1 ((a.kp k1).kp k2).live ((a.kp k1).kp k2).inn (r1.kp a.live.blt (fun _ q => q.elim) k2) r2 fun t k3 => wpAny_truthy_bool (by
    have a3 := ((a.kp k1).kp k2).kp k3
    cases b with
    | false => exact q _ ((k1.trans k2).trans k3)
    | true =>
      rw [if_pos rfl]
      exact test_last (h3 a3 fun w s3 k4 r4 => h' a.room1 (a3.kp k4).live (a3.kp k4).inn ((r2.kp a.live.blt (fun _ q => q.elim) k3).kp a.live.blt (fun _ q => q.elim) k4) r4 fun t' k5 => wpAny_truthy_bool (by rw [Bool.true_and] at q; exact q _ ((((k1.trans k2).trans k3).trans k4).trans k5)))))) hm
theorem EV.chain {l r r' : Expr} {op op' : CmpOp} {pos : Pos} {x y z : D} {b b' : Bool} (h1 : EV c k nl ρ μ l x) (h2 : EV c k nl ρ μ r y) (h : CmpD c op x y b) (h3 : EV c k nl ρ μ r' z) (h' : CmpD c op' y z b') (hm : lastMarks [op, op'] [r, r'] = false := by with_unfolding_all rfl) :
    EV c k nl ρ μ (.Compare l [op, op'] [r, r'] pos) (.bool (b && b')) := fun a q =>
  Compare_chain (h1 a fun v s' k1 r1 => chain_link (h2 (a.kp k1) fun u s'' k2 r2 => h a.room1 ((a.kp k1).kp k2).live ((a.kp k1).kp k2).inn (r1.kp a.live.blt (fun _ q => q.elim) k2) r2 fun t k3 => wpAny_truthy_bool (by
    have a3 := ((a.kp k1).kp k2).kp k3
    cases b with
    | false => exact q _ _ ((k1.trans k2).trans k3) Rep.bool_mk
    | true =>
      rw [if_pos rfl]
      exact chain_last (h3 a3 fun w s3 k4 r4 => h' a.room1 (a3.kp k4).live (a3.kp k4).inn ((r2.kp a.live.blt (fun _ q => q.elim) k3).kp a.live.blt (fun _ q => q.elim) k4) r4 fun t' k5 => (by rw [Bool.true_and] at q; exact q _ _ ((((k1.trans k2).trans k3).trans k4).trans k5) Rep.bool_mk))))) hm
theorem CmpD.lt {i j : Int} : CmpD c .Lt (.int i) (.int j) (decide (i < j)) := fun _ _ _ r r' q => by
  obtain ⟨t, rfl⟩ := r.int_inv; obtain ⟨u, rfl⟩ := r'.int_inv; exact lt_int (q _ Kp.refl)
theorem CmpD.gt {i j : Int} : CmpD c .Gt (.int i) (.int j) (decide (j < i)) := fun _ _ _ r r' q => by
  obtain ⟨t, rfl⟩ := r.int_inv; obtain ⟨u, rfl⟩ := r'.int_inv; exact gt_int (q _ Kp.refl)
theorem CmpD.le {i j : Int} : CmpD c .LtE (.int i) (.int j) (decide (i ≤ j)) := fun _ _ _ r r' q => by
  obtain ⟨t, rfl⟩ := r.int_inv; obtain ⟨u, rfl⟩ := r'.int_inv; exact le_int (q _ Kp.refl)
theorem CmpD.ge {i j : Int} : CmpD c .GtE (.int i) (.int j) (decide (j ≤ i)) := fun _ _ _ r r' q => by
  obtain ⟨t, rfl⟩ := r.int_inv; obtain ⟨u, rfl⟩ := r'.int_inv; exact ge_int (q _ Kp.refl)
theorem CmpD.eq {i j : Int} : CmpD c .Eq (.int i) (.int j) (decide (i = j)) := fun _ _ _ r r' q => by
  obtain ⟨t, rfl⟩ := r.int_inv; obtain ⟨u, rfl⟩ := r'.int_inv; exact eq_int (q _ Kp.refl)
theorem CmpD.ne {i j : Int} : CmpD c .NotEq (.int i) (.int j) (!decide (i = j)) := fun _ _ _ r r' q => by
  obtain ⟨t, rfl⟩ := r.int_inv; obtain ⟨u, rfl⟩ := r'.int_inv; exact ne_int (q _ Kp.refl)
theorem CmpD.eqS {i j : Str} : CmpD c .Eq (.str i) (.str j) (decide (i = j)) := fun _ _ _ r r' q => by
  obtain ⟨t, rfl⟩ := r.str_inv; obtain ⟨u, rfl⟩ := r'.str_inv; exact PyProof.Rows.eq_str (q _ Kp.refl)
theorem CmpD.neS {i j : Str} : CmpD c .NotEq (.str i) (.str j) (!decide (i = j)) := fun _ _ _ r r' q => by
  obtain ⟨t, rfl⟩ := r.str_inv; obtain ⟨u, rfl⟩ := r'.str_inv; exact PyProof.Rows.ne_str (q _ Kp.refl)
theorem CmpD.inS {x y : Str} : CmpD c .In (.str y) (.str x) (!(Builtin.Str.occurrences x y 0 x.length 1).isEmpty) := fun _ _ _ r r' q => by
  obtain ⟨t, rfl⟩ := r.str_inv; obtain ⟨u, rfl⟩ := r'.str_inv; exact PyProof.Rows.in_str (q _ Kp.refl)
noncomputable def isNone : D → Bool
  | .none => true
  | _ => false
theorem CmpD.isNone {d : D} : CmpD c .Is d .none (isNone d) := fun _ _ _ r r' q => by
  have e := r'.none_inv; subst e
  refine is_none_gen ?_
  cases d <;> simp only [Rep, Mine.isNone] at r ⊢ q
  case none => subst r; exact q _ Kp.refl
  case bool => subst r; exact q _ Kp.refl
  case int => obtain ⟨t, rfl⟩ := r; exact q _ Kp.refl
  case str => obtain ⟨t, rfl⟩ := r; exact q _ Kp.refl
  case tup => obtain ⟨a, _, rfl, _⟩ := r; exact q _ Kp.refl
  case lst => obtain ⟨a, _, rfl, _⟩ := r; exact q _ Kp.refl
  case obj => obtain ⟨a, _, _, _, rfl, _⟩ := r; exact q _ Kp.refl
  case ptr => subst r; exact q _ Kp.refl
/-- a bool's own truth -/
theorem TR.plain {e : Expr} {b : Bool} (h : EV c k nl ρ μ e (.bool b)) (he : ∀ (env : Env) (whole : Sem Value), isTrue e env whole = (do let v ← whole; standAt e.pos; holding [v] (truthy v)) := by with_unfolding_all (intros; rfl)) : TR c k nl ρ μ e b := fun a q =>
  isTrue_plain (h a fun v s' k1 r => by rw [r.bool_inv]; exact wpAny_truthy_bool (q _ k1)) (he _ _)
theorem TR.not {e : Expr} {pos : Pos} {b : Bool} (h : TR c k nl ρ μ e b) : TR c k nl ρ μ (.UnaryOp .Not e pos) (!b) := fun a q => isTrue_not (h a fun s' k1 => q _ k1)
theorem TR.and_nil {pos : Pos} : TR c k nl ρ μ (.BoolOp .And [] pos) true := fun a q => isTrue_and_nil (q _ Kp.refl)
theorem TR.or_nil {pos : Pos} : TR c k nl ρ μ (.BoolOp .Or [] pos) false := fun a q => isTrue_or_nil (q _ Kp.refl)
theorem TR.and {e : Expr} {es : List Expr} {pos : Pos} {b b' : Bool} (h : TR c k nl ρ μ e b) (h' : b = true → TR c k nl ρ μ (.BoolOp .And es pos) b') : TR c k nl ρ μ (.BoolOp .And (e :: es) pos) (b && b') := fun a q =>
  isTrue_and (h a fun s' k1 => by
    cases b with
    | false => exact q _ k1
    | true => rw [if_pos rfl]; rw [Bool.true_and] at q; exact h' rfl (a.kp k1) fun s'' k2 => q _ (k1.trans k2))
theorem TR.or {e : Expr} {es : List Expr} {pos : Pos} {b b' : Bool} (h : TR c k nl ρ μ e b) (h' : b = false → TR c k nl ρ μ (.BoolOp .Or es pos) b') : TR c k nl ρ μ (.BoolOp .Or (e :: es) pos) (b || b') := fun a q =>
  isTrue_or (h a fun s' k1 => by
    cases b with
    | true => exact q _ k1
    | false => rw [if_neg (by decide)]; rw [Bool.false_or] at q; exact h' rfl (a.kp k1) fun s'' k2 => q _ (k1.trans k2))
theorem EV.not {e : Expr} {pos : Pos} {b : Bool} (h : EV c k nl ρ μ e (.bool b)) : EV c k nl ρ μ (.UnaryOp .Not e pos) (.bool (!b)) := fun a q =>
  UnaryOp_ (h a fun v s' k1 r => by rw [r.bool_inv]; exact not_of (wpAny_truthy_bool (q _ _ k1 Rep.bool_mk)))
theorem EV.neg {e : Expr} {pos : Pos} {i : Int} (h : EV c k nl ρ μ e (.int i)) : EV c k nl ρ μ (.UnaryOp .USub e pos) (.int (-i)) := fun a q =>
  UnaryOp_ (h a fun v s' k1 r => by obtain ⟨t, rfl⟩ := r.int_inv; exact PyProof.Rows.neg_int (q _ _ (k1.trans Kp.toks) Rep.int_mk))
theorem EV.one {e : Expr} {op : BoolOp} {pos : Pos} {d : D} (h : EV c k nl ρ μ e d) : EV c k nl ρ μ (.BoolOp op [e] pos) d := fun a q => BoolOp_one (h a q)
theorem EV.and {e e' : Expr} {es : List Expr} {pos : Pos} {b b' : Bool} (h : EV c k nl ρ μ e (.bool b)) (h' : b = true → EV c k nl ρ μ (.BoolOp .And (e' :: es) pos) (.bool b')) : EV c k nl ρ μ (.BoolOp .And (e :: e' :: es) pos) (.bool (b && b')) := fun a q =>
  BoolOp_and (h a fun v s' k1 r => by
    rw [r.bool_inv]
    refine wpAny_truthy_bool ?_
    cases b with
    | false => exact q _ _ k1 Rep.bool_mk
    | true => rw [if_pos rfl]; rw [Bool.true_and] at q; exact h' rfl (a.kp k1) fun v' s'' k2 r' => q _ _ (k1.trans k2) r')
theorem EV.or {e e' : Expr} {es : List Expr} {pos : Pos} {b b' : Bool} (h : EV c k nl ρ μ e (.bool b)) (h' : b = false → EV c k nl ρ μ (.BoolOp .Or (e' :: es) pos) (.bool b')) : EV c k nl ρ μ (.BoolOp .Or (e :: e' :: es) pos) (.bool (b || b')) := fun a q =>
  BoolOp_or (h a fun v s' k1 r => by
    rw [r.bool_inv]
    refine wpAny_truthy_bool ?_
    cases b with
    | true => exact q _ _ k1 Rep.bool_mk
    | false => rw [if_neg (by decide)]; rw [Bool.false_or] at q; exact h' rfl (a.kp k1) fun v' s'' k2 r' => q _ _ (k1.trans k2) r')
theorem EV.ite {t x y : Expr} {pos : Pos} {b : Bool} {d d' : D} (h : TR c k nl ρ μ t b) (h1 : b = true → EV c k nl ρ μ x d) (h2 : b = false → EV c k nl ρ μ y d') : EV c k nl ρ μ (.IfExp t x y pos) (if b then d else d') := fun a q =>
  IfExp_ (h a fun s' k1 => by
    cases b with
    | true => rw [if_pos rfl]; exact h1 rfl (a.kp k1) fun v' s'' k2 r' => q _ _ (k1.trans k2) (by rw [if_pos rfl]; exact r')
    | false => rw [if_neg (by decide)]; exact h2 rfl (a.kp k1) fun v' s'' k2 r' => q _ _ (k1.trans k2) (by rw [if_neg (by decide)]; exact r'))
theorem Live.fresh {S : Addr → Prop} {h : Heap} (l : Live c S h) : ¬ S h.objs.size := fun q => by
  have := (l.all _ q).1
  obtain ⟨o, e⟩ := Option.isSome_iff_exists.mp this
  exact Nat.lt_irrefl _ (Heap.lt_size e)
theorem Rep.push {S : Addr → Prop} {h : Heap} {d : D} {v : Value} (r : Rep S h d v) (o : Obj) : Rep S (h.push o) d v := Rep.mono (fun a o' _ e => Heap.get?_push_of_some _ e) (fun _ n _ => n) r
theorem Reps.push {S : Addr → Prop} {h : Heap} {d : List D} {v : List Value} (r : Reps S h d v) (o : Obj) : Reps S (h.push o) d v := Reps.mono (fun a o' _ e => Heap.get?_push_of_some _ e) (fun _ n _ => n) r
theorem Reps.length {S : Addr → Prop} {h : Heap} : ∀ {ds : List D} {vs : List Value}, Reps S h ds vs → vs.length = ds.length
  | [], vs, r => by simp only [Reps] at r; subst r; rfl
  | d :: ds, vs, r => by simp only [Reps] at r; obtain ⟨v, q, rfl, _, r⟩ := r; simp only [List.length_cons, Reps.length r]
theorem Kp.push {X : Addr → Prop} {s : Shared} {o : Obj} {t : Nat} : Kp X s { s with heap := s.heap.push o, toks := t } := Kp.heap fun b o' e => Heap.get?_push_of_some _ e
theorem newTuple_ {A : Around} {S : Addr → Prop} {s : Shared} {vs : List Value} {ds : List D} {Q : Value → Shared → Prop} {E : Value → Shared → Prop} {M : Model} (l : Live c S s.heap) (r : Reps S s.heap ds vs) (hsz : ds.length ≤ sizeLine) (q : Sim c S s (.tup ds) Q) : wpAny M A (newTuple vs) Q E s := by
  refine wpAny_newObj_type (q _ _ (Kp.push (t := s.toks)) ?_) (by show vs.toArray.size ≤ sizeLine; rw [List.size_toArray, r.length]; exact hsz)
  simp only [Rep]
  exact ⟨_, vs, rfl, l.fresh, ⟨_, Heap.get?_push_size _ rfl, rfl, _, rfl⟩, r.push _⟩
theorem newList_ {A : Around} {S : Addr → Prop} {s : Shared} {vs : List Value} {ds : List D} {Q : Value → Shared → Prop} {E : Value → Shared → Prop} {M : Model} (l : Live c S s.heap) (r : Reps S s.heap ds vs) (hsz : ds.length ≤ sizeLine) (q : Sim c S s (.lst ds) Q) : wpAny M A (newList vs) Q E s := by
  refine wpAny_newObj_type (q _ _ (Kp.push (t := s.toks)) ?_) (by show vs.toArray.size ≤ sizeLine; rw [List.size_toArray, r.length]; exact hsz)
  simp only [Rep]
  exact ⟨_, vs, rfl, l.fresh, ⟨_, Heap.get?_push_size _ rfl, rfl, _, rfl⟩, r.push _⟩
theorem EV.tuple {es : List Expr} {n : Nat} {pos : Pos} {ds : List D} (h : EVs c k nl ρ μ es ds) (hsz : ds.length ≤ sizeLine := by exact Nat.le_of_ble_eq_true (by with_unfolding_all rfl)) : EV c k nl ρ μ (.Tuple es n pos) (.tup ds) := fun a q =>
  PyProof.Rows.Tuple_ (h a fun vs s' k1 r => newTuple_ (a.kp k1).live r hsz fun _ _ k2 r2 => q _ _ (k1.trans k2) r2)
theorem EV.list {es : List Expr} {pos : Pos} {ds : List D} (h : EVs c k nl ρ μ es ds) (hsz : ds.length ≤ sizeLine := by exact Nat.le_of_ble_eq_true (by with_unfolding_all rfl)) : EV c k nl ρ μ (.List es pos) (.lst ds) := fun a q =>
  PyProof.Rows.List_ (h a fun vs s' k1 r => newList_ (a.kp k1).live r hsz fun _ _ k2 r2 => q _ _ (k1.trans k2) r2)
/-- a def, called: what it gives back -/
noncomputable def FN (c : Cx) (k : Nat) (f : Value) (ds : List D) (d : D) : Prop :=
  ∀ {A : Around} {S : Addr → Prop} {s : Shared} {vs : List Value} {R : Result → Shared → Prop}, Room (k + 1) A → Live c S s.heap → c.In s.heap → Reps S s.heap ds vs → (∀ v s', Kp No s s' → Rep S s'.heap d v → R (.ok (.ret v)) s') →
    codeAny (model c.prog c.w) A (.call f ⟨vs, []⟩) R s
theorem FN.call {f : Value} {ds : List D} {d : D} (h : FN c k f ds d) {A : Around} {S : Addr → Prop} {s : Shared} {vs : List Value} {Q : Value → Shared → Prop} {E : Value → Shared → Prop} (ro : Room (k + 1) A) (l : Live c S s.heap) (i : c.In s.heap) (r : Reps S s.heap ds vs) (q : Sim c S s d Q) :
    wpAny (model c.prog c.w) A (call f vs) Q E s := wpAny_call (h ro l i r q)
theorem Reps.append {S : Addr → Prop} {h : Heap} : ∀ {fd ds : List D} {xs ys : List Value}, Reps S h fd xs → Reps S h ds ys → Reps S h (fd ++ ds) (xs ++ ys)
  | [], ds, xs, ys, r, r' => by simp only [Reps] at r; subst r; exact r'
  | d :: fd, ds, xs, ys, r, r' => by simp only [Reps] at r; obtain ⟨v, w, rfl, x, r⟩ := r; simp only [List.cons_append, Reps]; exact ⟨v, _, rfl, x, Reps.append r r'⟩
theorem backTo_plain {pos : Pos} {env : Env} : ∀ (es : List Expr), es.all plainExpr = true → (backTo pos (starEach es env)).any (·.1) = false
  | [], _ => rfl
  | e :: es, h => by
    have h' : plainExpr e = true ∧ es.all plainExpr = true := by simpa using h
    rw [starEach_plain h'.1]
    show (false || (backTo pos (starEach es env)).any (·.1)) = false
    rw [backTo_plain es h'.2]; rfl
theorem callK {A : Around} {env : Env} {S : Addr → Prop} {s : Shared} {pos : Pos} {f : Value} {first : List Value} {fd ds : List D} {e : Expr} {es : List Expr} {d : D} {j : Nat} {Q : Value → Shared → Prop} {E : Value → Shared → Prop} (a : At c k nl ρ μ A env S s) (hk : keepIn c.K f = true)
    (r1 : Reps S s.heap fd first) (h : EVs c k nl ρ μ (e :: es) ds) (g : FN c j f (fd ++ ds) d) (hj : j ≤ k) (q : Sim c S s d Q) (hp : plainExpr e = true) (hps : es.all plainExpr = true) : wpAny (model c.prog c.w) A (callWith pos f first (backTo pos (starEach (e :: es) env)) []) Q E s := by
  refine callWith_K a.inn.k hk (h a fun vs s' k1 r2 => ⟨(a.kp k1).inn.k, ?_⟩) (starEach_plain hp) (backTo_plain es hps)
  exact g.call (a.room.mono (by lia)) (a.kp k1).live (a.kp k1).inn ((Reps.kp a.live.blt (fun _ q => q.elim) k1 r1).append r2) fun v t k2 r => q _ _ (k1.trans k2) r
/-- a name of the top's that is called: what it gives back -/
noncomputable def GF (c : Cx) (x : Str) (k : Nat) (ds : List D) (d : D) : Prop := ∃ f, c.mg x = some f ∧ keepIn c.K f = true ∧ FN c k f ds d
/-- a def or a class of the top's, called by its name -/
theorem EV.call {x : Str} {p pos : Pos} {e : Expr} {es : List Expr} {ds : List D} {d : D} {j : Nat} (hx : (x, NameKind.globalImplicit) ∈ nl) (h : EVs c k nl ρ μ (e :: es) ds) (g : GF c x j ds d)
    (hj : j ≤ k := by decide) (hp : plainExpr e = true := by with_unfolding_all rfl) (hps : es.all plainExpr = true := by with_unfolding_all rfl) : EV c k nl ρ μ (.Call (.Name x p) (e :: es) [] pos) d := fun a q =>
  let ⟨_, hv, hk, g⟩ := g
  Call_ (Glo.load a hx hv (callK (fd := []) a hk (by simp [Reps]) h g hj q hp hps))
/-- an object's attribute -/
structure AttrOk (c : Cx) (C : Addr) (x : Str) : Prop where
  ga : findIn c.K (.ref C) "__getattribute__" = some (some (.builtin "object.__getattribute__"))
  hd : hasDictIn c.K C = true
  cls : ∃ attr, findIn c.K (.ref C) x = some attr ∧ noGet c.K attr = true
inductive FieldAt (x : Str) (d : D) : List Str → List D → Prop
  | here {ns ds} : FieldAt x d (x :: ns) (d :: ds)
  | there {n e ns ds} : n ≠ x → FieldAt x d ns ds → FieldAt x d (n :: ns) (e :: ds)
theorem FieldAt.get {x : Str} {d : D} {S : Addr → Prop} {h : Heap} : ∀ {ns : List Str} {ds : List D} {es : List DictEntry}, FieldAt x d ns ds → keysAre es ns → Reps S h ds (es.map (·.val)) → ∃ v, getL x es = some (some v) ∧ Rep S h d v
  | _, _, [], .here, k, _ => k.elim
  | _, _, [], .there _ _, k, _ => k.elim
  | _, _, e :: es, .here, k, r => by
    obtain ⟨⟨t, hk⟩, _⟩ := k
    simp only [List.map_cons, Reps] at r
    obtain ⟨v, q, e1, r, _⟩ := r
    cases e1
    exact ⟨e.val, by unfold getL; rw [List.find?_cons_of_pos (by rw [hk]; exact beq_self_eq_true _)], r⟩
  | _, _, e :: es, .there hn f, k, r => by
    obtain ⟨⟨t, hk⟩, ks⟩ := k
    simp only [List.map_cons, Reps] at r
    obtain ⟨v, q, e1, _, r⟩ := r
    cases e1
    obtain ⟨u, g, r⟩ := f.get ks r
    refine ⟨u, ?_, r⟩
    have nk : e.key.isStr x = false := by rw [hk]; exact beq_eq_false_iff_ne.mpr hn
    unfold getL at g ⊢
    rw [List.find?_cons_of_neg (by rw [nk]; decide)]
    split at g
    · exact g
    · split at g <;> cases g
theorem handedIn_rep {S : Addr → Prop} {h : Heap} {d : D} {v : Value} (r : Rep S h d v) : handedIn v = true := by
  cases d <;> simp only [Rep] at r
  case none => subst r; rfl
  case bool => subst r; rfl
  case int => obtain ⟨t, rfl⟩ := r; rfl
  case str => obtain ⟨t, rfl⟩ := r; rfl
  case tup => obtain ⟨a, _, rfl, _⟩ := r; rfl
  case lst => obtain ⟨a, _, rfl, _⟩ := r; rfl
  case obj => obtain ⟨a, _, _, _, rfl, _⟩ := r; rfl
  case ptr => subst r; rfl
theorem Rep.inst {S : Addr → Prop} {h : Heap} {C : Addr} {ns : List Str} {ds : List D} {v : Value} (r : Rep S h (.obj C ns ds) v) : ∃ a da es n, v = .ref a ∧ InstAt h a (instObj C da) C (some (dictOf es n)) ∧ keysAre es ns ∧ Reps S h ds (es.map (·.val)) := by
  simp only [Rep] at r
  obtain ⟨a, da, es, n, e, _, _, g, g', ks, rs⟩ := r
  exact ⟨a, da, es, n, e, ⟨g, rfl, rfl, g'⟩, ks, rs⟩
theorem EV.attr {y x : Str} {p pos : Pos} {C : Addr} {ns : List Str} {ds : List D} {d : D} (h : EV c k nl ρ μ (.Name y p) (.obj C ns ds)) (ok : AttrOk c C x) (f : FieldAt x d ns ds) : EV c k nl ρ μ (.Attribute (.Name y p) x pos) d := fun a q =>
  Attribute_name (h a fun v s' k1 r => by
    obtain ⟨b, da, es, n, rfl, I, ks, rs⟩ := r.inst
    obtain ⟨u, g, r'⟩ := f.get ks rs
    obtain ⟨attr, h1, h2⟩ := ok.cls
    exact get_value (a.kp k1).inn.k I ok.ga (findObj_own ok.hd h1 h2 g) (handedIn_rep r') (q _ _ (k1.trans Kp.toks) r'))
/-- an attribute of the object in the making -/
theorem EV.attrM {y x : Str} {p pos : Pos} {a da C : Addr} {ns : List Str} {ds : List D} {d : D} (h : (y, some (.ptr a)) ∈ ρ) (ok : AttrOk c C x) (f : FieldAt x d ns ds) : EV c k nl ρ (.obj a da C ns ds) (.Attribute (.Name y p) x pos) d := fun At q =>
  Attribute_name (EV.name h At fun v s' k1 r => by
    have e : v = .ref a := by simpa [Rep] using r
    subst e
    obtain ⟨ne, es, n, g, g', ks, rs⟩ := (At.kp k1).mu
    obtain ⟨u, g2, r'⟩ := f.get ks rs
    obtain ⟨attr, h1, h2⟩ := ok.cls
    exact get_value (At.kp k1).inn.k (ox := instObj C da) (od := some (dictOf es n)) ⟨g, rfl, rfl, g'⟩ ok.ga (findObj_own ok.hd h1 h2 g2) (handedIn_rep r') (q _ _ (k1.trans Kp.toks) r'))
/-- an object's method, called -/
structure MethOk (c : Cx) (C : Addr) (x : Str) (f : Addr) : Prop where
  ga : findIn c.K (.ref C) "__getattribute__" = some (some (.builtin "object.__getattribute__"))
  gt : findIn c.K (.ref C) "__getattr__" = some none
  at_ : findIn c.K (.ref C) x = some (some (.ref f))
  fn : typeIn c.K (.ref f) = some (.type "function")
  keep : keepIn c.K (.ref f) = true
theorem not_in {x : Str} : ∀ {ns : List Str} {es : List DictEntry}, x ∉ ns → keysAre es ns → shadowIn (some (dictOf es n)) x = some false := by
  intro ns es hn ks
  have h : es.find? (·.key.isStr x) = none ∧ es.any (·.refKey) = false := by
    induction es generalizing ns with
    | nil => exact ⟨rfl, rfl⟩
    | cons e es ih =>
      cases ns with
      | nil => exact ks.elim
      | cons m ns =>
        obtain ⟨⟨t, hk⟩, ks⟩ := ks
        have hm : x ≠ m ∧ x ∉ ns := by simpa using hn
        obtain ⟨i1, i2⟩ := ih hm.2 ks
        have nk : e.key.isStr x = false := by rw [hk]; exact beq_eq_false_iff_ne.mpr (Ne.symm hm.1)
        exact ⟨by rw [List.find?_cons_of_neg (by rw [nk]; decide)]; exact i1, by rw [List.any_cons, i2]; simp [DictEntry.refKey, hk]⟩
  show (lookIn x (dictOf es n)).map _ = _
  rw [lookIn_dict]
  unfold getL
  rw [h.1, h.2]
  rfl
noncomputable def MethForm (o : Expr) (x : Str) (apos pos : Pos) (es : List Expr) : Prop := ∀ env : Env, eval (.Call (.Attribute o x apos) es [] pos) env = (do
      let ov ← eval o env
      standAt apos.atName
      let (f, first) ← holding [ov] (getMethod ov x (do return (← importBound o env).getD true))
      callWith pos f first (backTo pos (starEach es env)) [])
theorem EV.meth {y x : Str} {p apos pos : Pos} {e : Expr} {es : List Expr} {C : Addr} {ns : List Str} {ds os : List D} {d : D} {f : Addr} {j : Nat} (h : EV c k nl ρ μ (.Name y p) (.obj C ns os)) (ok : MethOk c C x f) (hn : x ∉ ns) (hs : EVs c k nl ρ μ (e :: es) ds)
    (g : FN c j (.ref f) (.obj C ns os :: ds) d) (hj : j ≤ k := by decide) (hp : plainExpr e = true := by with_unfolding_all rfl) (hps : es.all plainExpr = true := by with_unfolding_all rfl) (he : MethForm (.Name y p) x apos pos (e :: es) := by with_unfolding_all (intro _; rfl)) : EV c k nl ρ μ (.Call (.Attribute (.Name y p) x apos) (e :: es) [] pos) d := fun a q =>
  MethodCall_ (he := he _) (h a fun v s' k1 r => by
    have r0 := r
    obtain ⟨b, da, dd, n, rfl, I, ks, rs⟩ := r.inst
    exact method_fn (a.kp k1).inn.k I ok.ga ok.gt ok.at_ ok.fn (not_in hn ks) (callK (fd := [.obj C ns os]) (a.kp k1) ok.keep (by simp only [Reps]; exact ⟨_, _, rfl, r0, rfl⟩) hs g hj (fun v t k2 r => q _ _ (k1.trans k2) r) hp hps))
end
end Mine
end
section
-- A3
open PySem PySem.W PyProof.Rows
set_option Elab.async false
set_option linter.all false
set_option maxRecDepth 100000
namespace Mine
section
variable {c : Cx} {k : Nat} {nl : NL} {ρ : Names} {μ : Mu}
/-- a built-in (a function or a type), called -/
noncomputable def BCall (c : Cx) (f : Value) (ds : List D) (d : D) : Prop :=
  ∀ {A : Around} {S : Addr → Prop} {s : Shared} {vs : List Value} {Q : Value → Shared → Prop} {E : Value → Shared → Prop}, Room 1 A → Live c S s.heap → c.In s.heap → Reps S s.heap ds vs → Sim c S s d Q →
    wpAny (model c.prog c.w) A (call f vs) Q E s
theorem EV.blt {x : Str} {p pos : Pos} {e : Expr} {es : List Expr} {id : String} {ds : List D} {d : D} (hx : (x, NameKind.globalImplicit) ∈ nl) (hm : c.mg x = .none) (hv : bootBuiltins x = some (.builtin id)) (h : EVs c k nl ρ μ (e :: es) ds) (g : BCall c (.builtin id) ds d)
    (hp : plainExpr e = true := by with_unfolding_all rfl) (hps : es.all plainExpr = true := by with_unfolding_all rfl) : EV c k nl ρ μ (.Call (.Name x p) (e :: es) [] pos) d := fun a q =>
  Call_ (Blt.load a hx hm hv (PyProof.Rows.callWith_builtin1 (h a fun vs s' k1 r => g a.room1 (a.kp k1).live (a.kp k1).inn r fun v t k2 r => q _ _ (k1.trans k2) r) (starEach_plain hp) (backTo_plain es hps)))
theorem EV.typ {x : Str} {p pos : Pos} {e : Expr} {es : List Expr} {T : String} {ds : List D} {d : D} (hx : (x, NameKind.globalImplicit) ∈ nl) (hm : c.mg x = .none) (hv : bootBuiltins x = some (.type T)) (h : EVs c k nl ρ μ (e :: es) ds) (g : BCall c (.type T) ds d)
    (hp : plainExpr e = true := by with_unfolding_all rfl) (hps : es.all plainExpr = true := by with_unfolding_all rfl) : EV c k nl ρ μ (.Call (.Name x p) (e :: es) [] pos) d := fun a q =>
  Call_ (Blt.load a hx hm hv (PyProof.Rows.callWith_type1 (h a fun vs s' k1 r => g a.room1 (a.kp k1).live (a.kp k1).inn r fun v t k2 r => q _ _ (k1.trans k2) r) (starEach_plain hp) (backTo_plain es hps)))
theorem Reps.one {S : Addr → Prop} {h : Heap} {d : D} {vs : List Value} (r : Reps S h [d] vs) : ∃ v, vs = [v] ∧ Rep S h d v := by
  simp only [Reps] at r; obtain ⟨v, q, rfl, x, rfl⟩ := r; exact ⟨v, rfl, x⟩
theorem Reps.two {S : Addr → Prop} {h : Heap} {d e : D} {vs : List Value} (r : Reps S h [d, e] vs) : ∃ v u, vs = [v, u] ∧ Rep S h d v ∧ Rep S h e u := by
  simp only [Reps] at r; obtain ⟨v, q, rfl, x, u, q', rfl, y, rfl⟩ := r; exact ⟨v, u, rfl, x, y⟩
theorem Reps.three {S : Addr → Prop} {h : Heap} {d e f : D} {vs : List Value} (r : Reps S h [d, e, f] vs) : ∃ v u w, vs = [v, u, w] ∧ Rep S h d v ∧ Rep S h e u ∧ Rep S h f w := by
  simp only [Reps] at r; obtain ⟨v, q, rfl, x, u, q', rfl, y, w, q2, rfl, z, rfl⟩ := r; exact ⟨v, u, w, rfl, x, y, z⟩
theorem Rep.list {S : Addr → Prop} {h : Heap} {l : List D} {v : Value} (r : Rep S h (.lst l) v) : ∃ a vs, v = .ref a ∧ ¬ S a ∧ h.IsList a vs.toArray ∧ Reps S h l vs := by
  simp only [Rep] at r; exact r
theorem Rep.tupl {S : Addr → Prop} {h : Heap} {l : List D} {v : Value} (r : Rep S h (.tup l) v) : ∃ a vs, v = .ref a ∧ ¬ S a ∧ IsTup h a vs.toArray ∧ Reps S h l vs := by
  simp only [Rep] at r; exact r
theorem BCall.abs {i : Int} : BCall c (.builtin "abs") [.int i] (.int (if i < 0 then -i else i)) := fun _ _ _ r q => by
  obtain ⟨v, rfl, r1⟩ := r.one; obtain ⟨t, rfl⟩ := r1.int_inv
  exact call_abs_int fun u tk => q _ _ Kp.toks Rep.int_mk
theorem BCall.max {i j : Int} : BCall c (.builtin "max") [.int i, .int j] (.int (if j > i then j else i)) := fun ro _ _ r q => by
  obtain ⟨v, u, rfl, r1, r2⟩ := r.two; obtain ⟨t, rfl⟩ := r1.int_inv; obtain ⟨t', rfl⟩ := r2.int_inv
  refine max_two_ints ro.handled fun h' tk hk => ?_
  have := fun (v : Value) r => q v _ (Kp.heap (h := h') (t := tk) hk) r
  by_cases e : j > i
  · rw [if_pos e] at this ⊢; exact this _ Rep.int_mk
  · rw [if_neg e] at this ⊢; exact this _ Rep.int_mk
theorem BCall.min {i j : Int} : BCall c (.builtin "min") [.int i, .int j] (.int (if j < i then j else i)) := fun ro _ _ r q => by
  obtain ⟨v, u, rfl, r1, r2⟩ := r.two; obtain ⟨t, rfl⟩ := r1.int_inv; obtain ⟨t', rfl⟩ := r2.int_inv
  refine min_two_ints ro.handled fun h' tk hk => ?_
  have := fun (v : Value) r => q v _ (Kp.heap (h := h') (t := tk) hk) r
  by_cases e : j < i
  · rw [if_pos e] at this ⊢; exact this _ Rep.int_mk
  · rw [if_neg e] at this ⊢; exact this _ Rep.int_mk
theorem BCall.divmod {i j : Int} (h : j ≠ 0) (hp : Builtin.divisionGoesByPylong i j = false) : BCall c (.builtin "divmod") [.int i, .int j] (.tup [.int (i.fdiv j), .int (i.fmod j)]) := fun ro l _ r q => by
  obtain ⟨v, u, rfl, r1, r2⟩ := r.two; obtain ⟨t, rfl⟩ := r1.int_inv; obtain ⟨t', rfl⟩ := r2.int_inv
  refine divmod_int h (q _ _ Kp.push ?_) (.inl hp)
  simp only [Rep, Reps]
  exact ⟨_, [_, _], rfl, l.fresh, ⟨_, Heap.get?_push_size _ rfl, rfl, _, rfl⟩, _, _, rfl, ⟨_, rfl⟩, _, _, rfl, ⟨_, rfl⟩, rfl⟩
theorem BCall.lenS {x : Str} (h : x.length < 2 ^ 63) : BCall c (.builtin "len") [.str x] (.int x.length) := fun _ _ _ r q => by
  obtain ⟨v, rfl, r1⟩ := r.one; obtain ⟨t, rfl⟩ := r1.str_inv
  exact PyProof.Rows.len_str (by lia) (q _ _ Kp.toks Rep.int_mk)
theorem BCall.lenL {l : List D} (h : l.length < 2 ^ 63) : BCall c (.builtin "len") [.lst l] (.int l.length) := fun _ _ _ r q => by
  obtain ⟨v, rfl, r1⟩ := r.one; obtain ⟨a, vs, rfl, _, r2, rs⟩ := r1.list
  refine PyProof.Rows.len_list r2 (by rw [List.size_toArray, rs.length]; lia) ?_
  rw [List.size_toArray, rs.length]
  exact q _ _ Kp.toks Rep.int_mk
theorem BCall.ofText {x : Str} {n : Int} (h : PySem.intText? x = some n) (hl : x.length ≤ 640) : BCall c (.type "int") [.str x] (.int n) := fun _ _ _ r q => by
  obtain ⟨v, rfl, r1⟩ := r.one; obtain ⟨t, rfl⟩ := r1.str_inv
  exact KIN.call_text h hl (q _ _ Kp.toks Rep.int_mk)
theorem BCall.text {i : Int} (h : i.natAbs.log2 < 1920) : BCall c (.type "str") [.int i] (.str (Str.ofString (toString i))) := fun _ _ _ r q => by
  obtain ⟨v, rfl, r1⟩ := r.one; obtain ⟨t, rfl⟩ := r1.int_inv
  exact P.str_of_int h (q _ _ Kp.toks Rep.str_mk)
/-- a str's or an int's own method -/
noncomputable def SCall (c : Cx) (v : D) (id : String) (ds : List D) (d : D) : Prop :=
  ∀ {A : Around} {S : Addr → Prop} {s : Shared} {u : Value} {vs : List Value} {Q : Value → Shared → Prop} {E : Value → Shared → Prop}, Room 1 A → Live c S s.heap → c.In s.heap → Rep S s.heap v u → Reps S s.heap ds vs → Sim c S s d Q →
    wpAny (model c.prog c.w) A (call (.builtin id) ([u] ++ vs)) Q E s
noncomputable def GetM (name : Str) (id : String) (v : D) : Prop := ∀ {M : Model} {A : Around} {E : Value → Shared → Prop} {s : Shared} {S : Addr → Prop} {u : Value} {pl : Sem Bool} {Q : Value × List Value → Shared → Prop}, Rep S s.heap v u → Q (.builtin id, [u]) s → wpAny M A (getMethod u name pl) Q E s
theorem EV.smeth {o : Expr} {x : Str} {apos pos : Pos} {e : Expr} {es : List Expr} {v d : D} {ds : List D} {id : String} (h : EV c k nl ρ μ o v) (gm : GetM x id v) (hs : EVs c k nl ρ μ (e :: es) ds) (g : SCall c v id ds d)
    (hp : plainExpr e = true := by with_unfolding_all rfl) (hps : es.all plainExpr = true := by with_unfolding_all rfl) (he : MethForm o x apos pos (e :: es) := by with_unfolding_all (intro _; rfl)) : EV c k nl ρ μ (.Call (.Attribute o x apos) (e :: es) [] pos) d := fun a q =>
  MethodCall_ (he := he _) (h a fun u s' k1 r => gm r (PyProof.Rows.callWith_method1 (hs (a.kp k1) fun vs s'' k2 r2 => g a.room1 ((a.kp k1).kp k2).live ((a.kp k1).kp k2).inn (r.kp a.live.blt (fun _ q => q.elim) k2) r2 fun v t k3 r => q _ _ ((k1.trans k2).trans k3) r) (starEach_plain hp) (backTo_plain es hps)))
theorem EV.smeth0 {o : Expr} {x : Str} {apos pos : Pos} {v d : D} {id : String} (h : EV c k nl ρ μ o v) (gm : GetM x id v) (g : SCall c v id [] d) (he : MethForm o x apos pos [] := by with_unfolding_all (intro _; rfl)) : EV c k nl ρ μ (.Call (.Attribute o x apos) [] [] pos) d := fun a q =>
  MethodCall_ (he := he _) (h a fun u s' k1 r => gm r (PyProof.Rows.callWith_method0 (g (u := u) (vs := []) a.room1 (a.kp k1).live (a.kp k1).inn r (by simp [Reps]) fun v t k3 r => q _ _ (k1.trans k3) r)))
theorem GetM.bitlen {i : Int} : GetM (Str.ofString "bit_length") "int.bit_length" (.int i) := fun r q => by obtain ⟨t, rfl⟩ := r.int_inv; with_reducible refine getMethod_int_bit_length ?_; exact q
theorem SCall.bitlen {i : Int} : SCall c (.int i) "int.bit_length" [] (.int (Builtin.Int.intBits i)) := fun _ _ _ r r' q => by
  obtain ⟨t, rfl⟩ := r.int_inv; simp only [Reps] at r'; subst r'
  exact call_int_bit_length (q _ _ Kp.toks Rep.int_mk)
theorem GetM.rstrip {x : Str} : GetM (Str.ofString "rstrip") "str.rstrip" (.str x) := fun r q => by obtain ⟨t, rfl⟩ := r.str_inv; with_reducible refine GM.rstrip ?_; exact q
theorem GetM.strip {x : Str} : GetM (Str.ofString "strip") "str.strip" (.str x) := fun r q => by obtain ⟨t, rfl⟩ := r.str_inv; with_reducible refine GM.strip ?_; exact q
theorem GetM.lower {x : Str} : GetM (Str.ofString "lower") "str.lower" (.str x) := fun r q => by obtain ⟨t, rfl⟩ := r.str_inv; with_reducible refine GM.lower ?_; exact q
theorem GetM.split {x : Str} : GetM (Str.ofString "split") "str.split" (.str x) := fun r q => by obtain ⟨t, rfl⟩ := r.str_inv; with_reducible refine GM.split ?_; exact q
theorem GetM.join {x : Str} : GetM (Str.ofString "join") "str.join" (.str x) := fun r q => by obtain ⟨t, rfl⟩ := r.str_inv; with_reducible refine GM.join ?_; exact q
theorem GetM.index {x : Str} : GetM (Str.ofString "index") "str.index" (.str x) := fun r q => by obtain ⟨t, rfl⟩ := r.str_inv; with_reducible refine GM.index ?_; exact q
theorem GetM.replace {x : Str} : GetM (Str.ofString "replace") "str.replace" (.str x) := fun r q => by obtain ⟨t, rfl⟩ := r.str_inv; with_reducible refine GM.replace ?_; exact q
theorem SCall.rstrip {x y : Str} (h : x.length ≤ sizeLine) : SCall c (.str x) "str.rstrip" [.str y] (.str (Txt.rstripChars x y)) := fun _ _ _ r r' q => by
  obtain ⟨t, rfl⟩ := r.str_inv; obtain ⟨v, rfl, r2⟩ := r'.one; obtain ⟨t', rfl⟩ := r2.str_inv
  exact SC.rstripChars (fun t' k => q _ _ Kp.toks Rep.str_mk) h
theorem SCall.strip {x y : Str} (h : x.length ≤ sizeLine) : SCall c (.str x) "str.strip" [.str y] (.str (Txt.stripChars x y)) := fun _ _ _ r r' q => by
  obtain ⟨t, rfl⟩ := r.str_inv; obtain ⟨v, rfl, r2⟩ := r'.one; obtain ⟨t', rfl⟩ := r2.str_inv
  exact SC.stripChars (fun t' k => q _ _ Kp.toks Rep.str_mk) h
theorem SCall.lower {x : Str} (h : Builtin.Str.tooLong (Txt.lower x).length = false) : SCall c (.str x) "str.lower" [] (.str (Txt.lower x)) := fun _ _ _ r r' q => by
  obtain ⟨t, rfl⟩ := r.str_inv; simp only [Reps] at r'; subst r'
  exact SC.lower h (q _ _ Kp.toks Rep.str_mk)
theorem SCall.index {x y : Str} {i : Nat} {rest : List Nat} (h : Builtin.Str.occurrences x y 0 x.length 1 = i :: rest) : SCall c (.str x) "str.index" [.str y] (.int i) := fun _ _ _ r r' q => by
  obtain ⟨t, rfl⟩ := r.str_inv; obtain ⟨v, rfl, r2⟩ := r'.one; obtain ⟨t', rfl⟩ := r2.str_inv
  exact SC.index h (q _ _ Kp.toks Rep.int_mk)
/-- only where nothing is found -/
theorem SCall.replace {x y z : Str} (h : (Builtin.Str.occurrences x y 0 x.length (x.length + 1)).isEmpty = true) : SCall c (.str x) "str.replace" [.str y, .str z] (.str x) := fun _ _ _ r r' q => by
  obtain ⟨t, rfl⟩ := r.str_inv; obtain ⟨v, w, rfl, r1, r2⟩ := r'.two; obtain ⟨t', rfl⟩ := r1.str_inv; obtain ⟨t2, rfl⟩ := r2.str_inv
  refine call_gives F.slot_str_replace (typeIs_str _ _ _) F.entry_str_replace (F.args_str_replace_3 _ _ _) (gives_str_replace x y z t t' t2 fun e => ?_) ?_
  · rw [h] at e; cases e
  · rw [if_pos (by rw [h]; rfl)]
    exact q _ _ Kp.refl Rep.str_mk
noncomputable def txts (l : List Str) : List D := l.map .str
theorem strValues_rep {S : Addr → Prop} {h : Heap} : ∀ (l : List (Str × Tok)), Reps S h (txts (l.map (·.1))) (strValues l)
  | [] => by simp [txts, Reps, strValues]
  | p :: l => by
    show Reps S h (.str p.1 :: txts (l.map (·.1))) (.str p.1 p.2 :: strValues l)
    simp only [Reps]
    exact ⟨_, _, rfl, Rep.str_mk, strValues_rep l⟩
theorem rep_strValues {S : Addr → Prop} {h : Heap} : ∀ {l : List Str} {vs : List Value}, Reps S h (txts l) vs → ∃ ps : List (Str × Tok), vs = strValues ps ∧ ps.map (·.1) = l
  | [], vs, r => by simp only [txts, List.map_nil, Reps] at r; subst r; exact ⟨[], rfl, rfl⟩
  | x :: l, vs, r => by
    simp only [txts, List.map_cons, Reps] at r
    obtain ⟨v, q, rfl, x, r⟩ := r
    obtain ⟨t, rfl⟩ := x.str_inv
    obtain ⟨ps, rfl, e⟩ := rep_strValues r
    exact ⟨(_, t) :: ps, rfl, by rw [List.map_cons, e]⟩
theorem SCall.split {x y : Str} (hy : (y.length == 0) = false) (h : x.length ≤ sizeLine) (h2 : (Builtin.Str.partsBetween x (Builtin.Str.occurrences x y 0 x.length (x.length + 1)) y.length).length ≤ sizeLine) : SCall c (.str x) "str.split" [.str y] (.lst (txts (Txt.split x y))) := fun {A S s u vs Q E} _ l _ r r' q => by
  obtain ⟨t, rfl⟩ := r.str_inv; obtain ⟨v, rfl, r2⟩ := r'.one; obtain ⟨t', rfl⟩ := r2.str_inv
  have fin : ∀ (ps : List (Str × Tok)) (k : Nat), ps.map (·.1) = Txt.split x y → Q (.ref s.heap.objs.size) { s with toks := k, heap := s.heap.push { cls := .type "list", data := .seq (strValues ps).toArray } } := fun ps k e => by
    refine q _ _ Kp.push ?_
    simp only [Rep]
    exact ⟨_, strValues ps, rfl, l.fresh, ⟨_, Heap.get?_push_size _ rfl, rfl, _, rfl⟩, by rw [← e]; exact strValues_rep ps⟩
  cases h1 : (decide (x.length < y.length) || decide (Builtin.Str.strKind x < Builtin.Str.strKind y))
  · cases hf : (Builtin.Str.occurrences x y 0 x.length (x.length + 1)).isEmpty
    · refine call_meets F.slot_str_split (typeIs_str _ _ _) F.entry_str_split (F.args_str_split_2 _ _) (meets_str_split_sep x y t t' h1 hy hf h h2) ?_
      show wants Q E _ { s with toks := _, heap := s.heap.push { cls := .type "list", data := .seq (strsFrom s.toks (Builtin.Str.partsBetween x (Builtin.Str.occurrences x y 0 x.length (x.length + 1)) y.length)).toArray } }
      rw [strsFrom_eq]
      exact fin (numbered s.toks _) _ ((numbered_texts _ _).trans ((if_neg (ne_true_of_eq_false h1)).trans (if_neg (ne_true_of_eq_false hf))).symm)
    · exact call_meets F.slot_str_split (typeIs_str _ _ _) F.entry_str_split (F.args_str_split_2 _ _) (meets_str_split_not_found x y t t' h1 hy hf) (fin [(x, t)] _ ((if_neg (ne_true_of_eq_false h1)).trans (if_pos hf)).symm)
  · exact call_meets F.slot_str_split (typeIs_str _ _ _) F.entry_str_split (F.args_str_split_2 _ _) (meets_str_split_cannot_occur x y t t' h1) (fin [(x, t)] _ (if_pos h1).symm)
theorem SCall.join {x : Str} {l : List Str} (h : JoinOk x l = true) : SCall c (.str x) "str.join" [.lst (txts l)] (.str (Txt.join x l)) := fun _ _ _ r r' q => by
  obtain ⟨t, rfl⟩ := r.str_inv; obtain ⟨v, rfl, r1⟩ := r'.one; obtain ⟨a, vs, rfl, _, r2, rs⟩ := r1.list
  obtain ⟨ps, rfl, e⟩ := rep_strValues rs
  exact SC.join r2 e h fun t' k => q _ _ Kp.toks Rep.str_mk
end
end Mine
end
section
-- A4
open PySem PySem.W PyProof.Rows
set_option Elab.async false
set_option linter.all false
set_option maxRecDepth 100000
namespace Mine
/-- a string's signs, compared by their numbers -/
noncomputable def sq (a b : Str) : Bool := go a.cps.toList b.cps.toList
where go : List Nat → List Nat → Bool
  | [], [] => true
  | a :: l, b :: r => Nat.beq a b && go l r
  | _, _ => false
theorem sq_iff {a b : Str} : sq a b = true ↔ a = b := by
  have : ∀ l r : List Nat, sq.go l r = true ↔ l = r := by
    intro l
    induction l with
    | nil => intro r; cases r <;> simp [sq.go]
    | cons a l ih =>
      intro r
      cases r with
      | nil => simp [sq.go]
      | cons b r => simp only [sq.go, Bool.and_eq_true, ih, List.cons.injEq]; rw [show (Nat.beq a b = true) = (a = b) from propext ⟨Nat.eq_of_beq_eq_true, fun e => e ▸ Nat.beq_refl a⟩]
  unfold sq
  rw [this]
  constructor
  · intro h; cases a; cases b; simp only [Str.mk.injEq]; exact Array.toList_inj.mp h
  · rintro rfl; rfl
noncomputable def fresh (a : Str) : List Str → Bool
  | [] => true
  | b :: l => !sq a b && fresh a l
noncomputable def allFresh : List Str → Bool
  | [] => true
  | a :: l => fresh a l && allFresh l
theorem fresh_iff {a : Str} : ∀ {l : List Str}, fresh a l = true → a ∉ l
  | [], _ => by simp
  | b :: l, h => by
    simp only [fresh, Bool.and_eq_true, Bool.not_eq_true'] at h
    intro q
    rcases List.mem_cons.mp q with e | q
    · have := sq_iff.mpr e; rw [h.1] at this; cases this
    · exact fresh_iff h.2 q
theorem allFresh_nodup : ∀ {l : List Str}, allFresh l = true → l.Nodup
  | [], _ => .nil
  | a :: l, h => by
    simp only [allFresh, Bool.and_eq_true] at h
    exact List.nodup_cons.mpr ⟨fresh_iff h.1, allFresh_nodup h.2⟩
/-- the frame's own: its names, its cells, the one thing that it may change -/
noncomputable def Own (env : Env) (μ : Mu) (a : Addr) : Prop := a = env.locals ∨ (∃ x, env.cells.lookup x = some a) ∨ μ.has a
inductive Put (x : Str) (d : D) : Names → Names → Prop
  | here {e r} : Put x d ((x, e) :: r) ((x, some d) :: r)
  | there {p r r'} : Put x d r r' → Put x d (p :: r) (p :: r')
theorem Put.keys {x : Str} {d : D} {r r' : Names} (p : Put x d r r') : r'.map (·.1) = r.map (·.1) := by
  induction p with
  | here => rfl
  | there p ih => rw [List.map_cons, List.map_cons, ih]
theorem Put.has {x : Str} {d : D} {r r' : Names} (p : Put x d r r') : ∃ e, (x, e) ∈ r := by
  induction p with
  | here => exact ⟨_, .head _⟩
  | there p ih => obtain ⟨e, h⟩ := ih; exact ⟨e, .tail _ h⟩
theorem Put.mem {x : Str} {d : D} {r r' : Names} (p : Put x d r r') : (r.map (·.1)).Nodup → ∀ q ∈ r', q = (x, some d) ∨ (q ∈ r ∧ q.1 ≠ x) := by
  induction p with
  | here =>
    intro n q h
    rw [List.map_cons, List.nodup_cons] at n
    rcases List.mem_cons.mp h with h | h
    · exact .inl h
    · exact .inr ⟨.tail _ h, fun e => n.1 (e ▸ List.mem_map.mpr ⟨q, h, rfl⟩)⟩
  | there p ih =>
    intro n q h
    rw [List.map_cons, List.nodup_cons] at n
    rcases List.mem_cons.mp h with rfl | h
    · obtain ⟨e, he⟩ := p.has
      exact .inr ⟨.head _, fun e' => n.1 (e' ▸ List.mem_map.mpr ⟨_, he, rfl⟩)⟩
    · rcases ih n.2 q h with e | ⟨e, e'⟩
      · exact .inl e
      · exact .inr ⟨.tail _ e, e'⟩
section
variable {c : Cx} {k : Nat} {nl : NL} {ρ ρ' ρ'' ρ3 : Names} {μ μ' : Mu}
theorem Own.sub {A : Around} {env : Env} {S : Addr → Prop} {s : Shared} (a : At c k nl ρ μ A env S s) : ∀ b, Own env μ b → S b := by
  rintro b (rfl | ⟨x, e⟩ | e)
  · exact a.loc
  · exact (a.cells x b e).1
  · exact (a.muS b e).1
/-- a def's own frame: no name of another's -/
noncomputable def NoFree (env : Env) : Prop := ∀ x, env.kindOf x ≠ some .free
/-- a name is bound anew -/
theorem At.store {x : Str} {d : D} {v : Value} {A : Around} {env : Env} {S : Addr → Prop} {s : Shared} {Q : Unit → Shared → Prop} {E : Value → Shared → Prop} {M : Model} (a : At c k nl ρ μ A env S s) (nf : NoFree env)
    (P : Put x d ρ ρ') (r : Rep S s.heap d v) (q : ∀ s', Kp (Own env μ) s s' → Still (Own env μ) s s' → At c k nl ρ' μ A env S s' → Q () s') : wpAny M A (storeName env x v) Q E s := by
  obtain ⟨ex, hex⟩ := P.has
  have hfn := a.kind
  have hnd : (ρ'.map (·.1)).Nodup := by rw [P.keys]; exact a.nodup
  have hks : ∀ p ∈ ρ', env.kindOf p.1 = some .local ∨ env.kindOf p.1 = some .cell ∨ env.kindOf p.1 = some .free := fun p hp => by
    rcases P.mem a.nodup _ hp with rfl | h
    · exact a.kinds (x, ex) hex
    · exact a.kinds _ h.1
  have hkx : env.kindOf x = some .local ∨ env.kindOf x = some .cell := by
    rcases a.kinds (x, ex) hex with h | h | h
    · exact .inl h
    · exact .inr h
    · exact (nf _ h).elim
  rcases hkx with hx | hx
  · obtain ⟨m, hn⟩ := a.ns
    refine wpAny_storeName_local hx hn (fun h' hn' hs => ?_) (by rw [hfn]; rfl)
    have kp : Kp (Own env μ) s { s with heap := h', toks := s.toks + 1 } := ⟨⟨h', _, rfl⟩, fun b o nx e => (hs.2 b fun q => nx (.inl q)).trans e, fun mb e => e.sameBut hs (Ne.symm a.locb)⟩
    have st : Still (Own env μ) s { s with heap := h', toks := s.toks + 1 } := fun b _ e => by
      by_cases hb : b = env.locals
      · subst hb; obtain ⟨o, _, _, ho, _⟩ := hn'; show (h'.get? _).isSome = true; rw [ho]; rfl
      · show (h'.get? b).isSome = true; rw [hs.2 b hb]; exact e
    refine q _ kp st { room := a.room, scope := a.scope, glob := a.glob, blt := a.blt, kind := a.kind, names := a.names, dbg := a.dbg, live := a.live.kp a.inn kp st, inn := a.inn.kp a.live (Own.sub a) kp, ns := ⟨_, hn'⟩, loc := a.loc, locb := a.locb, cells := ?_, cellOne := a.cellOne, cellHas := a.cellHas, nodup := hnd, kinds := hks, rep := ?_, mu := a.mu.mono (fun b o hb e => (hs.2 b (a.muS b hb).2.2.1).trans e) (fun b o n e => (hs.2 b fun q => n (q ▸ a.loc)).trans e) (fun _ n _ => n), muS := a.muS }
    · intro y b e
      obtain ⟨h1, h2, h3, w, o, h4, h5⟩ := a.cells y b e
      exact ⟨h1, h2, h3, w, o, (hs.2 b h3).trans h4, h5⟩
    · intro y e hy
      rcases P.mem a.nodup _ hy with h | ⟨h, hne⟩
      · cases h
        exact ⟨v, .inl ⟨hx, _, hn', by simp⟩, r.kp a.live.blt (Own.sub a) kp⟩
      · obtain ⟨u, stt, ru⟩ := a.rep y e h
        refine ⟨u, ?_, ru.kp a.live.blt (Own.sub a) kp⟩
        rcases stt with ⟨h1, m', h2, h3⟩ | ⟨h1, b, h2, o, h3, h4⟩
        · refine .inl ⟨h1, _, hn', ?_⟩
          have : m' y = m y := by
            obtain ⟨o1, es1, ep1, g1, d1, _, f1⟩ := h2
            obtain ⟨o2, es2, ep2, g2, d2, _, f2⟩ := hn
            rw [g1] at g2; cases g2
            rw [d1] at d2; cases d2
            rw [← f1, ← f2]
          show (if y = x then some v else m y) = some u
          rw [if_neg hne, ← this]; exact h3
        · exact .inr ⟨h1, b, h2, o, (hs.2 b (a.cells y b h2).2.2.1).trans h3, h4⟩
  · obtain ⟨b, hb⟩ := a.cellHas x hx
    obtain ⟨b1, b2, b3, w, b4⟩ := a.cells x b hb
    refine wpAny_storeName_cell hfn hx hb b4 fun h' hn' hs => ?_
    have kp : Kp (Own env μ) s { s with heap := h', toks := s.toks } := ⟨⟨h', _, rfl⟩, fun b' o nx e => (hs.2 b' fun q => nx (.inr (.inl ⟨x, q ▸ hb⟩))).trans e, fun mb e => e.sameBut hs (Ne.symm b2)⟩
    have st : Still (Own env μ) s { s with heap := h', toks := s.toks } := fun b' _ e => by
      by_cases hb' : b' = b
      · subst hb'; obtain ⟨o, ho, _⟩ := hn'; show (h'.get? _).isSome = true; rw [ho]; rfl
      · show (h'.get? b').isSome = true; rw [hs.2 b' hb']; exact e
    refine q _ kp st { room := a.room, scope := a.scope, glob := a.glob, blt := a.blt, kind := a.kind, names := a.names, dbg := a.dbg, live := a.live.kp a.inn kp st, inn := a.inn.kp a.live (Own.sub a) kp, ns := ?_, loc := a.loc, locb := a.locb, cells := ?_, cellOne := a.cellOne, cellHas := a.cellHas, nodup := hnd, kinds := hks, rep := ?_, mu := a.mu.mono (fun b' o hb' e => (hs.2 b' fun q => (a.muS b' hb').2.2.2 x (q ▸ hb)).trans e) (fun b' o n e => (hs.2 b' fun q => n (q ▸ b1)).trans e) (fun _ n _ => n), muS := a.muS }
    · obtain ⟨m, hn⟩ := a.ns; exact ⟨m, hn.sameBut hs (Ne.symm b3)⟩
    · intro y b' e
      obtain ⟨h1, h2, h3, w', o, h4, h5⟩ := a.cells y b' e
      by_cases hb' : b' = b
      · subst hb'; exact ⟨h1, h2, h3, _, hn'⟩
      · exact ⟨h1, h2, h3, w', o, (hs.2 b' hb').trans h4, h5⟩
    · intro y e hy
      rcases P.mem a.nodup _ hy with h | ⟨h, hne⟩
      · cases h
        exact ⟨v, .inr ⟨.inl hx, b, hb, hn'⟩, r.kp a.live.blt (Own.sub a) kp⟩
      · obtain ⟨u, stt, ru⟩ := a.rep y e h
        refine ⟨u, ?_, ru.kp a.live.blt (Own.sub a) kp⟩
        rcases stt with ⟨h1, m', h2, h3⟩ | ⟨h1, b', h2, o, h3, h4⟩
        · exact .inl ⟨h1, m', h2.sameBut hs (Ne.symm b3), h3⟩
        · exact .inr ⟨h1, b', h2, o, (hs.2 b' fun q => hne (a.cellOne y x b (q ▸ h2) hb)).trans h3, h4⟩
inductive Out where
  | next (ρ : Names) (μ : Mu)
  | ret (d : D) (μ : Mu)
/-- what stands behind: the blocks that are still to run -/
noncomputable def behind (M : Model) (A : Around) (env : Env) (E : Value → Shared → Prop) (Q : Flow → Shared → Prop) : List (List Stmt) → Flow → Shared → Prop
  | [], f, s => Q f s
  | r :: ks, .next, s => wpAny M A (execs r env) (behind M A env E Q ks) E s
  | _ :: _, f, s => Q f s
noncomputable def Post (c : Cx) (k : Nat) (nl : NL) (μ : Mu) (A : Around) (env : Env) (S : Addr → Prop) (s : Shared) (Q : Flow → Shared → Prop) : Out → Prop
  | .next ρ' μ' => ∀ s', Kp (Own env μ) s s' → Still (Own env μ) s s' → At c k nl ρ' μ' A env S s' → Q .next s'
  | .ret d μ' => ∀ v s', Kp (Own env μ) s s' → Still (Own env μ) s s' → Rep S s'.heap d v → MuAt S s'.heap μ' → Q (.ret v) s'
/-- the statements (and the blocks behind them) come to o -/
noncomputable def EX (c : Cx) (k : Nat) (nl : NL) (ρ : Names) (μ : Mu) (ss : List Stmt) (ks : List (List Stmt)) (o : Out) : Prop :=
  ∀ {A : Around} {env : Env} {S : Addr → Prop} {s : Shared} {Q : Flow → Shared → Prop} {E : Value → Shared → Prop}, At c k nl ρ μ A env S s → NoFree env → Post c k nl μ A env S s Q o →
    wpAny (model c.prog c.w) A (execs ss env) (behind (model c.prog c.w) A env E Q ks) E s
noncomputable def SameHas (μ μ' : Mu) : Prop := ∀ b, μ'.has b ↔ μ.has b
theorem SameHas.refl : SameHas μ μ := fun _ => Iff.rfl
theorem Still.trans {X : Addr → Prop} {s s' s'' : Shared} (a : Still X s s') (b : Still X s' s'') : Still X s s'' := fun x h e => b x h (a x h e)
theorem Still.of_no {X : Addr → Prop} {s s' : Shared} (k : Kp No s s') (i : c.In s.heap) : Still X s s' := fun x h e => by
  by_cases b : x = builtinsNs
  · subst b; obtain ⟨o, _, _, e, _⟩ := k.blt _ i.b; rw [e]; rfl
  · obtain ⟨o, e⟩ := Option.isSome_iff_exists.mp e
    rw [k.keep x o id b e]; rfl
theorem Own.same {env : Env} (h : SameHas μ μ') (b : Addr) : Own env μ' b ↔ Own env μ b := by
  unfold Own; rw [h b]
theorem Post.on {A : Around} {env : Env} {S : Addr → Prop} {s s' : Shared} {Q : Flow → Shared → Prop} {o : Out} (p : Post c k nl μ A env S s Q o) (kp : Kp (Own env μ) s s') (st : Still (Own env μ) s s') (h : SameHas μ μ' := by exact SameHas.refl) : Post c k nl μ' A env S s' Q o := by
  have w : ∀ b, Own env μ' b → Own env μ b := fun b => (Own.same h b).mp
  have w' : ∀ b, Own env μ b → Own env μ' b := fun b => (Own.same h b).mpr
  cases o with
  | next ρ' => exact fun s'' k1 t1 a => p s'' (kp.trans (k1.weak w)) (st.trans fun x hx => t1 x (w' x hx)) a
  | ret d => exact fun v s'' k1 t1 r => p v s'' (kp.trans (k1.weak w)) (st.trans fun x hx => t1 x (w' x hx)) r
theorem EX.nil : EX c k nl ρ μ [] [] (.next ρ μ) := fun a nf q => wpAny_execs_nil (q _ Kp.refl (fun _ _ e => e) a)
theorem EX.pop {r : List Stmt} {ks : List (List Stmt)} {o : Out} (h : EX c k nl ρ μ r ks o) : EX c k nl ρ μ [] (r :: ks) o := fun a nf q => wpAny_execs_nil (h a nf q)
theorem EX.ret {e : Expr} {pos : Pos} {rest : List Stmt} {ks : List (List Stmt)} {d : D} (h : EV c k nl ρ μ e d) : EX c k nl ρ μ (.Return (some e) pos :: rest) ks (.ret d μ) := fun a nf q =>
  wpAny_execs_cons (wpAny_Return_some (h a fun v s' k1 r => by
    have := q v s' k1.of_no (Still.of_no k1 a.inn) r (a.kp k1).mu
    cases ks <;> exact this))
theorem EX.retOf {e : Expr} {pos : Pos} {rest : List Stmt} {ks : List (List Stmt)} {d d' : D} (h : EV c k nl ρ μ e d) (q : d = d') : EX c k nl ρ μ (.Return (some e) pos :: rest) ks (.ret d' μ) := q ▸ EX.ret h
theorem EX.assign {x : Str} {p pos : Pos} {e : Expr} {rest : List Stmt} {ks : List (List Stmt)} {o : Out} {d : D} (h : EV c k nl ρ μ e d) (P : Put x d ρ ρ') (n : EX c k nl ρ' μ rest ks o)
    (hs : ∀ env : Env, swapsWith e (some (.Name x p)) pos.line env = pure false := by with_unfolding_all (intro _; rfl)) : EX c k nl ρ μ (.Assign [.Name x p] e pos :: rest) ks o := fun a nf q =>
  wpAny_execs_cons (wpAny_Assign_Name (h a fun v s' k1 r => (a.kp k1).store nf P r fun s'' k2 t2 a2 => n a2 nf (q.on (k1.of_no.trans k2) ((Still.of_no k1 a.inn).trans t2))) (hs _))
theorem behind_stop {M : Model} {A : Around} {env : Env} {E : Value → Shared → Prop} {Q : Flow → Shared → Prop} {r : List Stmt} {ks : List (List Stmt)} {f : Flow} {s : Shared} (h : behind M A env E Q (r :: ks) f s) :
    (fun f s' => match f with | .next => wpAny M A (execs r env) (behind M A env E Q ks) E s' | f => behind M A env E Q ks f s') f s := by
  cases f with
  | next => exact h
  | brk => cases ks <;> exact h
  | cont => cases ks <;> exact h
  | ret v => cases ks <;> exact h
theorem EX.ite {t : Expr} {x y rest : List Stmt} {pos : Pos} {ks : List (List Stmt)} {o : Out} {b : Bool} (h : TR c k nl ρ μ t b) (h1 : b = true → EX c k nl ρ μ x (rest :: ks) o) (h2 : b = false → EX c k nl ρ μ y (rest :: ks) o) : EX c k nl ρ μ (.If t x y pos :: rest) ks o := fun {A env S s Q E} a nf q => by
  refine wpAny_execs_cons (wpAny_If (h a fun s' k1 => ?_))
  have fin : ∀ {z : List Stmt}, EX c k nl ρ μ z (rest :: ks) o → wpAny (model c.prog c.w) A (execs z env) (fun f s' => match f with | .next => wpAny (model c.prog c.w) A (execs rest env) (behind (model c.prog c.w) A env E Q ks) E s' | f => behind (model c.prog c.w) A env E Q ks f s') E s' := fun {z} g =>
    wpAny_mono (g (a.kp k1) nf (q.on k1.of_no (Still.of_no k1 a.inn))) (fun f s2 h2 => behind_stop h2) fun _ _ e => e
  cases b with
  | true => rw [if_pos rfl]; exact fin (h1 rfl)
  | false => rw [if_neg (by decide)]; exact fin (h2 rfl)
theorem behind_mono {M : Model} {A : Around} {env : Env} {E E' : Value → Shared → Prop} {Q : Flow → Shared → Prop} (hE : ∀ e s, E e s → E' e s) : ∀ {ks : List (List Stmt)} {f : Flow} {s : Shared}, behind M A env E Q ks f s → behind M A env E' Q ks f s
  | [], _, _, h => h
  | _ :: _, .next, _, h => wpAny_mono h (fun _ _ z => behind_mono hE z) hE
  | _ :: _, .brk, _, h => h
  | _ :: _, .cont, _, h => h
  | _ :: _, .ret _, _, h => h
/-- a try whose body raises nothing -/
theorem EX.try_ {x y rest : List Stmt} {h₀ : ExceptHandler} {hs : List ExceptHandler} {pos : Pos} {ks : List (List Stmt)} {o : Out} (h : EX c k nl ρ μ x (y :: rest :: ks) o) : EX c k nl ρ μ (.Try x (h₀ :: hs) y [] pos :: rest) ks o := fun {A env S s Q E} a nf q => by
  refine wpAny_execs_cons (wpAny_Try_except (wpAny_mono (h (E := fun _ _ => False) a nf q) (fun f s' hf => ?_) fun _ _ e => e.elim))
  cases f with
  | next => exact wpAny_mono hf (fun f s2 h2 => behind_stop (behind_mono (fun _ _ e => e.elim) h2)) fun _ _ e => e.elim
  | brk => cases ks <;> exact hf
  | cont => cases ks <;> exact hf
  | ret v => cases ks <;> exact hf
/-- less is known of the names -/
inductive Weak : Names → Names → Prop
  | nil : Weak [] []
  | keep {p r r'} : Weak r r' → Weak (p :: r) (p :: r')
  | drop {x e r r'} : Weak r r' → Weak ((x, e) :: r) ((x, none) :: r')
theorem Weak.keys {r r' : Names} (w : Weak r r') : r'.map (·.1) = r.map (·.1) := by
  induction w with
  | nil => rfl
  | keep w ih => rw [List.map_cons, List.map_cons, ih]
  | drop w ih => rw [List.map_cons, List.map_cons, ih]
theorem Weak.mem {r r' : Names} (w : Weak r r') : ∀ q ∈ r', (∃ e, (q.1, e) ∈ r) ∧ ∀ d, q.2 = some d → (q.1, some d) ∈ r := by
  induction w with
  | nil => intro q h; cases h
  | keep w ih =>
    intro q h
    rcases List.mem_cons.mp h with rfl | h
    · exact ⟨⟨_, .head _⟩, fun d e => by rw [← e]; exact .head _⟩
    · obtain ⟨⟨e, h1⟩, h2⟩ := ih q h
      exact ⟨⟨e, .tail _ h1⟩, fun d e => .tail _ (h2 d e)⟩
  | drop w ih =>
    intro q h
    rcases List.mem_cons.mp h with rfl | h
    · exact ⟨⟨_, .head _⟩, fun d e => by cases e⟩
    · obtain ⟨⟨e, h1⟩, h2⟩ := ih q h
      exact ⟨⟨e, .tail _ h1⟩, fun d e => .tail _ (h2 d e)⟩
theorem At.weak {A : Around} {env : Env} {S : Addr → Prop} {s : Shared} (a : At c k nl ρ μ A env S s) (w : Weak ρ ρ') : At c k nl ρ' μ A env S s :=
  { a with
    nodup := by rw [w.keys]; exact a.nodup
    kinds := fun p hp => let ⟨⟨e, h⟩, _⟩ := w.mem p hp; a.kinds (p.1, e) h
    rep := fun x d h => a.rep x d ((w.mem _ h).2 d rfl) }
theorem EX.nilW (w : Weak ρ ρ') : EX c k nl ρ μ [] [] (.next ρ' μ) := fun a nf q => wpAny_execs_nil (q _ Kp.refl (fun _ _ e => e) (a.weak w))
theorem EX.forget {ss : List Stmt} {ks : List (List Stmt)} {o : Out} (w : Weak ρ ρ') (h : EX c k nl ρ' μ ss ks o) : EX c k nl ρ μ ss ks o := fun a nf q => h (a.weak w) nf q
/-- a block that comes to its end, then the rest -/
theorem EX.seq {A : Around} {env : Env} {S : Addr → Prop} {s : Shared} {Q : Flow → Shared → Prop} {E : Value → Shared → Prop} {ss : List Stmt} (h : EX c k nl ρ μ ss [] (.next ρ' μ')) (hh : SameHas μ μ') (a : At c k nl ρ μ A env S s) (nf : NoFree env)
    (q : ∀ s', Kp (Own env μ) s s' → Still (Own env μ) s s' → At c k nl ρ' μ' A env S s' → Q .next s') : wpAny (model c.prog c.w) A (execs ss env) Q E s := h a nf q
/-- a while loop, turn by turn -/
noncomputable def WL (c : Cx) (k : Nat) (nl : NL) (ρ : Names) (μ : Mu) (t : Expr) (body rest : List Stmt) (ks : List (List Stmt)) (o : Out) : Prop :=
  ∀ {A : Around} {env : Env} {S : Addr → Prop} {s : Shared} {Q : Flow → Shared → Prop} {E E' : Value → Shared → Prop}, At c k nl ρ μ A env S s → NoFree env → Post c k nl μ A env S s Q o →
    codeAny (model c.prog c.w) A (.whileLoop t body [] env) (fun r s' => match r with | .ok f => (match f with | .next => wpAny (model c.prog c.w) A (execs rest env) (behind (model c.prog c.w) A env E Q ks) E s' | f => behind (model c.prog c.w) A env E Q ks f s') | .error e => E' e s') s
theorem WL.turn {A : Around} {env : Env} {s : Shared} {t : Expr} {body : List Stmt} {R : Result → Shared → Prop} {b : Bool} {S : Addr → Prop} (h : TR c k nl ρ μ t b) (a : At c k nl ρ μ A env S s)
    (h1 : b = true → ∀ s', Kp No s s' → ∀ E, wpAny (model c.prog c.w) A (execs body env) (fun f s' => f = .next ∧ codeAny (model c.prog c.w) A (.whileLoop t body [] env) R s') E s') (h2 : b = false → ∀ s', Kp No s s' → R (.ok .next) s') :
    codeAny (model c.prog c.w) A (.whileLoop t body [] env) R s := by
  refine codeAny_of_tree ?_
  show wpAny _ A ((whileTurn t body [] env).onRaise (fun x => do noteFrame x env; theTreesLotGoes x)) _ _ s
  refine wpAny_noted ?_
  simp only [whileTurn]
  refine wpAny_bind (h a fun s' k1 => ?_)
  cases b with
  | false =>
    simp only [Bool.false_eq_true, if_false]
    exact wpAny_bind (wpAny_execs_nil (wpAny_pure (h2 rfl s' k1)))
  | true =>
    simp only [if_true]
    refine wpAny_bind (wpAny_mono (h1 rfl s' k1 _) (fun f s₃ h₃ => ?_) fun _ _ h' => h')
    obtain ⟨rfl, h₃⟩ := h₃
    exact wpAny_pure ⟨rfl, h₃⟩
theorem WL.stop {t : Expr} {body rest : List Stmt} {ks : List (List Stmt)} {o : Out} (h : TR c k nl ρ μ t false) (n : EX c k nl ρ μ rest ks o) : WL c k nl ρ μ t body rest ks o := fun a nf q =>
  WL.turn h a (fun e => by cases e) fun _ s' k1 => n (a.kp k1) nf (q.on k1.of_no (Still.of_no k1 a.inn))
theorem WL.go {t : Expr} {body rest : List Stmt} {ks : List (List Stmt)} {o : Out} (h : TR c k nl ρ μ t true) (b : EX c k nl ρ μ body [] (.next ρ' μ')) (n : WL c k nl ρ' μ' t body rest ks o) (hh : SameHas μ μ' := by exact SameHas.refl) : WL c k nl ρ μ t body rest ks o := fun a nf q =>
  WL.turn h a (fun _ s' k1 E => b (a.kp k1) nf fun s'' k2 t2 a2 => ⟨rfl, n a2 nf ((q.on k1.of_no (Still.of_no k1 a.inn)).on k2 t2 hh)⟩) fun e => by cases e
theorem EX.while_ {t : Expr} {body rest : List Stmt} {pos : Pos} {ks : List (List Stmt)} {o : Out} (h : WL c k nl ρ μ t body rest ks o) : EX c k nl ρ μ (.While t body [] pos :: rest) ks o := fun a nf q =>
  wpAny_execs_cons (wpAny_While (codeAny_mono (h (E' := fun _ _ => False) a nf q) fun r s' hr => by
    cases r with
    | ok f => cases f <;> exact hr
    | error e => exact hr.elim))
/-- the names of a tuple are bound, one behind the other -/
theorem At.store2 {x y : Str} {d e : D} {u v : Value} {A : Around} {env : Env} {S : Addr → Prop} {s : Shared} {Q : Unit → Shared → Prop} {E : Value → Shared → Prop} {M : Model} (a : At c k nl ρ μ A env S s) (nf : NoFree env)
    (P1 : Put x d ρ ρ') (P2 : Put y e ρ' ρ'') (r1 : Rep S s.heap d u) (r2 : Rep S s.heap e v) (q : ∀ s', Kp (Own env μ) s s' → Still (Own env μ) s s' → At c k nl ρ'' μ A env S s' → Q () s') : wpAny M A (storeName env x u) (fun _ s' => wpAny M A (storeName env y v) Q E s') E s :=
  a.store nf P1 r1 fun s1 k1 t1 a1 => a1.store nf P2 (r2.kp a.live.blt (Own.sub a) k1) fun s2 k2 t2 a2 => q s2 (k1.trans k2) (t1.trans t2) a2
theorem At.store3 {x y z : Str} {d e f : D} {u v w : Value} {A : Around} {env : Env} {S : Addr → Prop} {s : Shared} {Q : Unit → Shared → Prop} {E : Value → Shared → Prop} {M : Model} (a : At c k nl ρ μ A env S s) (nf : NoFree env)
    (P1 : Put x d ρ ρ') (P2 : Put y e ρ' ρ'') (P3 : Put z f ρ'' ρ3) (r1 : Rep S s.heap d u) (r2 : Rep S s.heap e v) (r3 : Rep S s.heap f w) (q : ∀ s', Kp (Own env μ) s s' → Still (Own env μ) s s' → At c k nl ρ3 μ A env S s' → Q () s') :
    wpAny M A (storeName env x u) (fun _ s' => wpAny M A (storeName env y v) (fun _ s' => wpAny M A (storeName env z w) Q E s') E s') E s :=
  a.store nf P1 r1 fun s1 k1 t1 a1 => a1.store2 nf P2 P3 (r2.kp a.live.blt (Own.sub a) k1) (r3.kp a.live.blt (Own.sub a) k1) fun s2 k2 t2 a2 => q s2 (k1.trans k2) (t1.trans t2) a2
theorem Rep.tup2 {S : Addr → Prop} {h : Heap} {d e : D} {v : Value} (r : Rep S h (.tup [d, e]) v) : ∃ a u w, v = .ref a ∧ IsTup h a #[u, w] ∧ Rep S h d u ∧ Rep S h e w := by
  obtain ⟨a, vs, rfl, _, t, rs⟩ := r.tupl
  obtain ⟨u, w, rfl, r1, r2⟩ := rs.two
  exact ⟨a, u, w, rfl, t, r1, r2⟩
theorem Rep.tup3 {S : Addr → Prop} {h : Heap} {d e f : D} {v : Value} (r : Rep S h (.tup [d, e, f]) v) : ∃ a u w z, v = .ref a ∧ IsTup h a #[u, w, z] ∧ Rep S h d u ∧ Rep S h e w ∧ Rep S h f z := by
  obtain ⟨a, vs, rfl, _, t, rs⟩ := r.tupl
  obtain ⟨u, w, z, rfl, r1, r2, r3⟩ := rs.three
  exact ⟨a, u, w, z, rfl, t, r1, r2, r3⟩
theorem unpack_ {A : Around} {S : Addr → Prop} {s : Shared} {t : Addr} {items : Array Value} {n : Nat} {Q : List Value → Shared → Prop} {E : Value → Shared → Prop} (hh : A.handled = none) (ht : IsTup s.heap t items) (hn : n = items.size)
    (h : ∀ s', Kp No s s' → Q items.toList s') : wpAny (model c.prog c.w) A (unpackItems (.ref t) n none) Q E s := by
  subst hn
  refine unpackItems_tuple hh ht fun h' he => h _ (Kp.heap (t := s.toks) fun b o e => he b o (Nat.ne_of_lt (Heap.lt_size e)) e)
theorem assignNames {M : Model} {A : Around} {env : Env} {s : Shared} {x : Str} {p : Pos} {v : Value} {ts : List (Value → Sem Unit)} {vs : List Value} {Q : Unit → Shared → Prop} {E : Value → Shared → Prop}
    (h : wpAny M A (storeName env x v) (fun _ s' => wpAny M A (assignInOrder ts vs) Q E s') E s) : wpAny M A (assignInOrder (assign (.Name x p) env :: ts) (v :: vs)) Q E s :=
  wpAny_bind (wpAny_holding (assign_Name h))
theorem assignBinds {M : Model} {A : Around} {env : Env} {s : Shared} {x : Str} {v : Value} {ts : List (Value → Sem Unit)} {vs : List Value} {Q : Unit → Shared → Prop} {E : Value → Shared → Prop}
    (h : wpAny M A (storeName env x v) (fun _ s' => wpAny M A (assignInOrder ts vs) Q E s') E s) : wpAny M A (assignInOrder ((fun v => bindName env x v) :: ts) (v :: vs)) Q E s :=
  wpAny_bind (wpAny_holding (bindName_ h))
theorem assignDone {M : Model} {A : Around} {s : Shared} {ts : List (Value → Sem Unit)} {Q : Unit → Shared → Prop} {E : Value → Shared → Prop} (h : Q () s) : wpAny M A (assignInOrder [] []) Q E s := wpAny_pure h
/-- a tuple's value is no tuple as written -/
noncomputable def noTuple : Expr → Bool
  | .Tuple .. => false
  | _ => true
theorem swapped_none {ts : List Expr} {k1 : Nat} {tp : Pos} {e : Expr} {env : Env} (h : noTuple e = true) : swappedStores [.Tuple ts k1 tp] e env = pure none := by
  cases e <;> first | rfl | cases h
theorem EX.assign2 {x y : Str} {p1 p2 tp pos : Pos} {k1 : Nat} {e : Expr} {rest : List Stmt} {ks : List (List Stmt)} {o : Out} {d1 d2 : D} (h : EV c k nl ρ μ e (.tup [d1, d2])) (P1 : Put x d1 ρ ρ') (P2 : Put y d2 ρ' ρ'') (n : EX c k nl ρ'' μ rest ks o)
    (hw : noTuple e = true := by with_unfolding_all rfl) (hs : ∀ env : Env, swapsWithSole [.Tuple [.Name x p1, .Name y p2] k1 tp] e pos.line env = pure false := by with_unfolding_all (intro _; rfl)) : EX c k nl ρ μ (.Assign [.Tuple [.Name x p1, .Name y p2] k1 tp] e pos :: rest) ks o := fun a nf q =>
  wpAny_execs_cons (Assign_Tuple (h a fun v s' k1 r => by
    obtain ⟨t, u, w, rfl, ht, r1, r2⟩ := r.tup2
    refine wpAny_assign_Tuple a.room.handled ht rfl rfl fun h' he => ?_
    have k2 : Kp No s' { s' with heap := h' } := Kp.heap (t := s'.toks) fun b o e => he b o (Nat.ne_of_lt (Heap.lt_size e)) e
    have a2 := (a.kp k1).kp k2
    refine assignNames (wpAny_mono (a2.store2 nf P1 P2 (r1.kp a.live.blt (fun _ q => q.elim) k2) (r2.kp a.live.blt (fun _ q => q.elim) k2) fun s3 k3 t3 a3 => ?_) (fun _ _ z => assignNames (wpAny_mono z (fun _ _ z => assignDone (ts := []) z) fun _ _ e => e)) fun _ _ e => e)
    exact n a3 nf (q.on ((k1.of_no.trans k2.of_no).trans k3) (((Still.of_no k1 a.inn).trans (Still.of_no k2 (a.kp k1).inn)).trans t3))) (hs _) (swapped_none hw))
theorem EX.assign3 {x y z : Str} {p1 p2 p3 tp pos : Pos} {k1 : Nat} {e : Expr} {rest : List Stmt} {ks : List (List Stmt)} {o : Out} {d1 d2 d3 : D} (h : EV c k nl ρ μ e (.tup [d1, d2, d3])) (P1 : Put x d1 ρ ρ') (P2 : Put y d2 ρ' ρ'') (P3 : Put z d3 ρ'' ρ3) (n : EX c k nl ρ3 μ rest ks o)
    (hw : ∀ env : Env, swappedStores [.Tuple [.Name x p1, .Name y p2, .Name z p3] k1 tp] e env = pure none) (hs : ∀ env : Env, swapsWithSole [.Tuple [.Name x p1, .Name y p2, .Name z p3] k1 tp] e pos.line env = pure false := by with_unfolding_all (intro _; rfl)) : EX c k nl ρ μ (.Assign [.Tuple [.Name x p1, .Name y p2, .Name z p3] k1 tp] e pos :: rest) ks o := fun a nf q =>
  wpAny_execs_cons (Assign_Tuple (h a fun v s' k1 r => by
    obtain ⟨t, u, w, v3, rfl, ht, r1, r2, r3⟩ := r.tup3
    refine wpAny_assign_Tuple a.room.handled ht rfl rfl fun h' he => ?_
    have k2 : Kp No s' { s' with heap := h' } := Kp.heap (t := s'.toks) fun b o e => he b o (Nat.ne_of_lt (Heap.lt_size e)) e
    have a2 := (a.kp k1).kp k2
    refine assignNames (wpAny_mono (a2.store3 nf P1 P2 P3 (r1.kp a.live.blt (fun _ q => q.elim) k2) (r2.kp a.live.blt (fun _ q => q.elim) k2) (r3.kp a.live.blt (fun _ q => q.elim) k2) fun s3 k3 t3 a3 => ?_)
      (fun _ _ z => assignNames (wpAny_mono z (fun _ _ z => assignNames (wpAny_mono z (fun _ _ z => assignDone (ts := []) z) fun _ _ e => e)) fun _ _ e => e)) fun _ _ e => e)
    exact n a3 nf (q.on ((k1.of_no.trans k2.of_no).trans k3) (((Still.of_no k1 a.inn).trans (Still.of_no k2 (a.kp k1).inn)).trans t3))) (hs _) (hw _))
theorem At.local_ {A : Around} {env : Env} {S : Addr → Prop} {s : Shared} (a : At c k nl ρ μ A env S s) {x : Str} (h : (x, NameKind.local) ∈ nl) : env.kindOf x = some .local := by
  show env.scope.names.lookup x = _; rw [a.scope]; exact lookup_of_mem a.names h
theorem At.block {A : Around} {env : Env} {S : Addr → Prop} {s : Shared} (a : At c k nl ρ μ A env S s) (hb : ∀ env : Env, env.scope.kind = .function → env.blockKind = .function) : env.blockKind = .function := hb env a.kind
noncomputable def isStar : Expr → Bool
  | .Starred .. => true
  | _ => false
noncomputable def nameAt (env : Env) (line : Nat) : Expr → Option Str
  | .Name id pos => if env.kindOf id == some .local && pos.line == line then some id else none
  | _ => none
theorem swapped_of {ts vs : List Expr} {k1 k2 : Nat} {tp vp : Pos} {env : Env} {ns : List Str} (h1 : (!(ts.length == 2 || ts.length == 3) || vs.length != ts.length || env.blockKind != .function) = false) (h2 : vs.any isStar = false)
    (h3 : ts.filterMap (nameAt env ((ts.head?.map (·.pos.line)).getD 0)) = ns) (h4 : (ns.length != ts.length || ns.eraseDups.length != ns.length) = false) (h5 : vs.all (foldedForSure 8) = false) (h6 : vs.all (constantsAlone 8) = false) :
    swappedStores [.Tuple ts k1 tp] (.Tuple vs k2 vp) env = pure (some ns) := by
  subst h3
  obtain ⟨X, e⟩ : ∃ X, swappedStores [.Tuple ts k1 tp] (.Tuple vs k2 vp) env =
    (if (!(ts.length == 2 || ts.length == 3) || vs.length != ts.length || env.blockKind != .function) = true then pure none else
     if vs.any isStar = true then pure none else
     if ((ts.filterMap (nameAt env ((ts.head?.map (·.pos.line)).getD 0))).length != ts.length || (ts.filterMap (nameAt env ((ts.head?.map (·.pos.line)).getD 0))).eraseDups.length != (ts.filterMap (nameAt env ((ts.head?.map (·.pos.line)).getD 0))).length) = true then pure none else
     if vs.all (foldedForSure 8) = true then pure none else
     if vs.all (constantsAlone 8) = true then X else pure (some (ts.filterMap (nameAt env ((ts.head?.map (·.pos.line)).getD 0))))) := ⟨_, by with_unfolding_all rfl⟩
  rw [e, h1, h2, h4, h5, h6]
  rfl
theorem nameAt_local {env : Env} {x : Str} {p : Pos} {l : Nat} (hx : env.kindOf x = some .local) (hl : p.line = l) : nameAt env l (.Name x p) = some x := by
  show (if (env.kindOf x == some .local && p.line == l) = true then some x else none) = some x
  rw [hx, hl, beq_self_eq_true, beq_self_eq_true]; rfl
theorem EX.swap2 {x y : Str} {p1 p2 tp vp pos : Pos} {k1 k2 : Nat} {e1 e2 : Expr} {rest : List Stmt} {ks : List (List Stmt)} {o : Out} {d1 d2 : D} (h : EVs c k nl ρ μ [e1, e2] [d1, d2]) (hx : (x, NameKind.local) ∈ nl) (hy : (y, NameKind.local) ∈ nl)
    (P2 : Put y d2 ρ ρ') (P1 : Put x d1 ρ' ρ'') (n : EX c k nl ρ'' μ rest ks o) (hne : sq x y = false := by decide) (hl : p1.line = p2.line := by with_unfolding_all rfl)
    (hf : isStar e1 = false := by with_unfolding_all rfl) (hf' : isStar e2 = false := by with_unfolding_all rfl) (hf1 : [e1, e2].all (foldedForSure 8) = false := by with_unfolding_all rfl) (hf2 : [e1, e2].all (constantsAlone 8) = false := by with_unfolding_all rfl)
    (hs : ∀ env : Env, swapsWithSole [.Tuple [.Name x p1, .Name y p2] k1 tp] (.Tuple [e1, e2] k2 vp) pos.line env = pure false := by with_unfolding_all (intro _; rfl)) : EX c k nl ρ μ (.Assign [.Tuple [.Name x p1, .Name y p2] k1 tp] (.Tuple [e1, e2] k2 vp) pos :: rest) ks o := fun {A env S s Q E} a nf q => by
  have hx' := a.local_ hx
  have hy' := a.local_ hy
  have hxy : x ≠ y := fun e => by rw [sq_iff.mpr e] at hne; cases hne
  have hb : env.blockKind = .function := by unfold Env.blockKind; rw [a.kind]; rfl
  have hw : swappedStores [.Tuple [.Name x p1, .Name y p2] k1 tp] (.Tuple [e1, e2] k2 vp) env = pure (some [x, y]) := by
    refine swapped_of (by rw [hb]; rfl) (by rw [List.any_cons, List.any_cons, hf, hf']; rfl) (ns := [x, y]) ?_ ?_ hf1 hf2
    · show List.filterMap (nameAt env p1.line) [.Name x p1, .Name y p2] = _
      rw [List.filterMap_cons_some (nameAt_local hx' rfl), List.filterMap_cons_some (nameAt_local hy' hl.symm)]; rfl
    · have e : (y == x) = false := beq_eq_false_iff_ne.mpr (Ne.symm hxy)
      have : [x, y].eraseDups = [x, y] := by rw [List.eraseDups_cons, List.filter_cons, e]; rfl
      rw [this]; rfl
  refine wpAny_execs_cons (Assign_Tuple_swapped ((EV.tuple h (Nat.le_of_ble_eq_true (by rfl) : [d1, d2].length ≤ sizeLine)) a fun v s' k1 r => ?_) (hs _) hw)
  obtain ⟨t, u, w, rfl, ht, r1, r2⟩ := r.tup2
  refine unpack_ (S := S) a.room.handled ht rfl fun s2 k2 => ?_
  have a2 := (a.kp k1).kp k2
  refine assignBinds (wpAny_mono (a2.store2 nf P2 P1 (r2.kp a.live.blt (fun _ q => q.elim) k2) (r1.kp a.live.blt (fun _ q => q.elim) k2) fun s3 k3 t3 a3 => ?_) (fun _ _ z => assignBinds (wpAny_mono z (fun _ _ z => assignDone (ts := []) z) fun _ _ e => e)) fun _ _ e => e)
  exact n a3 nf (q.on ((k1.of_no.trans k2.of_no).trans k3) (((Still.of_no k1 a.inn).trans (Still.of_no k2 (a.kp k1).inn)).trans t3))
end
end Mine
end
section
-- A5
open PySem PySem.W PyProof.Rows
set_option Elab.async false
set_option linter.all false
set_option maxRecDepth 100000
namespace Mine
theorem zip_bind : ∀ {xs : List Str} {vs : List Value}, xs.Nodup → vs.length = xs.length → ∀ (l : List (Str × Value)), (∀ p ∈ xs.zip vs, l.lookup p.1 = some p.2) → xs.filterMap (fun n => (l.lookup n).map (n, ·)) = xs.zip vs
  | [], vs, _, h, _, _ => by cases vs with | nil => rfl | cons => cases h
  | x :: xs, [], _, h, _, _ => by cases h
  | x :: xs, v :: vs, n, h, l, hl => by
    rw [List.nodup_cons] at n
    have h1 := hl (x, v) (.head _)
    rw [List.zip_cons_cons, List.filterMap_cons]
    simp only at h1
    rw [h1]
    simp only [Option.map_some]
    rw [zip_bind n.2 (by simpa using h) l fun p hp => hl p (.tail _ hp)]
theorem zip_lookup : ∀ {xs : List Str} {vs : List Value}, xs.Nodup → ∀ p ∈ xs.zip vs, (xs.zip vs).lookup p.1 = some p.2
  | [], _, _, _, h => by cases h
  | x :: xs, [], _, _, h => by cases h
  | x :: xs, v :: vs, n, p, h => by
    rw [List.nodup_cons] at n
    rw [List.zip_cons_cons, List.lookup_cons]
    rcases List.mem_cons.mp h with rfl | h
    · simp
    · have : p.1 ∈ xs := (List.of_mem_zip (a := p.1) (b := p.2) h).1
      have e : (p.1 == x) = false := beq_eq_false_iff_ne.mpr fun q => n.1 (q ▸ this)
      rw [e]
      exact zip_lookup n.2 p h
theorem bind_plain {fd : FuncData} {as : List Arg} {ds : List Expr} {vs : List Value} (hp : fd.params = { posonlyargs := [], args := as, vararg := none, kwonlyargs := [], kw_defaults := [], kwarg := none, defaults := ds }) (hd : fd.defaults = .none)
    (hl : vs.length = as.length) (hn : (as.map (·.arg)).Nodup) : bindArgs fd ⟨vs, []⟩ = pure ((as.map (·.arg)).zip vs) := by
  have hz := zip_bind hn (by simpa using hl) _ (zip_lookup (vs := vs) hn)
  have hs : ∀ n ∈ as.map (·.arg), (((as.map (·.arg)).zip vs).lookup n).isNone = false := by
    intro n hn'
    obtain ⟨i, hi, rfl⟩ := List.getElem_of_mem hn'
    have hv : i < vs.length := by rw [hl]; simpa using hi
    have : ((as.map (·.arg))[i], vs[i]) ∈ (as.map (·.arg)).zip vs := by
      rw [List.mem_iff_getElem]
      exact ⟨i, by simp at hi ⊢; lia, by simp⟩
    have := zip_lookup hn _ this
    simp only at this
    rw [this]; rfl
  unfold bindArgs
  rw [hp, hd]
  have e1 : seqItems? .none = pure none := rfl
  have e2 : ¬ (decide (vs.length > (as.map (·.arg)).length) && (none : Option Arg).isNone) = true := by simp [hl]
  have e3 : ((as.map (·.arg)).take (as.map (·.arg)).length).filter (fun n => (((as.map (·.arg)).zip vs).lookup n).isNone) = [] := by
    rw [List.take_length, List.filter_eq_nil_iff]
    intro n h; rw [hs n h]; decide
  show (if (decide (vs.length > ([] ++ as.map (fun x : Arg => x.arg)).length) && (none : Option Arg).isNone) = true then _ else _) = _
  rw [if_neg (by simpa using e2)]
  show (if (!(((as.map (fun x : Arg => x.arg)).take ((as.map (fun x : Arg => x.arg)).length - (List.drop (0 - (as.map (fun x : Arg => x.arg)).length) ([] : List Value)).length)).filter (fun n => (((as.map (fun x : Arg => x.arg)).zip vs).lookup n).isNone)).isEmpty) = true then _ else _) = _
  rw [List.drop_nil]
  show (if (!(((as.map (fun x : Arg => x.arg)).take (as.map (fun x : Arg => x.arg)).length).filter (fun n => (((as.map (fun x : Arg => x.arg)).zip vs).lookup n).isNone)).isEmpty) = true then _ else _) = _
  rw [e3]
  show (forIn (((as.map (fun x : Arg => x.arg)).drop ((as.map (fun x : Arg => x.arg)).length - (List.drop (0 - (as.map (fun x : Arg => x.arg)).length) ([] : List Value)).length)).zip (List.drop (0 - (as.map (fun x : Arg => x.arg)).length) ([] : List Value))) ((as.map (fun x : Arg => x.arg)).zip vs) _ >>= _) = _
  rw [List.drop_nil, List.zip_nil_right]
  show (pure (((as.map (fun x : Arg => x.arg)) ++ []).filterMap fun n => (((as.map (fun x : Arg => x.arg)).zip vs).lookup n).map (n, ·)) : Sem (List (Str × Value))) = _
  rw [List.append_nil, hz]
section
variable {c : Cx} {k : Nat} {sc : Scope} {ρ ρ' : Names} {μ μ' : Mu}
structure FnAt (c : Cx) (f : Addr) (as : List Arg) (sc : Scope) (body : List Stmt) (dd : List D) : Prop where
  at_ : ∃ o fd extra, c.K.lookup f = some o ∧ o.data = .func fd ∧ fd.body = .stmts body ∧ fd.scope = sc ∧ fd.globals = mainGlobals ∧ fd.closure = [] ∧ fd.builtins = builtinsNs ∧ codeIn c.K fd.code fd.qualname = true ∧
    (∀ S h, Reps S h dd extra) ∧ ∀ (s : Shared) (vs : List Value), c.K.In s.heap → vs.length + dd.length = as.length → BindsTo s fd ⟨vs, []⟩ ((as.map (·.arg)).zip (vs ++ extra))
noncomputable def okKinds (nl : NL) : Bool := nl.all fun x => match x.2 with | .local | .cell | .globalImplicit => true | _ => false
/-- names apart, none of the machine's own -/
noncomputable def namesOk (nl : NL) : Bool := allFresh (Str.ofString "__debug__" :: Str.ofString "__name__" :: nl.map (·.1))
/-- the frame's names as the call finds them: the arguments, then the rest without a value -/
noncomputable def initEnv : NL → List D → Names
  | [], _ => []
  | (x, .local) :: r, d :: ds => (x, some d) :: initEnv r ds
  | (x, .local) :: r, [] => (x, none) :: initEnv r []
  | (x, .cell) :: r, d :: ds => (x, some d) :: initEnv r ds
  | (x, .cell) :: r, [] => (x, none) :: initEnv r []
  | _ :: r, ds => initEnv r ds
theorem Room.deeper {A : Around} {env : Env} (r : Room (k + 1 + 1) A) : Room (k + 1) (A.deeper env) := ⟨r.handled, by have := r.depth; show A.depth + 1 + 2 * (k + 1) < _; lia, by have := r.units; show A.units + 3 + 60 * (k + 1) < _; lia⟩
theorem zip_rep {S : Addr → Prop} {h : Heap} : ∀ {xs : List Str} {ds : List D} {vs : List Value}, Reps S h ds vs → ∀ x d, (x, d) ∈ xs.zip ds → ∃ v, (x, v) ∈ xs.zip vs ∧ Rep S h d v
  | [], _, _, _, _, _, h => by cases h
  | y :: xs, [], _, _, _, _, h => by cases h
  | y :: xs, d :: ds, vs, r, x, e, h => by
    simp only [Reps] at r
    obtain ⟨v, q, rfl, r1, r2⟩ := r
    rw [List.zip_cons_cons] at h
    rcases List.mem_cons.mp h with h | h
    · cases h; exact ⟨v, .head _, r1⟩
    · obtain ⟨u, hu, ru⟩ := zip_rep r2 x e h
      exact ⟨u, .tail _ hu, ru⟩
theorem initEnv_keys : ∀ {nl : NL} {ds : List D} {p : Str × Option D}, p ∈ initEnv nl ds → (p.1, NameKind.local) ∈ nl ∨ (p.1, NameKind.cell) ∈ nl
  | [], _, p, h => by simp [initEnv] at h
  | (x, kd) :: r, ds, p, h => by
    have up : (p ∈ initEnv r ds ∨ ∃ ds', p ∈ initEnv r ds') → (p.1, NameKind.local) ∈ (x, kd) :: r ∨ (p.1, NameKind.cell) ∈ (x, kd) :: r := by
      rintro (h | ⟨ds', h⟩)
      · rcases initEnv_keys h with h | h
        · exact .inl (.tail _ h)
        · exact .inr (.tail _ h)
      · rcases initEnv_keys h with h | h
        · exact .inl (.tail _ h)
        · exact .inr (.tail _ h)
    cases kd <;> cases ds <;> simp only [initEnv, List.mem_cons] at h
    all_goals first
      | (rcases h with rfl | h
         · first | exact .inl (.head _) | exact .inr (.head _)
         · exact up (.inr ⟨_, h⟩))
      | exact up (.inr ⟨_, h⟩)
theorem initEnv_sub : ∀ {nl : NL} {ds : List D}, ((initEnv nl ds).map (·.1)).Sublist (nl.map (·.1))
  | [], _ => by simp [initEnv]
  | (x, kd) :: r, ds => by
    cases kd <;> cases ds <;> simp only [initEnv, List.map_cons]
    all_goals first
      | exact List.Sublist.cons₂ _ initEnv_sub
      | exact List.Sublist.cons _ initEnv_sub
/-- the parameters stand first, in their order -/
noncomputable def paramsFirst : List Arg → NL → Bool
  | [], _ => true
  | a :: as, (x, .local) :: r => sq a.arg x && paramsFirst as r
  | a :: as, (x, .cell) :: r => sq a.arg x && paramsFirst as r
  | _, _ => false
theorem initEnv_val : ∀ {as : List Arg} {nl : NL} {ds : List D}, paramsFirst as nl = true → ds.length = as.length → ∀ {x : Str} {d : D}, (x, some d) ∈ initEnv nl ds → (x, d) ∈ (as.map (·.arg)).zip ds
  | [], nl, ds, _, hl, x, d, h => by
    have : ds = [] := by simpa using hl
    subst this
    exfalso
    have : ∀ {nl : NL}, (x, some d) ∉ initEnv nl [] := by
      intro nl
      induction nl with
      | nil => simp [initEnv]
      | cons p r ih => obtain ⟨y, kd⟩ := p; cases kd <;> simp [initEnv, ih]
    exact this h
  | a :: as, [], ds, hp, _, _, _, _ => by simp [paramsFirst] at hp
  | a :: as, (y, kd) :: r, [], _, hl, _, _, _ => by cases hl
  | a :: as, (y, kd) :: r, e :: ds, hp, hl, x, d, h => by
    cases kd <;> simp only [paramsFirst, Bool.false_eq_true, Bool.and_eq_true] at hp
    all_goals
      simp only [initEnv, List.mem_cons] at h
      rw [List.map_cons, List.zip_cons_cons]
      rcases h with h | h
      · cases h; rw [sq_iff.mp hp.1]; exact .head _
      · exact .tail _ (initEnv_val hp.2 (by simpa using hl) h)
noncomputable def stOk (as : List Arg) (sc : Scope) : Bool := sc.kind == .function && !sc.isCoroutine && !sc.isGenerator && okKinds sc.names && namesOk sc.names && paramsFirst as sc.names
theorem bindL_at {kindOf : Str → Option NameKind} : ∀ {l : List (Str × Value)} {m : Str → Option Value} {x : Str}, x ∉ l.map (·.1) → bindL kindOf l m x = m x
  | [], _, _, _ => rfl
  | (n, v) :: r, m, x, h => by
    simp only [List.map_cons, List.mem_cons, not_or] at h
    unfold bindL
    rw [bindL_at h.2]
    split
    · show (if x = n then some v else m x) = m x; rw [if_neg h.1]
    · rfl
theorem bindL_mem {kindOf : Str → Option NameKind} : ∀ {l : List (Str × Value)} {m : Str → Option Value} {x : Str} {v : Value}, (l.map (·.1)).Nodup → (x, v) ∈ l → kindOf x = some .local → bindL kindOf l m x = some v
  | (n, u) :: r, m, x, v, nd, h, hk => by
    rw [List.map_cons, List.nodup_cons] at nd
    unfold bindL
    rcases List.mem_cons.mp h with h | h
    · cases h
      rw [bindL_at nd.1, if_pos hk, if_pos rfl]
    · exact bindL_mem nd.2 h hk
theorem bindC_at {kindOf : Str → Option NameKind} : ∀ {l : List (Str × Value)} {m : Str → Option Value} {x : Str}, x ∉ l.map (·.1) → bindC kindOf l m x = m x
  | [], _, _, _ => rfl
  | (n, v) :: r, m, x, h => by
    simp only [List.map_cons, List.mem_cons, not_or] at h
    unfold bindC
    rw [bindC_at h.2]
    split
    · rfl
    · show (if x = n then some v else m x) = m x; rw [if_neg h.1]
theorem bindC_mem {kindOf : Str → Option NameKind} : ∀ {l : List (Str × Value)} {m : Str → Option Value} {x : Str} {v : Value}, (l.map (·.1)).Nodup → (x, v) ∈ l → kindOf x = some .cell → bindC kindOf l m x = some v
  | (n, u) :: r, m, x, v, nd, h, hk => by
    rw [List.map_cons, List.nodup_cons] at nd
    unfold bindC
    rcases List.mem_cons.mp h with h | h
    · cases h
      rw [bindC_at nd.1, if_neg (by rw [hk]; decide), if_pos rfl]
    · exact bindC_mem nd.2 h hk
theorem cellsFrom_acc : ∀ {names : NL} {n : Nat} {acc : List (Str × Addr)} {p : Str × Addr}, p ∈ acc → p ∈ cellsFrom n names acc
  | [], _, _, _, h => h
  | (x, kd) :: r, n, acc, p, h => by
    unfold cellsFrom
    split
    · exact cellsFrom_acc (.tail _ h)
    · exact cellsFrom_acc h
theorem cellsFrom_has : ∀ {names : NL} {n : Nat} {acc : List (Str × Addr)} {x : Str}, (x, NameKind.cell) ∈ names → ∃ a, (x, a) ∈ cellsFrom n names acc
  | (y, kd) :: r, n, acc, x, h => by
    rcases List.mem_cons.mp h with h | h
    · cases h
      exact ⟨n, by unfold cellsFrom; exact cellsFrom_acc (.head _)⟩
    · unfold cellsFrom
      split
      · exact cellsFrom_has h
      · exact cellsFrom_has h
theorem some_of_mem {x : Str} {a : Addr} : ∀ {l : List (Str × Addr)}, (x, a) ∈ l → (l.lookup x).isSome = true
  | (y, b) :: l, h => by
    rw [List.lookup_cons]
    split
    · rfl
    · rcases List.mem_cons.mp h with h | h
      · cases h; rename_i q; simp at q
      · exact some_of_mem h
/-- what the call hands back: the value returned, or None -/
noncomputable def Ends (o : Out) (d : D) (μ' : Mu) : Prop := o = .ret d μ' ∨ (d = .none ∧ ∃ ρ', o = .next ρ' μ')
/-- a def, called, where one thing may change -/
noncomputable def FNM (c : Cx) (k : Nat) (f : Value) (μ : Mu) (ds : List D) (d : D) (μ' : Mu) : Prop :=
  ∀ {A : Around} {S : Addr → Prop} {s : Shared} {vs : List Value} {R : Result → Shared → Prop}, Room (k + 1) A → Live c S s.heap → c.In s.heap → MuAt S s.heap μ → (∀ b, μ.has b → S b ∧ b ≠ builtinsNs) → Reps S s.heap ds vs →
    (∀ v s', Kp μ.has s s' → Rep S s'.heap d v → MuAt S s'.heap μ' → R (.ok (.ret v)) s') → codeAny (model c.prog c.w) A (.call f ⟨vs, []⟩) R s
/-- a def's own frame, made -/
theorem FN.core {f : Addr} {as : List Arg} {body : List Stmt} {ds dd : List D} (F : FnAt c f as sc body dd) (ok : stOk as sc = true) (hl : ds.length + dd.length = as.length) {A : Around} {S : Addr → Prop} {s : Shared} {vs : List Value} {Q : Result → Shared → Prop}
    (ro : Room (k + 1 + 1) A) (l : Live c S s.heap) (i : c.In s.heap) (hmu : MuAt S s.heap μ) (hms : ∀ b, μ.has b → S b ∧ b ≠ builtinsNs) (r : Reps S s.heap ds vs)
    (h : ∀ {env : Env} {S' : Addr → Prop} {s1 : Shared}, At c k sc.names (initEnv sc.names (ds ++ dd)) μ (A.deeper env) env S' s1 → NoFree env → Kp No s s1 → (∀ a, S a → S' a) → (∀ s', Kp (Own env μ) s1 s' → Kp μ.has s s') →
      wpAny (model c.prog c.w) (A.deeper env) (execs body env) (fun f s' => Q (.ok (.ret (match f with | .ret v => v | _ => .none))) s') (fun _ _ => False) s1) : codeAny (model c.prog c.w) A (.call (.ref f) ⟨vs, []⟩) Q s := by
  obtain ⟨o', fd, extra, ho', hd, hb, hs, hg, hc, hbl, hcd, hex, hbd⟩ := F.at_
  simp only [stOk, Bool.and_eq_true, beq_iff_eq, Bool.not_eq_true'] at ok
  obtain ⟨⟨⟨⟨⟨ok1, ok2⟩, ok3⟩, ok4⟩, ok5⟩, ok6⟩ := ok
  subst hs
  have ok5' := allFresh_nodup ok5
  simp only [List.nodup_cons, List.mem_cons, not_or] at ok5'
  obtain ⟨⟨_, nd⟩, nn, nn0⟩ := ok5'
  have kinds : ∀ p ∈ fd.scope.names, p.2 = .local ∨ p.2 = .cell ∨ p.2 = .globalImplicit := fun p hp => by
    have := List.all_eq_true.mp ok4 p hp
    revert this; cases p.2 <;> simp
  have first : ∀ {as : List Arg} {nl : NL}, paramsFirst as nl = true → ∀ x ∈ as.map (·.arg), (x, NameKind.local) ∈ nl ∨ (x, NameKind.cell) ∈ nl := by
    intro as
    induction as with
    | nil => intro nl _ x hx; cases hx
    | cons a as ih =>
      intro nl hp x hx
      cases nl with
      | nil => cases hp
      | cons p r =>
        obtain ⟨y, kd⟩ := p
        cases kd <;> simp only [paramsFirst, Bool.false_eq_true, Bool.and_eq_true] at hp
        all_goals
          rw [List.map_cons] at hx
          rcases List.mem_cons.mp hx with rfl | hx
          · rw [sq_iff.mp hp.1]; first | exact .inl (.head _) | exact .inr (.head _)
          · rcases ih hp.2 x hx with h | h
            · exact .inl (.tail _ h)
            · exact .inr (.tail _ h)
  have sub : ∀ {as : List Arg} {nl : NL}, paramsFirst as nl = true → (as.map (·.arg)).Sublist (nl.map (·.1)) := by
    intro as
    induction as with
    | nil => intro nl _; exact List.nil_sublist _
    | cons a as ih =>
      intro nl hp
      cases nl with
      | nil => cases hp
      | cons p r =>
        obtain ⟨y, kd⟩ := p
        cases kd <;> simp only [paramsFirst, Bool.false_eq_true, Bool.and_eq_true] at hp
        all_goals
          rw [List.map_cons, List.map_cons, sq_iff.mp hp.1]
          exact List.Sublist.cons₂ _ (ih hp.2)
  have asnd : (as.map (·.arg)).Nodup := (sub ok6).nodup nn0
  have r' : Reps S s.heap (ds ++ dd) (vs ++ extra) := r.append (hex _ _)
  have hvl : (vs ++ extra).length = as.length := by rw [r'.length, List.length_append]; exact hl
  generalize hvv : vs ++ extra = vv at r' hvl
  have hkeys : ((as.map (·.arg)).zip vv).map (·.1) = as.map (·.arg) := List.map_fst_zip (by simp [hvl])
  have hkind : ∀ x ∈ (as.map (·.arg)).zip vv, fd.scope.names.lookup x.1 = some .local ∨ (fd.scope.names.lookup x.1 = some .cell ∧ ((cellsFrom (s.heap.objs.size + 1) fd.scope.names []).lookup x.1).isSome = true) := fun x hx => by
    rcases first ok6 _ (List.of_mem_zip (a := x.1) (b := x.2) hx).1 with h | h
    · exact .inl (lookup_of_mem nn0 h)
    · obtain ⟨a, ha⟩ := cellsFrom_has (n := s.heap.objs.size + 1) (acc := []) h
      exact .inr ⟨lookup_of_mem nn0 h, some_of_mem ha⟩
  refine codeAny_call_function (by have := ro.depth; lia) (i.k _ _ ho') hd ok2 ok3 hb (codeRec_of i.k hcd) (hbd s vs i.k (by rw [r.length]; exact hl) _ _ _ _ ?_)
  rw [hc, hvv]
  refine wpAny_newFunctionEnv_cells ok1 hkind fun env he s₁ x => ⟨i.lim.keeps x.toInCall.keep, codeAny_func ?_⟩
  have hloc : env.locals = s.heap.objs.size := by rw [he]; rfl
  have hsc : env.scope = fd.scope := by rw [he]; rfl
  have hcl : env.cells = cellsFrom (s.heap.objs.size + 1) fd.scope.names [] := by rw [he]; rfl
  have hko : env.kindOf = fun x => fd.scope.names.lookup x := by rw [he]; rfl
  have heg : env.globals = mainGlobals := by rw [he]; exact hg
  have heb : env.builtins = builtinsNs := by rw [he]; exact hbl
  clear he
  obtain ⟨h₁, tk₁, hs1⟩ := x.toInCall.same
  subst hs1
  have hk0 : ∀ b o, s.heap.get? b = some o → h₁.get? b = some o := x.toInCall.keep
  have kp0 : Kp No s { s with heap := h₁, toks := tk₁ } := Kp.heap hk0
  have none_of : ∀ b, s.heap.objs.size ≤ b → s.heap.get? b = none := fun b hb => by
    cases e : s.heap.get? b with
    | none => rfl
    | some o => exact absurd (Heap.lt_size e) (Nat.not_lt.mpr hb)
  have hnew : ∀ b, (b = env.locals ∨ ∃ x, env.cells.lookup x = some b) → s.heap.objs.size ≤ b := fun b hb => by
    rcases hb with rfl | ⟨y, hy⟩
    · rw [hloc]; exact Nat.le_refl _
    · have := x.above y b (mem_of_lookup hy); rw [hloc] at this; exact Nat.le_of_lt this
  have hlive1 : ∀ b, (b = env.locals ∨ ∃ x, env.cells.lookup x = some b) → (h₁.get? b).isSome = true := fun b hb => by
    rcases hb with rfl | ⟨y, hy⟩
    · obtain ⟨o, _, _, e, _⟩ := x.toInCall.ns; show (h₁.get? _).isSome = true; rw [show h₁.get? env.locals = some o from e]; rfl
    · obtain ⟨o, e, _⟩ := x.cell y b hy; rw [show h₁.get? b = some o from e]; rfl
  let S' : Addr → Prop := fun a => S a ∨ a = env.locals ∨ ∃ x, env.cells.lookup x = some a
  have notOld : ∀ a, s.heap.objs.size ≤ a → c.K.lookup a = none ∧ a ≠ mainGlobals ∧ a ≠ cStatics ∧ a ≠ builtinsNs := fun a ha => by
    have hn := none_of a ha
    refine ⟨?_, ?_, ?_, ?_⟩
    · cases e : c.K.lookup a with
      | none => rfl
      | some o' => rw [i.k _ _ e] at hn; cases hn
    · intro e; obtain ⟨o, _, _, g, _⟩ := i.g; rw [← e, hn] at g; cases g
    · intro e; obtain ⟨mc, ⟨o, _, _, g, _⟩, _⟩ := i.lim; rw [← e, hn] at g; cases g
    · intro e; obtain ⟨o, _, _, g, _⟩ := i.b; rw [← e, hn] at g; cases g
  have live' : Live c S' h₁ := ⟨.inl l.blt, fun a ha => by
    rcases ha with ha | ha
    · exact (l.kp i kp0 Still.no).all a ha
    · obtain ⟨n1, n2, n3, _⟩ := notOld a (hnew a ha)
      exact ⟨hlive1 a ha, n1, n2, n3⟩⟩
  have notS' : ∀ a, ¬ S a → (s.heap.get? a).isSome = true → ¬ S' a := fun a n hs ha => by
    rcases ha with ha | ha
    · exact n ha
    · rw [none_of a (hnew a ha)] at hs; cases hs
  have hmu1 : MuAt S' h₁ μ := hmu.mono (fun a o _ e => hk0 a o e) (fun a o _ e => hk0 a o e) notS'
  have hms1 : ∀ b, μ.has b → b < s.heap.objs.size := fun b hb => by
    obtain ⟨o, e⟩ := Option.isSome_iff_exists.mp (Mu.isSome hmu b hb); exact Heap.lt_size e
  have at0 : At c k fd.scope.names (initEnv fd.scope.names (ds ++ dd)) μ (A.deeper env) env S' { s with heap := h₁, toks := tk₁ } := {
    room := ro.deeper
    scope := by rw [hsc]
    kind := by rw [hsc]; exact ok1
    glob := heg
    blt := heb
    names := nn0
    dbg := fun p hp => by
      have hp' : p.1 ∈ fd.scope.names.map (·.1) := List.mem_map.mpr ⟨p, hp, rfl⟩
      exact ⟨beq_eq_false_iff_ne.mpr fun e => nd (e ▸ hp'), fun e => nn (e ▸ hp')⟩
    live := live'
    inn := i.kp l (fun _ q => q.elim) kp0
    ns := ⟨_, x.toInCall.ns⟩
    loc := .inr (.inl rfl)
    locb := (notOld _ (by rw [hloc]; exact Nat.le_refl _)).2.2.2
    cells := fun y a e => ⟨.inr (.inr ⟨y, e⟩), (notOld a (hnew a (.inr ⟨y, e⟩))).2.2.2, Nat.ne_of_gt (x.above y a (mem_of_lookup e)), _, x.cell y a e⟩
    cellOne := fun y z a e e' => name_of_addr x.apart (mem_of_lookup e) (mem_of_lookup e')
    cellHas := fun y e => by
      rw [hko] at e
      obtain ⟨a, ha⟩ := cellsFrom_has (n := s.heap.objs.size + 1) (acc := []) (mem_of_lookup e)
      have := some_of_mem ha
      rw [← hcl] at this
      exact Option.isSome_iff_exists.mp this
    nodup := initEnv_sub.nodup nn0
    kinds := fun p hp => by
      rw [hko]
      rcases initEnv_keys hp with h | h
      · exact .inl (lookup_of_mem nn0 h)
      · exact .inr (.inl (lookup_of_mem nn0 h))
    rep := fun y d hx => by
      obtain ⟨v, hv, rv⟩ := zip_rep r' y d (initEnv_val ok6 (by rw [List.length_append]; exact hl) hx)
      refine ⟨v, ?_, Rep.mono (fun a o _ e => hk0 a o e) notS' rv⟩
      rcases hkind _ hv with hl' | ⟨hl', hc'⟩
      · refine .inl ⟨by rw [hko]; exact hl', _, x.toInCall.ns, ?_⟩
        exact bindL_mem (by rw [hkeys]; exact asnd) hv (by rw [hko]; exact hl')
      · obtain ⟨a, ha⟩ := Option.isSome_iff_exists.mp hc'
        rw [← hcl] at ha
        refine .inr ⟨.inl (by rw [hko]; exact hl'), a, ha, ?_⟩
        have hce := x.cell y a ha
        rw [bindC_mem (by rw [hkeys]; exact asnd) hv (by rw [hko]; exact hl')] at hce
        exact hce
    mu := hmu1
    muS := fun b hb => ⟨.inl (hms b hb).1, (hms b hb).2, fun e => by have := hms1 b hb; rw [e, hloc] at this; exact Nat.lt_irrefl _ this, fun y e => by have := hms1 b hb; exact Nat.not_le.mpr this (hnew b (.inr ⟨y, e⟩))⟩ }
  have nf : NoFree env := fun y e => by
    rw [hko] at e
    rcases kinds _ (mem_of_lookup e) with h | h | h <;> cases h
  have kpf : ∀ {s' : Shared}, Kp (Own env μ) { s with heap := h₁, toks := tk₁ } s' → Kp μ.has s s' := fun {s'} kp => by
    refine ⟨?_, fun b o nm e => kp.keep0 b o (fun ow => ?_) (hk0 b o e), fun m e => kp.blt m (e.keeps hk0)⟩
    · obtain ⟨h1, t1, e1⟩ := kp.same; exact ⟨h1, t1, e1⟩
    · rcases ow with ow | ow | ow
      · rw [none_of b (hnew b (.inl ow))] at e; cases e
      · rw [none_of b (hnew b (.inr ow))] at e; cases e
      · exact nm ow
  exact wpAny_mono (h at0 nf kp0 (fun _ z => .inl z) fun s' kp => kpf kp) (fun fl s' hq => by cases fl <;> exact hq) (fun _ _ e => e.elim)
theorem FNM.intro {f : Addr} {as : List Arg} {body : List Stmt} {ds dd : List D} {d : D} {o : Out} (F : FnAt c f as sc body dd) (ok : stOk as sc = true) (hl : ds.length + dd.length = as.length) (h : EX c k sc.names (initEnv sc.names (ds ++ dd)) μ body [] o) (ho : Ends o d μ') : FNM c (k + 1) (.ref f) μ ds d μ' := by
  intro A S s vs Q ro l i hmu hms r q
  refine FN.core F ok hl ro l i hmu hms r fun {env S' s1} at0 nf k0 hS kpf => ?_
  have fin : ∀ {v s'}, Kp (Own env μ) s1 s' → Rep S' s'.heap d v → MuAt S' s'.heap μ' → Q (.ok (.ret v)) s' := fun {v s'} kp rv m' =>
    q v s' (kpf s' kp) (Rep.mono (fun _ _ _ e => e) (fun a n _ h => n (hS a h)) rv) (m'.mono (fun _ _ _ e => e) (fun _ _ _ e => e) fun a n _ h => n (hS a h))
  rcases ho with rfl | ⟨rfl, ρ', rfl⟩
  · exact h at0 nf fun v s' kp st rv m' => fin kp rv m'
  · exact h at0 nf fun s' kp st a' => fin kp (by simp [Rep]) a'.mu
theorem FN.of_M {f : Value} {ds : List D} {d : D} {μ' : Mu} (h : FNM c k f .no ds d μ') : FN c k f ds d := fun ro l i r q => h ro l i trivial (fun _ e => e.elim) r fun v s' kp rv _ => q v s' (kp.weak fun _ e => e.elim) rv
theorem FN.intro {f : Addr} {as : List Arg} {body : List Stmt} {ds dd : List D} {d : D} (F : FnAt c f as sc body dd) (ok : stOk as sc = true) (hl : ds.length + dd.length = as.length) (h : EX c k sc.names (initEnv sc.names (ds ++ dd)) .no body [] (.ret d .no)) : FN c (k + 1) (.ref f) ds d :=
  FN.of_M (FNM.intro F ok hl h (.inl rfl))
/-- a class of the top's -/
structure ClsOk (c : Cx) (C fI : Addr) : Prop where
  made : makesIn c.K C = true
  init : findIn c.K (.ref C) "__init__" = some (some (.ref fI))
  fn : typeIn c.K (.ref fI) = some (.type "function")
theorem FN.cls {C fI : Addr} {ds ds' : List D} {ns : List Str} (K : ClsOk c C fI) (h : ∀ a da, FNM c k (.ref fI) (.obj a da C [] []) (.ptr a :: ds) .none (.obj a da C ns ds')) : FN c (k + 1) (.ref C) ds (.obj C ns ds') := by
  intro A S s vs Q ro l i r q
  obtain ⟨hh, g, dr, t, os⟩ := s
  refine (make_core (rest := vs) (kw := []) (makes_of i.k K.made) (looks_findIn i.k K.init) (fun self => bind_fn i.k self K.fn) (.inl rfl) ?_)
  let H := (hh.push emptyDict).push (instObj C hh.objs.size)
  have k0 : Kp No (⟨hh, g, dr, t, os⟩ : Shared) ⟨H, g, dr, t, os⟩ := Kp.heap (t := t) fun b o e => Heap.get?_push_of_some _ (Heap.get?_push_of_some _ e)
  have e1 : H.get? (hh.objs.size + 1) = some (instObj C hh.objs.size) := by
    have := Heap.get?_push_size (hh.push emptyDict) (o := instObj C hh.objs.size) rfl
    rwa [Heap.size_push] at this
  have e2 : H.get? hh.objs.size = some emptyDict := Heap.get?_push_of_some _ (Heap.get?_push_size _ rfl)
  have none_of : ∀ b, hh.objs.size ≤ b → hh.get? b = none := fun b hb => by
    cases e : hh.get? b with
    | none => rfl
    | some o => exact absurd (Heap.lt_size e) (Nat.not_lt.mpr hb)
  let S' : Addr → Prop := fun a => S a ∨ a = hh.objs.size + 1 ∨ a = hh.objs.size
  have hnew : ∀ b, (b = hh.objs.size + 1 ∨ b = hh.objs.size) → hh.objs.size ≤ b := fun b hb => by rcases hb with rfl | rfl <;> lia
  have notOld : ∀ a, hh.objs.size ≤ a → c.K.lookup a = none ∧ a ≠ mainGlobals ∧ a ≠ cStatics ∧ a ≠ builtinsNs := fun a ha => by
    have hn := none_of a ha
    refine ⟨?_, ?_, ?_, ?_⟩
    · cases e : c.K.lookup a with
      | none => rfl
      | some o' => rw [i.k _ _ e] at hn; cases hn
    · intro e; obtain ⟨o, _, _, g, _⟩ := i.g; rw [← e, hn] at g; cases g
    · intro e; obtain ⟨mc, ⟨o, _, _, g, _⟩, _⟩ := i.lim; rw [← e, hn] at g; cases g
    · intro e; obtain ⟨o, _, _, g, _⟩ := i.b; rw [← e, hn] at g; cases g
  have live' : Live c S' H := ⟨.inl l.blt, fun a ha => by
    rcases ha with ha | ha
    · exact (l.kp i k0 Still.no).all a ha
    · obtain ⟨n1, n2, n3, _⟩ := notOld a (hnew a ha)
      exact ⟨by rcases ha with rfl | rfl; (rw [e1]; rfl); (rw [e2]; rfl), n1, n2, n3⟩⟩
  have notS' : ∀ a, ¬ S a → (hh.get? a).isSome = true → ¬ S' a := fun a n hs ha => by
    rcases ha with ha | ha
    · exact n ha
    · rw [none_of a (hnew a ha)] at hs; cases hs
  have hi : c.In H := i.kp l (fun _ q => q.elim) k0
  refine h (hh.objs.size + 1) hh.objs.size (A := A.under _) (S := S') (s := ⟨H, g, dr, t, os⟩) (vs := .ref (hh.objs.size + 1) :: vs) 
    ⟨ro.handled, by have := ro.depth; show A.depth + 1 + 2 * (k + 1) < _; lia, by have := ro.units; show A.units + 1 + 60 * (k + 1) < _; lia⟩ live' hi
    ⟨Nat.succ_ne_self _, [], 0, e1, e2, trivial, rfl⟩ (fun b hb => ⟨.inr hb, (notOld b (hnew b hb)).2.2.2⟩) (by simp only [Reps]; exact ⟨_, _, rfl, by simp [Rep], Reps.mono (fun b o _ e => Heap.get?_push_of_some _ (Heap.get?_push_of_some _ e)) notS' r⟩)
    (fun v s' kp rv m' => by
      refine And.intro rv.none_inv (q _ s' ?_ ?_)
      · have kp1 := k0.of_no.trans kp
        refine ⟨kp1.same, fun b o _ e => kp1.keep0 b o (fun ow => ?_) e, kp1.blt⟩
        rw [none_of b (hnew b ow)] at e; cases e
      · obtain ⟨ne, es, n, g1, g2, ks, rs⟩ := m'
        have fr : ∀ a, hh.objs.size ≤ a → ¬ S a := fun a ha hs => by
          obtain ⟨o, e⟩ := Option.isSome_iff_exists.mp (l.all a hs).1
          rw [none_of a ha] at e; cases e
        simp only [Rep]
        exact ⟨_, _, es, n, rfl, fr (hh.objs.size + 1) (Nat.le_succ _), fr hh.objs.size (Nat.le_refl _), g1, g2, ks, Reps.mono (fun _ _ _ e => e) (fun a n _ h => n (.inl h)) rs⟩)
end
end Mine
end
section
-- A6
open PySem PySem.W PyProof.Rows
set_option Elab.async false
set_option linter.all false
set_option maxRecDepth 100000
namespace Mine
section
variable {c : Cx} {k : Nat} {nl : NL} {ρ : Names} {μ : Mu}
theorem seqIdx {i : Int} {n : Nat} (h0 : 0 ≤ i) (h1 : i.toNat < n) : seqIndex? i n = some i.toNat := by
  have h : (if i < 0 then i + (n : Int) else i) = i := if_neg (by lia)
  simp only [seqIndex?, h]
  rw [if_pos]
  simp; lia
theorem Reps.at : ∀ {S : Addr → Prop} {h : Heap} {l : List D} {vs : List Value} {i : Nat} {d : D}, Reps S h l vs → l[i]? = some d → ∃ v, vs[i]? = some v ∧ Rep S h d v
  | S, h, [], vs, i, d, r, e => by simp at e
  | S, h, x :: l, vs, 0, d, r, e => by
    simp only [Reps] at r; obtain ⟨v, q, rfl, r1, _⟩ := r
    simp at e; subst e; exact ⟨v, rfl, r1⟩
  | S, h, x :: l, vs, i + 1, d, r, e => by
    simp only [Reps] at r; obtain ⟨v, q, rfl, _, r2⟩ := r
    simp at e; obtain ⟨u, h1, h2⟩ := Reps.at r2 e
    exact ⟨u, by simpa using h1, h2⟩
noncomputable def plainSlice (slice : Expr) : Prop := ∀ o i, subscripted slice false o i = operate [o, i] (getItem o i)
theorem EV.subT {value slice : Expr} {pos : Pos} {l : List D} {i : Int} {d : D} (h1 : EV c k nl ρ μ value (.tup l)) (h2 : EV c k nl ρ μ slice (.int i)) (hx : l[i.toNat]? = some d) (hi : 0 ≤ i := by decide) (hl : (l.length : Int) < 2 ^ 63 := by decide) (hs : plainSlice slice := by with_unfolding_all (intro _ _; rfl)) :
    EV c k nl ρ μ (.Subscript value slice pos) d := fun a q =>
  Subscript_ (h1 a fun v s1 k1 r1 => h2 (a.kp k1) fun u s2 k2 r2 => by
    obtain ⟨t, rfl⟩ := r2.int_inv
    obtain ⟨b, vs, rfl, _, ht, rs⟩ := (r1.kp a.live.blt (fun _ q => q.elim) k2).tupl
    obtain ⟨x, hx1, rx⟩ := rs.at hx
    have hlt : i.toNat < vs.length := (List.getElem?_eq_some_iff.mp hx1).1
    have hle := rs.length
    exact item_tupleT ht (by lia) (by lia) (j := i.toNat) (seqIdx hi hlt) hx1 (q _ _ (k1.trans k2) rx) (hs _ _))
theorem EV.subL {value slice : Expr} {pos : Pos} {l : List D} {i : Int} {d : D} (h1 : EV c k nl ρ μ value (.lst l)) (h2 : EV c k nl ρ μ slice (.int i)) (hx : l[i.toNat]? = some d) (hi : 0 ≤ i := by decide) (hl : (l.length : Int) < 2 ^ 63 := by decide) (hs : plainSlice slice := by with_unfolding_all (intro _ _; rfl)) :
    EV c k nl ρ μ (.Subscript value slice pos) d := fun a q =>
  Subscript_ (h1 a fun v s1 k1 r1 => h2 (a.kp k1) fun u s2 k2 r2 => by
    obtain ⟨t, rfl⟩ := r2.int_inv
    obtain ⟨b, vs, rfl, _, ht, rs⟩ := (r1.kp a.live.blt (fun _ q => q.elim) k2).list
    obtain ⟨x, hx1, rx⟩ := rs.at hx
    have hlt : i.toNat < vs.length := (List.getElem?_eq_some_iff.mp hx1).1
    have hle := rs.length
    exact tail_any ht.typeIs slot_list_getitem.lookup (wpAny_getItem_list ht hi (by lia) (by simpa using hx1) (q _ _ (k1.trans k2) rx)) (hs _ _))
theorem EV.subS {value slice : Expr} {pos : Pos} {x : Str} {i : Int} {n : Nat} (h1 : EV c k nl ρ μ value (.str x)) (h2 : EV c k nl ρ μ slice (.int i)) (hx : x.cps[i.toNat]? = some n) (hi : 0 ≤ i := by decide) (hl : (x.length : Int) < 2 ^ 63 := by decide) (hs : plainSlice slice := by with_unfolding_all (intro _ _; rfl)) :
    EV c k nl ρ μ (.Subscript value slice pos) (.str ⟨#[n]⟩) := fun a q =>
  Subscript_ (h1 a fun v s1 k1 r1 => h2 (a.kp k1) fun u s2 k2 r2 => by
    obtain ⟨t, rfl⟩ := r2.int_inv
    obtain ⟨t', rfl⟩ := (r1.kp a.live.blt (fun _ q => q.elim) k2).str_inv
    have hlt : i.toNat < x.length := (Array.getElem?_eq_some_iff.mp hx).1
    refine tail_any (typeIs_str _ _ _) F.slot_str_getitem.lookup (P.getItem_str (c := n) ?_ ?_ (q _ _ ((k1.trans k2).trans Kp.toks) Rep.str_mk)) (hs _ _)
    · rw [decide_eq_false (by lia), decide_eq_false (by lia)]; rfl
    · rw [seqIdx hi hlt]; exact hx)
/-- kept from a state on -/
theorem kept_push {s0 : Shared} : KeptByPush (fun s' => Kp No s0 s') := fun _ _ _ x => x.trans Kp.push
noncomputable def plainVal (value : Expr) : Prop := ∀ o r, letTemporaryGo value o r = pure ()
theorem EV.sliceTo {value e : Expr} {p pos : Pos} {x : Str} {j : Int} (h1 : EV c k nl ρ μ value (.str x)) (h2 : EV c k nl ρ μ e (.int j)) (hsz : x.length ≤ sizeLine) (hv : plainVal value := by with_unfolding_all (intro _ _; rfl)) : EV c k nl ρ μ (.Subscript value (.Slice .none (some e) .none p) pos) (.str (Txt.slice x .none (some j))) := fun {A env S s Q E} a q =>
  Subscript_Slice (h1 a fun v s1 k1 r1 => wpAny_Slice (evalPart_none_step (evalPart_some_step (h2 (a.kp k1) fun u s2 k2 r2 => evalPart_none_step (by
    obtain ⟨t', rfl⟩ := r2.int_inv
    obtain ⟨t, rfl⟩ := r1.str_inv
    exact SBG.sliceItem_ns kept_push (k1.trans k2) (fun s' t' kp => q _ _ kp Rep.str_mk) hsz))))) hv
theorem EV.sliceFrom {value e : Expr} {p pos : Pos} {x : Str} {j : Int} (h1 : EV c k nl ρ μ value (.str x)) (h2 : EV c k nl ρ μ e (.int j)) (hsz : x.length ≤ sizeLine) (hv : plainVal value := by with_unfolding_all (intro _ _; rfl)) : EV c k nl ρ μ (.Subscript value (.Slice (some e) .none .none p) pos) (.str (Txt.slice x (some j) .none)) := fun {A env S s Q E} a q =>
  Subscript_Slice (h1 a fun v s1 k1 r1 => wpAny_Slice (evalPart_some_step (h2 (a.kp k1) fun u s2 k2 r2 => evalPart_none_step (evalPart_none_step (by
    obtain ⟨t', rfl⟩ := r2.int_inv
    obtain ⟨t, rfl⟩ := r1.str_inv
    exact SBG.sliceItem_sn kept_push (k1.trans k2) (fun s' t' kp => q _ _ kp Rep.str_mk) hsz))))) hv
theorem EV.sliceBoth {value e e' : Expr} {p pos : Pos} {x : Str} {i j : Int} (h1 : EV c k nl ρ μ value (.str x)) (h2 : EV c k nl ρ μ e (.int i)) (h3 : EV c k nl ρ μ e' (.int j)) (hsz : x.length ≤ sizeLine) (hv : plainVal value := by with_unfolding_all (intro _ _; rfl)) : EV c k nl ρ μ (.Subscript value (.Slice (some e) (some e') .none p) pos) (.str (Txt.slice x (some i) (some j))) := fun {A env S s Q E} a q =>
  Subscript_Slice (h1 a fun v s1 k1 r1 => wpAny_Slice (evalPart_some_step (h2 (a.kp k1) fun u s2 k2 r2 => evalPart_some_step (h3 ((a.kp k1).kp k2) fun w s3 k3 r3 => evalPart_none_step (by
    obtain ⟨t', rfl⟩ := r2.int_inv
    obtain ⟨t2, rfl⟩ := r3.int_inv
    obtain ⟨t, rfl⟩ := r1.str_inv
    exact SBG.sliceItem_ss kept_push ((k1.trans k2).trans k3) (fun s' t' kp => q _ _ kp Rep.str_mk) hsz))))) hv
theorem Reps.take {S : Addr → Prop} {h : Heap} : ∀ {l : List D} {vs : List Value} (n : Nat), Reps S h l vs → Reps S h (l.take n) (vs.take n)
  | [], vs, n, r => by simp only [Reps] at r; subst r; simp [Reps]
  | d :: l, vs, 0, r => by simp [Reps]
  | d :: l, vs, n + 1, r => by
    simp only [Reps] at r; obtain ⟨v, q, rfl, r1, r2⟩ := r
    simp only [List.take_succ_cons, Reps]
    exact ⟨v, _, rfl, r1, r2.take n⟩
theorem EV.sliceL {value e : Expr} {p pos : Pos} {l : List D} {j : Nat} (h1 : EV c k nl ρ μ value (.lst l)) (h2 : EV c k nl ρ μ e (.int j)) (hsz : l.length ≤ sizeLine) (hv : plainVal value := by with_unfolding_all (intro _ _; rfl)) : EV c k nl ρ μ (.Subscript value (.Slice .none (some e) .none p) pos) (.lst (l.take j)) := fun {A env S s Q E} a q =>
  Subscript_Slice (h1 a fun v s1 k1 r1 => wpAny_Slice (evalPart_none_step (evalPart_some_step (h2 (a.kp k1) fun u s2 k2 r2 => evalPart_none_step (by
    obtain ⟨t', rfl⟩ := r2.int_inv
    obtain ⟨b, vs, rfl, _, ht, rs⟩ := (r1.kp a.live.blt (fun _ q => q.elim) k2).list
    have a2 := (a.kp k1).kp k2
    refine ⟨"list", _, slot_list_getitem.lookup, (ht.push _).typeIs, wpAny_getItem_list_slice (ht.push _) ⟨_, Heap.get?_push_size _ rfl, rfl, rfl⟩ .none (.int _ _) .none (by decide) (q _ _ (((k1.trans k2).trans (Kp.push (t := s2.toks))).trans (Kp.push (t := s2.toks))) ?_) (by rw [List.size_toArray, rs.length]; exact hsz)⟩
    rw [slicePick_upto']
    simp only [Rep]
    exact ⟨_, vs.take j, rfl, (a2.kp (Kp.push (t := s2.toks))).live.fresh, ⟨_, Heap.get?_push_size _ rfl, rfl, _, rfl⟩, ((rs.push _).push _).take j⟩))))) hv
theorem BinD.mulS {x : Str} {n : Int} (h : MulOk x n) : BinD c .Mult (.str x) (.int n) (.str (Txt.mul x n)) := fun _ _ r r' q => by
  obtain ⟨t, rfl⟩ := r.str_inv; obtain ⟨u, rfl⟩ := r'.int_inv
  exact SB.mul h fun t' k => q _ _ Kp.toks Rep.str_mk
/-- plain data that can be told apart by a look -/
inductive EqD : D → D → Bool → Prop
  | int (i j : Int) : EqD (.int i) (.int j) (i == j)
  | str (x y : Str) : EqD (.str x) (.str y) (x == y)
theorem EqD.at {A : Around} {S : Addr → Prop} {s : Shared} {d e : D} {b : Bool} {v u : Value} (h : EqD d e b) (r : Rep S s.heap d v) (r' : Rep S s.heap e u) : SeqAt.EqAt A s v u b := by
  cases h with
  | int i j => obtain ⟨t, rfl⟩ := r.int_inv; obtain ⟨t', rfl⟩ := r'.int_inv; exact (MeetsSeq.EqGives.int i j t t').at _ _
  | str i j => obtain ⟨t, rfl⟩ := r.str_inv; obtain ⟨t', rfl⟩ := r'.str_inv; exact (eqGives_str i j t t').at _ _
noncomputable def anyS (x : Str) (l : List Str) : Bool := l.any fun y => sq y x
theorem sq_beq (x y : Str) : sq x y = (x == y) := by
  rw [Bool.eq_iff_iff, sq_iff, beq_iff_eq]
theorem Rep.tupl' {S : Addr → Prop} {h : Heap} {l : List D} {v : Value} (r : Rep S h (.tup l) v) : ∃ a vs, v = .ref a ∧ ¬ S a ∧ h.IsTuple a vs.toArray ∧ Reps S h l vs := r.tupl
theorem CmpD.inT {x : Str} {l : List Str} : CmpD c .In (.str x) (.tup (txts l)) (anyS x l) := fun _ _ _ r r' q => by
  obtain ⟨t, rfl⟩ := r.str_inv
  obtain ⟨b, vs, rfl, _, ht, rs⟩ := r'.tupl'
  obtain ⟨ps, rfl, e⟩ := rep_strValues rs
  refine SeqAt.in_tupleAt (fun v => match v with | .str y _ => sq y x | _ => false) ht (fun y hy => ?_) ?_
  · have : ∃ p ∈ ps, y = .str p.1 p.2 := by
      have hy' : y ∈ strValues ps := by simpa using hy
      unfold strValues at hy'
      obtain ⟨p, hp, rfl⟩ := List.mem_map.mp hy'
      exact ⟨p, hp, rfl⟩
    obtain ⟨p, _, rfl⟩ := this
    dsimp only
    rw [sq_beq]
    exact (eqGives_str p.1 x p.2 t).at _ _
  · have : (strValues ps).toArray.any (fun v => match v with | .str y _ => sq y x | _ => false) = anyS x l := by
      rw [List.any_toArray, ← e]
      unfold strValues anyS
      rw [List.any_map, List.any_map]
      rfl
    rw [this]; exact q _ Kp.refl
theorem rangeAll {e : Nat → Bool} : ∀ {n : Nat}, ((List.range n).all e) = true ↔ ∀ i < n, e i = true := by
  intro n; simp [List.all_eq_true, List.mem_range]
/-- two pairs of ints -/
theorem eqPair {A : Around} {S : Addr → Prop} {s : Shared} {i j m n : Int} {v u : Value} {Q : Value → Shared → Prop} {E : Value → Shared → Prop} (ro : Room 1 A) (r : Rep S s.heap (.tup [.int i, .int j]) v) (r' : Rep S s.heap (.tup [.int m, .int n]) u)
    (q : Q (.bool (i == m && j == n)) s) : wpAny (model c.prog c.w) A (compareOp .Eq v u) Q E s := by
  obtain ⟨a, v1, v2, rfl, ht, r1, r2⟩ := r.tup2
  obtain ⟨b, u1, u2, rfl, hu, r3, r4⟩ := r'.tup2
  obtain ⟨t1, rfl⟩ := r1.int_inv; obtain ⟨t2, rfl⟩ := r2.int_inv; obtain ⟨t3, rfl⟩ := r3.int_inv; obtain ⟨t4, rfl⟩ := r4.int_inv
  refine SeqAt.eq_tupleAt (e := fun x => if x = 0 then i == m else j == n) ht hu (by have := ro.units; lia) (fun x h1 h2 => ?_) ?_
  · match x, h1, h2 with
    | 0, _, _ => exact (MeetsSeq.EqGives.int i m _ _).at _ _
    | 1, _, _ => exact (MeetsSeq.EqGives.int j n _ _).at _ _
  · have : ((List.range (min (#[Value.int i t1, Value.int j t2] : Array Value).size (#[Value.int m t3, Value.int n t4] : Array Value).size)).all (fun x => if x = 0 then i == m else j == n) && (#[Value.int i t1, Value.int j t2] : Array Value).size == (#[Value.int m t3, Value.int n t4] : Array Value).size) = (i == m && j == n) := by
      simp [List.range, List.range.loop]
    rw [this]; exact q
theorem CmpD.eqP {i j m n : Int} : CmpD c .Eq (.tup [.int i, .int j]) (.tup [.int m, .int n]) (i == m && j == n) := fun ro _ _ r r' q => eqPair ro r r' (q _ Kp.refl)
theorem CmpD.neP {i j m n : Int} : CmpD c .NotEq (.tup [.int i, .int j]) (.tup [.int m, .int n]) (!(i == m && j == n)) := fun {A S s v u Q E} ro _ _ r r' q => by
  obtain ⟨a, v1, v2, rfl, ht, r1, r2⟩ := r.tup2
  obtain ⟨b, u1, u2, rfl, hu, r3, r4⟩ := r'.tup2
  obtain ⟨t1, rfl⟩ := r1.int_inv; obtain ⟨t2, rfl⟩ := r2.int_inv; obtain ⟨t3, rfl⟩ := r3.int_inv; obtain ⟨t4, rfl⟩ := r4.int_inv
  have ht' : s.heap.IsTuple a #[Value.int i t1, Value.int j t2] := ht
  have hu' : s.heap.IsTuple b #[Value.int m t3, Value.int n t4] := hu
  refine SeqAt.RcNeAt.tuples (e := fun x => if x = 0 then i == m else j == n) ht' hu' (by have := ro.units; lia) (fun x h1 h2 => ?_) c.prog c.w E Q ?_
  · match x, h1, h2 with
    | 0, _, _ => exact (MeetsSeq.EqGives.int i m _ _).at _ _
    | 1, _, _ => exact (MeetsSeq.EqGives.int j n _ _).at _ _
  · have : ((List.range (min (#[Value.int i t1, Value.int j t2] : Array Value).size (#[Value.int m t3, Value.int n t4] : Array Value).size)).all (fun x => if x = 0 then i == m else j == n) && (#[Value.int i t1, Value.int j t2] : Array Value).size == (#[Value.int m t3, Value.int n t4] : Array Value).size) = (i == m && j == n) := by
      simp [List.range, List.range.loop]
    rw [this]; exact q _ Kp.refl
theorem CmpD.eqNil {l : List D} : CmpD c .Eq (.lst l) (.lst []) (l.isEmpty) := fun ro _ _ r r' q => by
  obtain ⟨a, vs, rfl, _, ha, rs⟩ := r.list
  obtain ⟨b, us, rfl, _, hb, rs'⟩ := r'.list
  have e1 := rs.length
  have e2 := rs'.length
  simp only [Reps] at rs'; subst rs'
  cases l with
  | nil =>
    have : vs = [] := by simpa using e1
    subst this
    exact SeqAt.eq_listAt (e := fun _ => true) ha hb rfl (by have := ro.units; lia) (fun j h1 _ => by simp at h1) (by simpa using q _ Kp.refl)
  | cons d l =>
    exact SeqAt.eq_list_lengthsAt ha hb (by simp [e1]) (by have := ro.units; lia) (by simpa using q _ Kp.refl)
end
end Mine
end
section
-- A7
open PySem PySem.W PyProof.Rows
set_option Elab.async false
set_option linter.all false
set_option maxRecDepth 100000
namespace Mine
section
variable {c : Cx} {k : Nat} {nl : NL} {ρ ρ' ρ'' ρ3 : Names} {μ μ' : Mu}
theorem CmpD.neNil {l : List D} : CmpD c .NotEq (.lst l) (.lst []) (!l.isEmpty) := fun {A S s v u Q E} ro _ _ r r' q => by
  obtain ⟨a, vs, rfl, _, ha, rs⟩ := r.list
  obtain ⟨b, us, rfl, _, hb, rs'⟩ := r'.list
  have e1 := rs.length
  simp only [Reps] at rs'; subst rs'
  cases l with
  | nil =>
    have : vs = [] := by simpa using e1
    subst this
    exact SeqAt.RcNeAt.lists (e := fun _ => true) ha hb rfl (by have := ro.units; lia) (fun j h1 _ => by simp at h1) c.prog c.w E Q (by simpa using q _ Kp.refl)
  | cons d l =>
    exact SeqAt.RcNeAt.lists_lengths ha hb (by simp [e1]) (by have := ro.units; lia) c.prog c.w E Q (by simpa using q _ Kp.refl)
/-- a name of the top's that holds plain data -/
noncomputable def GlD (c : Cx) (x : Str) (d : D) : Prop := ∃ v, c.mg x = some v ∧ ∀ S h, Rep S h d v
theorem EV.glo {x : Str} {pos : Pos} {d : D} (g : GlD c x d) (hx : (x, NameKind.globalImplicit) ∈ nl) : EV c k nl ρ μ (.Name x pos) d := fun a q =>
  let ⟨_, hv, r⟩ := g
  Glo.load a hx hv (q _ _ Kp.refl (r _ _))
theorem BCall.isi {C : Addr} {ns : List Str} {ds : List D} : BCall c (.builtin "isinstance") [.obj C ns ds, .ptr C] (.bool true) := fun _ _ i r q => by
  obtain ⟨v, u, rfl, r1, r2⟩ := r.two
  have e : u = .ref C := by simpa [Rep] using r2
  subst e
  obtain ⟨b, da, es, n, rfl, I, ks, rs⟩ := r1.inst
  exact isi_call i.k (fun M => I.type) (by simp [isIn]) (fun e => by cases e) (q _ _ Kp.refl Rep.bool_mk)
theorem BCall.isn {C : Addr} {n : Int} (h : isNotIn c.K "int" C = true) : BCall c (.builtin "isinstance") [.int n, .ptr C] (.bool false) := fun _ _ i r q => by
  obtain ⟨v, u, rfl, r1, r2⟩ := r.two
  have e : u = .ref C := by simpa [Rep] using r2
  subst e
  obtain ⟨t, rfl⟩ := r1.int_inv
  exact isn_call (P := fun _ => True) i.k (fun M => Looks.of_pure rfl) h (fun e => by cases e) trivial int_cls (q _ _ Kp.toks Rep.bool_mk)
theorem none_of_size {h : Heap} {b : Addr} (hb : h.objs.size ≤ b) : h.get? b = none := by
  cases e : h.get? b with
  | none => rfl
  | some o => exact absurd (Heap.lt_size e) (Nat.not_lt.mpr hb)
/-- an address that is new is none of the top's -/
theorem newAddr {c : Cx} {s : Shared} (i : c.In s.heap) {a : Addr} (hn : s.heap.get? a = none) : c.K.lookup a = none ∧ a ≠ mainGlobals ∧ a ≠ cStatics ∧ a ≠ builtinsNs := by
  refine ⟨?_, ?_, ?_, ?_⟩
  · cases e : c.K.lookup a with
    | none => rfl
    | some o' => rw [i.k _ _ e] at hn; cases hn
  · intro e; obtain ⟨o, _, _, g, _⟩ := i.g; rw [← e, hn] at g; cases g
  · intro e; obtain ⟨mc, ⟨o, _, _, g, _⟩, _⟩ := i.lim; rw [← e, hn] at g; cases g
  · intro e; obtain ⟨o, _, _, g, _⟩ := i.b; rw [← e, hn] at g; cases g
/-- one address more may change: it is new since s0 -/
theorem At.grow {A : Around} {env : Env} {S : Addr → Prop} {s0 s : Shared} (a0 : At c k nl ρ μ A env S s0) (kp : Kp No s0 s) {I : Addr} (hn : s0.heap.get? I = none) (hs : (s.heap.get? I).isSome = true) : At c k nl ρ μ A env (fun b => S b ∨ b = I) s := by
  obtain ⟨n1, n2, n3, n4⟩ := newAddr a0.inn hn
  have a := a0.kp kp
  have nS : ∀ b, ¬ S b → (s0.heap.get? b).isSome = true → ¬ (S b ∨ b = I) := fun b hb h => by
    rintro (h' | rfl)
    · exact hb h'
    · rw [hn] at h; cases h
  exact {
    room := a.room
    scope := a.scope
    kind := a.kind
    glob := a.glob
    blt := a.blt
    names := a.names
    dbg := a.dbg
    live := ⟨.inl a.live.blt, fun b hb => by
      rcases hb with hb | rfl
      · exact a.live.all b hb
      · exact ⟨hs, n1, n2, n3⟩⟩
    inn := a.inn
    ns := a.ns
    loc := .inl a.loc
    locb := a.locb
    cells := fun x b e => let ⟨h1, h2⟩ := a.cells x b e; ⟨.inl h1, h2⟩
    cellOne := a.cellOne
    cellHas := a.cellHas
    nodup := a.nodup
    kinds := a.kinds
    rep := fun x d h => by
      obtain ⟨v, st, r⟩ := a0.rep x d h
      refine ⟨v, ?_, r.mono (fun b o n e => kp.keep b o id (fun q => n (q ▸ a0.live.blt)) e) nS⟩
      rcases st with ⟨h1, m, ⟨o, es, ep, e, r⟩, h3⟩ | ⟨h1, b, h2, o, h3, h4⟩
      · exact .inl ⟨h1, m, ⟨o, es, ep, kp.keep _ _ id a0.locb e, r⟩, h3⟩
      · exact .inr ⟨h1, b, h2, o, kp.keep _ _ id (a0.cells x b h2).2.1 h3, h4⟩
    mu := a0.mu.mono (fun b o hb e => kp.keep b o id (a0.muS b hb).2.1 e) (fun b o n e => kp.keep b o id (fun z => n (z ▸ a0.live.blt)) e) nS
    muS := fun b hb => let ⟨h1, h2⟩ := a.muS b hb; ⟨.inl h1, h2⟩ }
/-- back to fewer that may change -/
theorem At.shrink {A : Around} {env : Env} {S : Addr → Prop} {s : Shared} {I : Addr} (a : At c k nl ρ μ A env (fun b => S b ∨ b = I) s) (h1 : S builtinsNs) (h2 : S env.locals) (h3 : ∀ x b, env.cells.lookup x = some b → S b) (h4 : ∀ b, μ.has b → S b) : At c k nl ρ μ A env S s :=
  { a with
    live := ⟨h1, fun b hb => a.live.all b (.inl hb)⟩
    loc := h2
    cells := fun x b e => let ⟨_, h⟩ := a.cells x b e; ⟨h3 x b e, h⟩
    rep := fun x d h => let ⟨v, st, r⟩ := a.rep x d h; ⟨v, st, r.mono (fun _ _ _ e => e) fun b n _ h => n (.inl h)⟩
    mu := a.mu.mono (fun _ _ _ e => e) (fun _ _ _ e => e) fun b n _ h => n (.inl h)
    muS := fun b hb => let ⟨_, h⟩ := a.muS b hb; ⟨h4 b hb, h⟩ }
/-- a change at an address that is nobody's -/
theorem At.kpI {A : Around} {env : Env} {S : Addr → Prop} {s s' : Shared} {I : Addr} (a : At c k nl ρ μ A env S s) (hI : S I) (n1 : I ≠ env.locals) (n2 : ∀ x, env.cells.lookup x ≠ some I) (n3 : ¬ μ.has I) (q : Kp (fun b => b = I) s s') (hs : (s'.heap.get? I).isSome = true) : At c k nl ρ μ A env S s' :=
  { room := a.room
    scope := a.scope
    glob := a.glob
    blt := a.blt
    kind := a.kind
    names := a.names
    dbg := a.dbg
    live := a.live.kp a.inn q (fun b hb _ => by rw [show b = I from hb]; exact hs)
    inn := a.inn.kp a.live (fun b hb => by rw [show b = I from hb]; exact hI) q
    ns := by
      obtain ⟨m, o, es, ep, e, r⟩ := a.ns
      exact ⟨m, o, es, ep, q.keep _ _ (fun hb => n1 (Eq.symm hb)) a.locb e, r⟩
    loc := a.loc
    locb := a.locb
    cells := fun x b e => by
      obtain ⟨h1, h2, h3, v, o, h4, h5⟩ := a.cells x b e
      exact ⟨h1, h2, h3, v, o, q.keep _ _ (fun hb => n2 x (hb ▸ e)) h2 h4, h5⟩
    cellOne := a.cellOne
    cellHas := a.cellHas
    nodup := a.nodup
    kinds := a.kinds
    rep := fun x d h => by
      obtain ⟨v, st, r⟩ := a.rep x d h
      refine ⟨v, ?_, r.kp a.live.blt (fun b hb => by rw [show b = I from hb]; exact hI) q⟩
      rcases st with ⟨h1, m, ⟨o, es, ep, e, r⟩, h3⟩ | ⟨h1, b, h2, o, h3, h4⟩
      · exact .inl ⟨h1, m, ⟨o, es, ep, q.keep _ _ (fun hb => n1 (Eq.symm hb)) a.locb e, r⟩, h3⟩
      · exact .inr ⟨h1, b, h2, o, q.keep _ _ (fun hb => n2 x (hb ▸ h2)) (a.cells x b h2).2.1 h3, h4⟩
    mu := a.mu.mono (fun b o hb e => q.keep b o (fun h => n3 (h ▸ hb)) (a.muS b hb).2.1 e) (fun b o n e => q.keep b o (fun h => n (h ▸ hI)) (fun z => n (z ▸ a.live.blt)) e) fun _ n _ => n
    muS := a.muS }
/-- the address is let go, whatever becomes of it -/
theorem At.dropI {A : Around} {env : Env} {S : Addr → Prop} {s s' : Shared} {I : Addr} (a : At c k nl ρ μ A env (fun b => S b ∨ b = I) s) (h1 : S builtinsNs) (h2 : S env.locals) (h3 : ∀ x b, env.cells.lookup x = some b → S b) (h4 : ∀ b, μ.has b → S b) (nI : ¬ S I) (q : Kp (fun b => b = I) s s') : At c k nl ρ μ A env S s' := by
  have ne : ∀ b, S b → b ≠ I := fun b hb e => nI (e ▸ hb)
  have i' : c.In s'.heap := a.inn.kp a.live (fun b hb => .inr hb) q
  exact {
    room := a.room
    scope := a.scope
    glob := a.glob
    blt := a.blt
    kind := a.kind
    names := a.names
    dbg := a.dbg
    live := ⟨h1, fun b hb => by
      obtain ⟨e1, e2⟩ := a.live.all b (.inl hb)
      refine ⟨?_, e2⟩
      by_cases hbb : b = builtinsNs
      · subst hbb; obtain ⟨o, _, _, e, _⟩ := i'.b; rw [e]; rfl
      · obtain ⟨o, e⟩ := Option.isSome_iff_exists.mp e1; rw [q.keep b o (ne b hb) hbb e]; rfl⟩
    inn := i'
    ns := by
      obtain ⟨m, o, es, ep, e, r⟩ := a.ns
      exact ⟨m, o, es, ep, q.keep _ _ (ne _ h2) a.locb e, r⟩
    loc := h2
    locb := a.locb
    cells := fun x b e => by
      obtain ⟨_, e2, e3, v, o, h4, h5⟩ := a.cells x b e
      exact ⟨h3 x b e, e2, e3, v, o, q.keep _ _ (ne _ (h3 x b e)) e2 h4, h5⟩
    cellOne := a.cellOne
    cellHas := a.cellHas
    nodup := a.nodup
    kinds := a.kinds
    rep := fun x d h => by
      obtain ⟨v, st, r⟩ := a.rep x d h
      refine ⟨v, ?_, r.mono (fun b o n e => q.keep b o (fun z => n (.inr z)) (fun z => n (.inl (z ▸ h1))) e) fun b n _ h => n (.inl h)⟩
      rcases st with ⟨e1, m, ⟨o, es, ep, e, r⟩, e3⟩ | ⟨e1, b, e2, o, e3, e4⟩
      · exact .inl ⟨e1, m, ⟨o, es, ep, q.keep _ _ (ne _ h2) a.locb e, r⟩, e3⟩
      · exact .inr ⟨e1, b, e2, o, q.keep _ _ (ne _ (h3 x b e2)) (a.cells x b e2).2.1 e3, e4⟩
    mu := a.mu.mono (fun b o hb e => q.keep b o (ne _ (h4 b hb)) (a.muS b hb).2.1 e) (fun b o n e => q.keep b o (fun z => n (.inr z)) (fun z => n (.inl (z ▸ h1))) e) fun b n _ h => n (.inl h)
    muS := fun b hb => let ⟨_, h⟩ := a.muS b hb; ⟨h4 b hb, h⟩ }
/-- an iterator over data: fresh, walked one by one -/
structure Iter (c : Cx) (S : Addr → Prop) (A : Around) (I : Addr) (ds : List D) (St : Nat → Heap → Prop) : Prop where
  keep : ∀ i {h h' : Heap}, St i h → (∀ b o, (¬ S b ∨ b = I) → h.get? b = some o → h'.get? b = some o) → St i h'
  some_ : ∀ i h, St i h → (h.get? I).isSome = true
  item : ∀ i (s : Shared) (d : D) (Q : Option Value → Shared → Prop) (E : Value → Shared → Prop), ds[i]? = some d → St i s.heap →
    (∀ v s', Rep S s'.heap d v → St (i + 1) s'.heap → Kp (fun b => b = I) s s' → Q (some v) s') → wpAny (model c.prog c.w) A (pyNext (.ref I)) Q E s
  self : ∀ i (s : Shared) (Q : Value → Shared → Prop) (E : Value → Shared → Prop), St i s.heap → Q (.ref I) s → wpAny (model c.prog c.w) A (pyIter (.ref I)) Q E s
  done : ∀ (s : Shared) (Q : Option Value → Shared → Prop) (E : Value → Shared → Prop), St ds.length s.heap →
    (∀ s', Kp (fun b => b = I) s s' → Q none s') → wpAny (model c.prog c.w) A (pyNext (.ref I)) Q E s
/-- an iterator is at hand, whatever new things may change besides -/
noncomputable def HasIter (c : Cx) (S : Addr → Prop) (A : Around) (I : Addr) (ds : List D) (s s' : Shared) : Prop := ∀ X : Addr → Prop, (∀ b, X b → s.heap.get? b = none) → ∃ St, Iter c (fun b => S b ∨ b = I ∨ X b) A I ds St ∧ St 0 s'.heap
/-- a value that can be walked: what pyIter hands back -/
noncomputable def IterD (c : Cx) (d : D) (ds : List D) : Prop :=
  ∀ {A : Around} {S : Addr → Prop} {s : Shared} {v : Value} {Q : Value → Shared → Prop} {E : Value → Shared → Prop}, A.handled = none → Live c S s.heap → c.In s.heap → Rep S s.heap d v →
    (∀ I s', Kp No s s' → s.heap.get? I = none → (s'.heap.get? I).isSome = true → HasIter c S A I ds s s' → Q (.ref I) s') → wpAny (model c.prog c.w) A (pyIter v) Q E s
inductive FL (c : Cx) (k : Nat) (nl : NL) (x : Str) (body rest : List Stmt) (ks : List (List Stmt)) (o : Out) : Names → Mu → List D → Prop
  | done {ρ : Names} {μ : Mu} : EX c k nl ρ μ rest ks o → FL c k nl x body rest ks o ρ μ []
  | turn {ρ ρ' ρ'' : Names} {μ μ' : Mu} {d : D} {ds : List D} : Put x d ρ ρ' → EX c k nl ρ' μ body [] (.next ρ'' μ') → SameHas μ μ' → FL c k nl x body rest ks o ρ'' μ' ds → FL c k nl x body rest ks o ρ μ (d :: ds)
theorem Post.grow {A : Around} {env : Env} {S : Addr → Prop} {s : Shared} {I : Addr} {Q : Flow → Shared → Prop} {o : Out} (p : Post c k nl μ A env S s Q o) (h1 : S builtinsNs) (h2 : S env.locals) (h3 : ∀ x b, env.cells.lookup x = some b → S b) (h4 : ∀ ρ' μ', o = .next ρ' μ' → ∀ b, μ'.has b → S b) : Post c k nl μ A env (fun b => S b ∨ b = I) s Q o := by
  cases o with
  | next ρ' μ' => exact fun s' kp st a => p s' kp st (a.shrink h1 h2 h3 (h4 _ _ rfl))
  | ret d μ' => exact fun v s' kp st r m => p v s' kp st (r.mono (fun _ _ _ e => e) fun b n _ h => n (.inl h)) (m.mono (fun _ _ _ e => e) (fun _ _ _ e => e) fun b n _ h => n (.inl h))
theorem Kp.drop {X : Addr → Prop} {s0 s s' : Shared} {I : Addr} (k0 : Kp X s0 s) (hn : s0.heap.get? I = none) (k1 : Kp (fun b => X b ∨ b = I) s s') : Kp X s0 s' :=
  ⟨by obtain ⟨h, t, e⟩ := k0.same; obtain ⟨h', t', e'⟩ := k1.same; exact ⟨h', t', by rw [e', e]⟩, fun b o n e => k1.keep0 b o (fun q => by rcases q with q | q; exact n q; rw [q, hn] at e; cases e) (k0.keep0 b o n e), fun m e => k1.blt m (k0.blt m e)⟩
theorem forTurn_ {A : Around} {env : Env} {s : Shared} {x : Str} {px : Pos} {I : Addr} {body : List Stmt} {R : Result → Shared → Prop}
    (h : wpAny (model c.prog c.w) A (pyNext (.ref I)) (fun r s₁ => match r with
      | none => R (.ok .next) s₁
      | some v => ∀ E, wpAny (model c.prog c.w) A (storeName env x v) (fun _ s₂ => wpAny (model c.prog c.w) A (execs body env) (fun f s₃ => f = .next ∧ codeAny (model c.prog c.w) A (.forLoop (.Name x px) (.ref I) body [] env) R s₃) E s₂) E s₁) (fun _ _ => False) s) :
    codeAny (model c.prog c.w) A (.forLoop (.Name x px) (.ref I) body [] env) R s := by
  refine codeAny_of_tree ?_
  show wpAny _ A ((forTurn (.Name x px) (.ref I) body [] env).onRaise (fun x => do noteFrame x env; theTreesLotGoes x)) _ _ s
  refine wpAny_noted ?_
  simp only [forTurn]
  refine wpAny_bind (wpAny_standAt (wpAny_bind (wpAny_onRaise (wpAny_mono h (fun r s₁ h₁ => ?_) fun _ _ h' => h'.elim))))
  cases r with
  | none => exact wpAny_pure ⟨rfl, codeAny_block (wpAny_execs_nil h₁)⟩
  | some v =>
    refine wpAny_bind (wpAny_of_eq (a := ()) rfl ?_)
    refine wpAny_bind (wpAny_mono (wpAny_assign_Name (h₁ _)) (fun _ s₂ h₂ => wpAny_bind (wpAny_mono h₂ (fun f s₃ h₃ => ?_) fun _ _ h' => h')) fun _ _ h' => h')
    obtain ⟨rfl, h₃⟩ := h₃
    exact wpAny_pure ⟨rfl, h₃⟩
theorem SameHas.trans {μ'' : Mu} (a : SameHas μ μ') (b : SameHas μ' μ'') : SameHas μ μ'' := fun x => (b x).trans (a x)
theorem SameHas.symm (a : SameHas μ μ') : SameHas μ' μ := fun x => (a x).symm
theorem FL.run {x : Str} {px : Pos} {body rest : List Stmt} {ks : List (List Stmt)} {o : Out} {A : Around} {env : Env} {S : Addr → Prop} {s0 : Shared} {Q : Flow → Shared → Prop} {E E' : Value → Shared → Prop} {I : Addr} {St : Nat → Heap → Prop} {ds₀ : List D} {μ0 : Mu} (nf : NoFree env)
    (nI : ¬ S I) (n1 : I ≠ env.locals) (n2 : ∀ y, env.cells.lookup y ≠ some I) (n3 : ¬ μ0.has I) (nb : I ≠ builtinsNs) (hb1 : S builtinsNs) (hl1 : S env.locals) (hc1 : ∀ x b, env.cells.lookup x = some b → S b) (hm1 : ∀ b, μ0.has b → S b) (it : Iter c (fun b => S b ∨ b = I) A I ds₀ St) (p : Post c k nl μ0 A env S s0 Q o) (hn : s0.heap.get? I = none) :
    ∀ {ρ : Names} {μ : Mu} {ds : List D}, FL c k nl x body rest ks o ρ μ ds → ∀ {pre : List D} {s : Shared}, ds₀ = pre ++ ds → At c k nl ρ μ A env (fun b => S b ∨ b = I) s → St pre.length s.heap → SameHas μ0 μ → Kp (Own env μ0) s0 s → Still (Own env μ0) s0 s →
    codeAny (model c.prog c.w) A (.forLoop (.Name x px) (.ref I) body [] env) (fun r s' => match r with | .ok f => (match f with | .next => wpAny (model c.prog c.w) A (execs rest env) (behind (model c.prog c.w) A env E Q ks) E s' | f => behind (model c.prog c.w) A env E Q ks f s') | .error e => E' e s') s := by
  intro ρ μ ds fl
  have nOwn : ∀ b, Own env μ0 b → b ≠ I := by
    rintro b (rfl | ⟨y, e⟩ | e) rfl
    · exact n1 rfl
    · exact n2 y e
    · exact n3 e
  have stI : ∀ {s s' : Shared}, c.In s.heap → Kp (fun b => b = I) s s' → Still (Own env μ0) s s' := fun {s s'} inn kp b hb e => by
    by_cases hbb : b = builtinsNs
    · subst hbb; obtain ⟨o, _, _, e, _⟩ := kp.blt _ inn.b; rw [e]; rfl
    · obtain ⟨o, e⟩ := Option.isSome_iff_exists.mp e; rw [kp.keep b o (nOwn b hb) hbb e]; rfl
  induction fl with
  | @done ρ μ h =>
    intro pre s hd a st hh kp0 st0
    refine forTurn_ ?_
    rw [List.append_nil] at hd
    subst hd
    refine it.done s _ _ st fun s' kp => ?_
    exact h (a.dropI hb1 hl1 hc1 (fun b hb => hm1 b ((hh b).mp hb)) nI kp) nf (p.on (kp0.drop hn (kp.weak fun _ h => .inr h)) (st0.trans (stI a.inn kp)) hh)
  | @turn ρ ρ' ρ'' μ μ' d ds P b hb n ih =>
    intro pre s hd a st hh kp0 st0
    refine forTurn_ ?_
    refine it.item pre.length s d _ _ (by rw [hd]; simp) st fun v s1 rv st1 kp1 => ?_
    intro E2
    have a1 := a.kpI (.inr rfl) n1 n2 (fun q => n3 ((hh I).mp q)) kp1 (it.some_ _ _ st1)
    have kp01 := kp0.drop hn (kp1.weak fun _ h => .inr h)
    have st01 := st0.trans (stI a.inn kp1)
    refine a1.store nf P rv fun s2 k2 t2 a2 => ?_
    have ow : ∀ b, Own env μ b → Own env μ0 b := fun b => (Own.same hh b).mp
    have ow' : ∀ b, Own env μ0 b → Own env μ b := fun b => (Own.same hh b).mpr
    refine b a2 nf fun s3 k3 t3 a3 => ⟨rfl, ?_⟩
    refine ih (pre := pre ++ [d]) (by rw [hd]; simp) a3 ?_ (hh.trans hb) ((kp01.trans (k2.weak ow)).trans (k3.weak ow)) ((st01.trans fun x hx => t2 x (ow' x hx)).trans fun x hx => t3 x (ow' x hx))
    rw [List.length_append]
    have kk := (k2.weak ow).trans (k3.weak ow)
    refine it.keep _ st1 fun b' o' hb' e => kk.keep b' o' (fun q => ?_) (fun q => ?_) e
    · rcases hb' with hb' | hb'
      · exact hb' (Own.sub a1 b' (ow' b' q))
      · exact nOwn b' q hb'
    · subst q
      rcases hb' with hb' | hb'
      · exact hb' a1.live.blt
      · exact nb (Eq.symm hb')
/-- the expression comes to what can be walked -/
noncomputable def IterE (c : Cx) (k : Nat) (nl : NL) (ρ : Names) (μ : Mu) (e : Expr) (ds : List D) : Prop :=
  ∀ {A : Around} {env : Env} {S : Addr → Prop} {s : Shared} {Q : Value → Shared → Prop} {E : Value → Shared → Prop}, At c k nl ρ μ A env S s →
    (∀ I s1 s2, Kp No s s1 → Kp No s1 s2 → s1.heap.get? I = none → (s2.heap.get? I).isSome = true → HasIter c S A I ds s1 s2 → Q (.ref I) s2) →
    wpAny (model c.prog c.w) A (eval e env) (fun v s1 => wpAny (model c.prog c.w) A (pyIter v) Q E s1) E s
theorem IterE.of {e : Expr} {d : D} {ds : List D} (h : EV c k nl ρ μ e d) (it : IterD c d ds) : IterE c k nl ρ μ e ds := fun a q =>
  h a fun v s1 k1 r1 => it a.room.handled (a.kp k1).live (a.kp k1).inn r1 fun I s2 k2 hn hs itr => q I s1 s2 k1 k2 hn hs itr
theorem EX.for_ {x : Str} {px pos : Pos} {e : Expr} {body rest : List Stmt} {ks : List (List Stmt)} {o : Out} {ds : List D} (h : IterE c k nl ρ μ e ds) (f : FL c k nl x body rest ks o ρ μ ds)
    (hs : ∀ env v, foldedSetIterable e env v = pure v := by with_unfolding_all (intro _ _; rfl)) : EX c k nl ρ μ (.For (.Name x px) e body [] pos :: rest) ks o := fun {A env S s Q E} a nf q => by
  refine wpAny_execs_cons (wpAny_For (h a fun I s1 s2 k1 k2 hn hIs hit => ?_) (hs env))
  have a1 := a.kp k1
  obtain ⟨St, itr, st⟩ := hit (fun _ => False) (fun _ e => e.elim)
  have hse : (fun b => S b ∨ b = I ∨ False) = (fun b => S b ∨ b = I) := by funext b; rw [or_false]
  rw [hse] at itr
  have a2 := a1.grow k2 hn hIs
  have hnot : ∀ b, (s1.heap.get? b).isSome = true → b ≠ I := fun b hb e => by rw [e, hn] at hb; cases hb
  have q1 := q.on k1.of_no (Still.of_no k1 a.inn)
  have nI : ¬ S I := fun h => hnot I (a1.live.all I h).1 rfl
  refine codeAny_mono (FL.run (E := E) (E' := fun _ _ => False) nf nI (Ne.symm (hnot _ (by obtain ⟨m, o, _, _, e, _⟩ := a1.ns; rw [e]; rfl))) (fun y e => hnot I (by obtain ⟨_, _, _, v, o, h4, _⟩ := a1.cells y I e; rw [h4]; rfl) rfl) (fun hb => hnot I (Mu.isSome a1.mu I hb) rfl) (newAddr a1.inn hn).2.2.2
    a1.live.blt a1.loc (fun y b e => (a1.cells y b e).1) (fun b hb => (a1.muS b hb).1) itr q1 hn f (pre := []) rfl a2 st SameHas.refl k2.of_no (Still.of_no k2 a1.inn)) fun r s' hr => ?_
  cases r with
  | ok f => cases f <;> exact hr
  | error e => exact hr.elim
end
end Mine
end
section
-- A8
open PySem PySem.W PyProof.Rows
set_option Elab.async false
set_option linter.all false
set_option maxRecDepth 100000
namespace Mine
section
variable {c : Cx} {k : Nat} {nl : NL} {ρ ρ' ρ'' ρ3 : Names} {μ μ' : Mu}
theorem Kp.one {s : Shared} {h' : Heap} {tk : Nat} {I : Addr} (hI : I ≠ builtinsNs) (hk : ∀ b o, b ∉ [I] → s.heap.get? b = some o → h'.get? b = some o) : Kp (fun b => b = I) s { s with heap := h', toks := tk } :=
  ⟨⟨h', tk, rfl⟩, fun b o n e => hk b o (by simpa using n) e, fun m ⟨o, es, ep, e, r⟩ => ⟨o, es, ep, hk _ _ (by simpa using Ne.symm hI) e, r⟩⟩
/-- an iterator out of the library's walks -/
theorem Iter.of_walks {S : Addr → Prop} {A : Around} {I : Addr} {fp : List Addr} {n : Nat} {P : Nat → Value → Prop} {St0 : Nat → Heap → Prop} {ds : List D} (W : Walks c.prog c.w A I fp [I] n P St0) (Inv : Heap → Prop) (hb : I ≠ builtinsNs) (hfp : ∀ b ∈ fp, ¬ S b ∨ b = I) (hn : ds.length = n)
    (some_ : ∀ i h, St0 i h → (h.get? I).isSome = true) (hInv : ∀ {h h' : Heap}, Inv h → (∀ b o, (¬ S b) → h.get? b = some o → h'.get? b = some o) → Inv h') (hI : S I)
    (val : ∀ i d v h, ds[i]? = some d → P i v → Inv h → Rep S h d v) : Iter c S A I ds (fun i h => St0 i h ∧ Inv h) where
  keep := fun i h h' st hk => ⟨W.frame i h h' st.1 fun b hb' o e => hk b o (hfp b hb') e, hInv st.2 fun b o n e => hk b o (.inl n) e⟩
  some_ := fun i h st => some_ i h st.1
  item := fun i s d Q E hd st q => by
    have hi : i < n := by rw [← hn]; exact (List.getElem?_eq_some_iff.mp hd).1
    refine W.item i s Q E hi st.1 fun v h' tk hP st' hk => ?_
    have inv' : Inv h' := hInv st.2 fun b o nb e => hk b o (by intro q; rw [List.mem_singleton] at q; exact nb (q ▸ hI)) e
    exact q v _ (val i d v h' hd hP inv') ⟨st', inv'⟩ (Kp.one hb hk)
  self := fun i s Q E st q => W.self i s Q E st.1 q
  done := fun s Q E st q => by
    rw [hn] at st
    exact W.done s Q E st.1 fun h' tk hk => q _ (Kp.one hb hk)
theorem wpAny_pyIter_str' {A : Around} {s : Shared} {x : Str} {t : Tok} {Q : Value → Shared → Prop} {E : Value → Shared → Prop} (hh : A.handled = none)
    (hQ : ∀ (o : Obj) (St : Nat → Heap → Prop), Walks c.prog c.w A s.heap.objs.size [s.heap.objs.size] [s.heap.objs.size] x.cps.size (SignAt x) St → (∀ i h, St i h → (h.get? s.heap.objs.size).isSome = true) → St 0 (s.heap.push o) →
      Q (.ref s.heap.objs.size) { s with heap := s.heap.push o }) : wpAny (model c.prog c.w) A (pyIter (.str x t)) Q E s := by
  cases ha : x.cps.all (· < 128)
  · exact wpAny_pyIter_wide ha (hQ _ _ (Walks.strWide hh _ x t) (fun i h st => by obtain ⟨o, e, _⟩ := st; rw [e]; rfl) ⟨_, Heap.get?_push_size _ rfl, rfl, rfl⟩)
  · exact wpAny_pyIter_ascii ha (hQ _ _ (Walks.strAscii hh _ x t) (fun i h st => by obtain ⟨o, e, _⟩ := st; rw [e]; rfl) ⟨_, Heap.get?_push_size _ rfl, rfl, rfl⟩)
theorem IterD.lst {ds : List D} : IterD c (.lst ds) ds := fun {A S s v Q E} hh l i r q => by
  obtain ⟨ax, vs, rfl, nS, hl, rs⟩ := r.list
  have hlt : ax ≠ s.heap.objs.size := by obtain ⟨o, ho, _⟩ := hl; exact Nat.ne_of_lt (Heap.lt_size ho)
  have hn := none_of_size (Nat.le_refl s.heap.objs.size)
  have hI := (newAddr i hn).2.2.2
  refine wpAny_pyIter_list hl (q _ _ (Kp.push (t := s.toks)) hn (by show (Heap.get? (s.heap.push _) _).isSome = true; rw [Heap.get?_push_size _ rfl]; rfl) fun X hX => ⟨_, Iter.of_walks (Walks.list hh _ ax hlt vs.toArray) (fun h => Reps (fun b => S b ∨ b = s.heap.objs.size ∨ X b) h ds vs) hI ?_ ?_ (fun i h st => ?_) (fun inv hk => ?_) (.inr (.inl rfl)) fun i d v h hd hP inv => ?_, ⟨⟨_, Heap.get?_push_size _ rfl, rfl, rfl⟩, hl.push _⟩, ?_⟩)
  have hal : (s.heap.get? ax).isSome = true := by obtain ⟨o, e, _⟩ := hl; rw [e]; rfl
  · intro b hb
    rcases List.mem_cons.mp hb with rfl | hb
    · exact .inr rfl
    · rw [List.mem_singleton.mp hb]; exact .inl fun z => by rcases z with z | z | z; exact nS z; exact hlt z; rw [hX _ z] at hal; cases hal
  · rw [List.size_toArray, rs.length]
  · obtain ⟨⟨o, e, _⟩, _⟩ := st; rw [e]; rfl
  · exact Reps.mono hk (fun _ n _ => n) inv
  · obtain ⟨u, e, ru⟩ := inv.at hd
    have e' : vs[i]? = some v := by simpa using hP
    rw [e] at e'; cases e'; exact ru
  · exact Reps.mono (fun b o _ e => Heap.get?_push_of_some _ e) (fun b nb hs => fun z => by rcases z with z | rfl | z; exact nb z; rw [hn] at hs; cases hs; rw [hX _ z] at hs; cases hs) rs
/-- the signs of a text, each a text of its own -/
noncomputable def signs (x : Str) : List D := x.cps.toList.map fun n => .str ⟨#[n]⟩
theorem IterD.str {x : Str} : IterD c (.str x) (signs x) := fun {A S s v Q E} hh l i r q => by
  obtain ⟨t, rfl⟩ := r.str_inv
  have hn := none_of_size (Nat.le_refl s.heap.objs.size)
  have hI := (newAddr i hn).2.2.2
  have ascii := fun (h : x.cps.all (· < 128) = true) => h
  refine wpAny_pyIter_str' (c := c) hh fun o St W some_ st => ?_
  refine q _ _ (Kp.push (t := s.toks)) hn (some_ _ _ st) fun X hX => ⟨_, Iter.of_walks W (fun _ => True) hI ?_ ?_ some_ (fun _ _ => trivial) (.inr (.inl rfl)) fun i d v h hd hP _ => ?_, st, trivial⟩
  · intro b hb; exact .inr (List.mem_singleton.mp hb)
  · simp [signs]
  · obtain ⟨n, u, e, rfl⟩ := hP
    have : d = .str ⟨#[n]⟩ := by
      unfold signs at hd
      rw [List.getElem?_map] at hd
      have e' : x.cps.toList[i]? = some n := by simpa using e
      rw [e'] at hd
      simpa using hd.symm
    subst this
    exact Rep.str_mk
theorem IterD.tup {ds : List D} : IterD c (.tup ds) ds := fun {A S s v Q E} hh l i r q => by
  obtain ⟨ax, vs, rfl, nS, hl, rs⟩ := r.tupl'
  have hlt : ax ≠ s.heap.objs.size := by obtain ⟨o, ho, _⟩ := hl; exact Nat.ne_of_lt (Heap.lt_size ho)
  have hn := none_of_size (Nat.le_refl s.heap.objs.size)
  have hI := (newAddr i hn).2.2.2
  refine wpAny_pyIter_tuple hl (q _ _ (Kp.push (t := s.toks)) hn (by show (Heap.get? (s.heap.push _) _).isSome = true; rw [Heap.get?_push_size _ rfl]; rfl) fun X hX => ⟨_, Iter.of_walks (Walks.tuple hh _ ax hlt vs.toArray) (fun h => Reps (fun b => S b ∨ b = s.heap.objs.size ∨ X b) h ds vs) hI ?_ ?_ (fun i h st => ?_) (fun inv hk => ?_) (.inr (.inl rfl)) fun i d v h hd hP inv => ?_, ⟨⟨_, Heap.get?_push_size _ rfl, rfl, rfl⟩, hl.push _⟩, ?_⟩)
  have hal : (s.heap.get? ax).isSome = true := by obtain ⟨o, e, _⟩ := hl; rw [e]; rfl
  · intro b hb
    rcases List.mem_cons.mp hb with rfl | hb
    · exact .inr rfl
    · rw [List.mem_singleton.mp hb]; exact .inl fun z => by rcases z with z | z | z; exact nS z; exact hlt z; rw [hX _ z] at hal; cases hal
  · rw [List.size_toArray, rs.length]
  · obtain ⟨⟨o, e, _⟩, _⟩ := st; rw [e]; rfl
  · exact Reps.mono hk (fun _ n _ => n) inv
  · obtain ⟨u, e, ru⟩ := inv.at hd
    have e' : vs[i]? = some v := by simpa using hP
    rw [e] at e'; cases e'; exact ru
  · exact Reps.mono (fun b o _ e => Heap.get?_push_of_some _ e) (fun b nb hs => fun z => by rcases z with z | rfl | z; exact nb z; rw [hn] at hs; cases hs; rw [hX _ z] at hs; cases hs) rs
/-- range(a, b): the dInts -/
noncomputable def dInts (a b : Int) : List D := (List.range (b - a).toNat).map fun (j : Nat) => .int (a + (j : Int))
theorem rangeWalk {A : Around} {S : Addr → Prop} {s1 : Shared} {a b : Int} {t u v : Tok} {r : Addr} {Q : Value → Shared → Prop} {E : Value → Shared → Prop} (hh : A.handled = none) (i : c.In s1.heap) (hr : IsRange s1.heap r a b 1 t u v) (ha : -(2 ^ 62) ≤ a) (ha' : a < 2 ^ 62) (hb : -(2 ^ 62) ≤ b) (hb' : b < 2 ^ 62)
    (q : ∀ I s2, Kp No s1 s2 → s1.heap.get? I = none → (s2.heap.get? I).isSome = true → HasIter c S A I (dInts a b) s1 s2 → Q (.ref I) s2) : wpAny (model c.prog c.w) A (pyIter (.ref r)) Q E s1 := by
  have hn := none_of_size (Nat.le_refl s1.heap.objs.size)
  have hI := (newAddr i hn).2.2.2
  refine wpAny_pyIter_range hr (small_one ha ha' hb hb') (q _ _ (Kp.push (t := s1.toks)) hn (by show (Heap.get? (s1.heap.push _) _).isSome = true; rw [Heap.get?_push_size _ rfl]; rfl) fun X hX => ⟨_, Iter.of_walks (Walks.range hh _ a 1 (b - a).toNat) (fun _ => True) hI ?_ ?_ (fun i h st => ?_) (fun _ _ => trivial) (.inr (.inl rfl)) fun i d v h hd hP _ => ?_, ?_, trivial⟩)
  · intro b hb; exact .inr (List.mem_singleton.mp hb)
  · simp [dInts]
  · rw [st]; rfl
  · obtain ⟨t, rfl⟩ := hP
    unfold dInts at hd
    rw [List.getElem?_map] at hd
    have hi : i < (b - a).toNat := by
      by_cases h : i < (b - a).toNat
      · exact h
      · rw [List.getElem?_eq_none (by simp; lia)] at hd; cases hd
    rw [List.getElem?_range hi] at hd
    have : d = .int (a + i) := by simpa using hd.symm
    subst this
    rw [Int.mul_one]
    exact Rep.int_mk
  · have e : (a + ((0 : Nat) : Int) * 1) = a := by simp
    have e2 : (((b - a).toNat : Int) - ((0 : Nat) : Int)) = Builtin.Range.rangeSize a b 1 := by rw [rangeSize_one]; split <;> lia
    rw [e, e2]
    exact Heap.get?_push_size _ rfl
theorem IterE.range2 {p pos : Pos} {e1 e2 : Expr} {a b : Int} (hx : (Str.ofString "range", NameKind.globalImplicit) ∈ nl) (hm : c.mg (Str.ofString "range") = .none) (h : EVs c k nl ρ μ [e1, e2] [.int a, .int b]) (ha : -(2 ^ 62) ≤ a) (ha' : a < 2 ^ 62) (hb : -(2 ^ 62) ≤ b) (hb' : b < 2 ^ 62)
    (hp : plainExpr e1 = true := by with_unfolding_all rfl) (hps : plainExpr e2 = true := by with_unfolding_all rfl) : IterE c k nl ρ μ (.Call (.Name (Str.ofString "range") p) [e1, e2] [] pos) (dInts a b) := fun {A env S s Q E} at0 q =>
  Call_ (Blt.load at0 hx hm boot_range (PyProof.Rows.callWith_type1 (h at0 fun vs s1 k1 r => by
    obtain ⟨v, u, rfl, r1, r2⟩ := r.two
    obtain ⟨t, rfl⟩ := r1.int_inv; obtain ⟨t', rfl⟩ := r2.int_inv
    refine call_range_2 ?_
    exact rangeWalk at0.room.handled (at0.kp (k1.trans (Kp.push (t := s1.toks + 1)))).inn (IsRange.new _ _ _ _ _ _ _) ha ha' hb hb' fun I s2 k2 hn hs it => q I _ s2 (k1.trans Kp.push) k2 hn hs it) (starEach_plain hp) (backTo_plain [e2] (by simp [hps]))))
theorem IterE.range1 {p pos : Pos} {e1 : Expr} {b : Int} (hx : (Str.ofString "range", NameKind.globalImplicit) ∈ nl) (hm : c.mg (Str.ofString "range") = .none) (h : EVs c k nl ρ μ [e1] [.int b]) (hb : -(2 ^ 62) ≤ b) (hb' : b < 2 ^ 62)
    (hp : plainExpr e1 = true := by with_unfolding_all rfl) : IterE c k nl ρ μ (.Call (.Name (Str.ofString "range") p) [e1] [] pos) (dInts 0 b) := fun {A env S s Q E} at0 q =>
  Call_ (Blt.load at0 hx hm boot_range (PyProof.Rows.callWith_type1 (h at0 fun vs s1 k1 r => by
    obtain ⟨v, rfl, r1⟩ := r.one
    obtain ⟨t, rfl⟩ := r1.int_inv
    refine call_range_1 ?_
    exact rangeWalk at0.room.handled (at0.kp (k1.trans (Kp.push (t := s1.toks + 1 + 1)))).inn (IsRange.new _ _ _ _ _ _ _) (by decide) (by decide) hb hb' fun I s2 k2 hn hs it => q I _ s2 (k1.trans Kp.push) k2 hn hs it) (starEach_plain hp) rfl))
end
end Mine
end
section
-- A9
open PySem PySem.W PyProof.Rows PySem.Calls Builtin Builtin.ObjectAttr
set_option Elab.async false
set_option linter.all false
set_option maxRecDepth 100000
namespace Mine
section
variable {c : Cx} {k : Nat} {nl : NL} {ρ ρ' ρ'' ρ3 : Names} {μ μ' : Mu}
/-- attributes of the class may be stored -/
structure SetOk (c : Cx) (C : Addr) (x : Str) : Prop where
  sa : findIn c.K (.ref C) "__setattr__" = some (some (.builtin "object.__setattr__"))
  pl : plainOver c.K C = true
  tk : takerIn c.K C x = some none
  hd : (clsIn c.K C).any (·.hasDict) = true
theorem keys_find {x : Str} : ∀ {ns : List Str} {es : List DictEntry}, x ∉ ns → keysAre es ns → es.find? (·.key.isStr x) = none ∧ es.any (·.key.isStr x) = false ∧ es.any (·.refKey) = false
  | [], [], _, _ => ⟨rfl, rfl, rfl⟩
  | [], e :: es, _, k => k.elim
  | n :: ns, [], _, k => k.elim
  | n :: ns, e :: es, h, ks => by
    obtain ⟨⟨t, hk⟩, ks⟩ := ks
    simp only [List.mem_cons, not_or] at h
    obtain ⟨i1, i2, i3⟩ := keys_find h.2 ks
    have nk : e.key.isStr x = false := by rw [hk]; exact beq_eq_false_iff_ne.mpr (Ne.symm h.1)
    exact ⟨by rw [List.find?_cons_of_neg (by rw [nk]; decide)]; exact i1, by rw [List.any_cons, nk, i2]; rfl, by rw [List.any_cons, i3]; simp [DictEntry.refKey, hk]⟩
theorem keys_push {x : Str} {t : Tok} {h : Int} {v : Value} : ∀ {ns : List Str} {es : List DictEntry}, keysAre es ns → keysAre (es ++ [⟨h, .str x t, v⟩]) (ns ++ [x])
  | [], [], _ => ⟨⟨t, rfl⟩, trivial⟩
  | [], e :: es, k => k.elim
  | n :: ns, [], k => k.elim
  | n :: ns, e :: es, ks => ⟨ks.1, keys_push ks.2⟩
theorem keys_len : ∀ {ns : List Str} {es : List DictEntry}, keysAre es ns → es.length = ns.length
  | [], [], _ => rfl
  | [], e :: es, k => k.elim
  | n :: ns, [], k => k.elim
  | n :: ns, e :: es, ks => by rw [List.length_cons, List.length_cons, keys_len ks.2]
theorem put_new {x : Str} {h : Int} {key v : Value} {es : List DictEntry} {n : Nat} (hf : es.any (·.key.isStr x) = false) : Obj.putName x h key v (dictOf es n) = dictOf (es ++ [⟨h, key, v⟩]) (n + 1) := by
  rw [Obj.putName_eq]
  have : es.toArray.findIdx? (·.key.isStr x) = none := by
    rw [List.findIdx?_toArray, List.findIdx?_eq_none_iff]
    intro e he
    have := List.any_eq_false.mp hf e he
    simpa using this
  show (match es.toArray.findIdx? (·.key.isStr x) with | some i => _ | none => _ : Obj) = _
  rw [this]
  show ({ cls := .type "dict", data := .dict (es.toArray.push ⟨h, key, v⟩) (n + 1) } : Obj) = _
  rw [List.push_toArray]
theorem setattr_ {A : Around} {s : Shared} {a da C : Addr} {es : List DictEntry} {n : Nat} {ns : List Str} {x : Str} {v : Value} {Q : Unit → Shared → Prop} {E : Value → Shared → Prop} (X : c.K.In s.heap) (ok : SetOk c C x) (g : s.heap.get? a = some (instObj C da)) (g' : s.heap.get? da = some (dictOf es n)) (ks : keysAre es ns) (hx : x ∉ ns) (hz : ns.length < 1000)
    (q : ∀ h' tk es' n', h'.get? da = some (dictOf es' n') → keysAre es' (ns ++ [x]) → es'.map (·.val) = es.map (·.val) ++ [v] → Heap.SameBut da s.heap h' → Q () { s with heap := h', toks := tk }) : wpAny (model c.prog c.w) A (setAttr (.ref a) x v) Q E s := by
  have I : InstAt s.heap a (instObj C da) C (some (dictOf es n)) := ⟨g, rfl, rfl, g'⟩
  obtain ⟨f1, f2, f3⟩ := keys_find hx ks
  refine set_plain X I ok.sa (osa_open (s := { s with toks := s.toks + 1 }) X I ok.pl ok.tk fun b => ?_)
  obtain ⟨cd, hc, hd'⟩ := any_some ok.hd
  have e := put_new (x := x) (h := PyData.keyHash c.w.params x) (key := .str x (s.toks + 1)) (v := v) (n := n) f2
  have D' : (s.heap.update da (Obj.putName x (PyData.keyHash c.w.params x) (.str x (s.toks + 1)) v)).get? da = some (dictOf (es ++ [⟨PyData.keyHash c.w.params x, .str x (s.toks + 1), v⟩]) (n + 1)) := by
    rw [← e]; exact Heap.get?_update_self _ g' (by rw [e]; rfl)
  refine wpAny_bind (wpAny_pure (wpAny_bind (wpAny_bind (wpAny_loadPart g (wpAny_bind ((looks_clsIn X hc) _ _ _ _ (fun _ _ e => e) ?_))))))
  rw [hd']
  refine wpAny_pure (a := some da) (wpAny_bind (wpAny_pure (wpAny_bind ?_)))
  unfold nsSet
  refine wpAny_bind (wpAny_bind (wpAny_askSetting (wpAny_pure (wpAny_bind (wpAny_mkText (wpAny_bind (wpAny_loadPart g' ?_)))))))
  have c' : (!es.toArray.any (·.key.isStr x) && es.toArray.any (·.refKey)) = false := by
    rw [List.any_toArray, List.any_toArray, f2, f3]; rfl
  dsimp only
  rw [aRefKeyMayBeTheName_at, c']
  refine wpAny_updatePart g' ?_
  refine wpAny_bind (wpAny_lookBehind D' (by exact pastItsLine_dict (by rw [List.size_toArray, sizeLine_eq, List.length_append, keys_len ks]; simp; lia)) ?_)
  exact wpAny_pure (q _ _ _ _ D' (keys_push ks) (by simp) (Heap.SameBut.update ..))
theorem Kp.two {s : Shared} {h' : Heap} {tk : Nat} {d : Addr} {X : Addr → Prop} (hX : X d) (hd : d ≠ builtinsNs) (hs : Heap.SameBut d s.heap h') : Kp X s { s with heap := h', toks := tk } :=
  ⟨⟨h', tk, rfl⟩, fun b o n e => (hs.2 b fun q => n (q ▸ hX)).trans e, fun m e => e.sameBut hs (Ne.symm hd)⟩
/-- an attribute of the object in the making is stored -/
theorem At.setattr {A : Around} {env : Env} {S : Addr → Prop} {s : Shared} {a da C : Addr} {ns : List Str} {ds : List D} {x : Str} {d : D} {v : Value} {Q : Unit → Shared → Prop} {E : Value → Shared → Prop} (at0 : At c k nl ρ (.obj a da C ns ds) A env S s) (ok : SetOk c C x) (hx : x ∉ ns) (hz : ns.length < 1000) (r : Rep S s.heap d v)
    (q : ∀ s', Kp (Own env (.obj a da C ns ds)) s s' → Still (Own env (.obj a da C ns ds)) s s' → At c k nl ρ (.obj a da C (ns ++ [x]) (ds ++ [d])) A env S s' → Q () s') : wpAny (model c.prog c.w) A (setAttr (.ref a) x v) Q E s := by
  obtain ⟨ne, es, n, g, g', ks, rs⟩ := at0.mu
  obtain ⟨mS, mb, ml, mc⟩ := at0.muS da (.inr rfl)
  refine setattr_ at0.inn.k ok g g' ks hx hz fun h' tk es' n' D' ks' vs' hs => ?_
  have kp : Kp (Mu.obj a da C ns ds).has s { s with heap := h', toks := tk } := Kp.two (.inr rfl) mb hs
  have a2 := at0.kpM (μ' := .obj a da C (ns ++ [x]) (ds ++ [d])) kp (fun _ => Iff.rfl) ⟨ne, es', n', (hs.2 a ne).trans g, D', ks', by
    rw [vs']
    refine Reps.append (Reps.mono (fun b o nb e => (hs.2 b fun z => nb (z ▸ mS)).trans e) (fun _ n _ => n) rs) ?_
    simp only [Reps]
    exact ⟨v, [], rfl, Rep.mono (fun b o nb e => (hs.2 b fun z => nb (z ▸ mS)).trans e) (fun _ n _ => n) r, rfl⟩⟩
  refine q _ (kp.weak fun b hb => .inr (.inr hb)) (fun b hb e => ?_) a2
  by_cases hbd : b = da
  · subst hbd; show (h'.get? _).isSome = true; rw [D']; rfl
  · show (h'.get? b).isSome = true; rw [hs.2 b hbd]; exact e
theorem EX.setattr {y x : Str} {p p' pos : Pos} {e : Expr} {rest : List Stmt} {ks : List (List Stmt)} {o : Out} {a da C : Addr} {ns : List Str} {ds : List D} {d : D} (hy : (y, some (.ptr a)) ∈ ρ) (h : EV c k nl ρ (.obj a da C ns ds) e d) (ok : SetOk c C x) (hx : x ∉ ns) (n : EX c k nl ρ (.obj a da C (ns ++ [x]) (ds ++ [d])) rest ks o) (hz : ns.length < 1000 := by decide)
    (hs : ∀ env : Env, swapsWith e (some (.Attribute (.Name y p) x p')) pos.line env = pure false := by with_unfolding_all (intro _; rfl)) : EX c k nl ρ (.obj a da C ns ds) (.Assign [.Attribute (.Name y p) x p'] e pos :: rest) ks o := fun at0 nf q =>
  wpAny_execs_cons (plainObj_wpAny_Assign_Attribute (h at0 fun v s1 k1 r1 => EV.name hy (at0.kp k1) fun u s2 k2 r2 => by
    have e : u = .ref a := by simpa [Rep] using r2
    subst e
    have a2 := (at0.kp k1).kp k2
    exact a2.setattr ok hx hz (r1.kp at0.live.blt (fun _ q => q.elim) k2) fun s3 k3 t3 a3 => n a3 nf (q.on ((k1.of_no.trans k2.of_no).trans k3) (((Still.of_no k1 at0.inn).trans (Still.of_no k2 (at0.kp k1).inn)).trans t3) SameHas.refl)) (hs _))
theorem assignAttr {A : Around} {env : Env} {s : Shared} {y x : Str} {p p' : Pos} {v : Value} {ts : List (Value → Sem Unit)} {vs : List Value} {Q : Unit → Shared → Prop} {E : Value → Shared → Prop} {M : Model}
    (h : wpAny M A (eval (.Name y p) env) (fun ov s₂ => wpAny M A (setAttr ov x v) (fun _ s' => wpAny M A (assignInOrder ts vs) Q E s') E s₂) E s) : wpAny M A (assignInOrder (assign (.Attribute (.Name y p) x p') env :: ts) (v :: vs)) Q E s := by
  refine wpAny_bind (wpAny_holding ?_)
  rw [assign_Attribute]
  refine wpAny_bind (wpAny_holding (wpAny_mono h (fun ov s2 h2 => wpAny_bind (wpAny_standAt (wpAny_bind (wpAny_holding (wpAny_mono h2 (fun _ s3 h3 => wpAny_release h3) fun _ _ e => e))))) fun _ _ e => e))
/-- two attributes out of a pair -/
theorem EX.setattr2 {y x1 x2 : Str} {p1 p1' p2 p2' tp pos : Pos} {k1 : Nat} {e : Expr} {rest : List Stmt} {ks : List (List Stmt)} {o : Out} {a da C : Addr} {ns : List Str} {ds : List D} {d1 d2 : D} (hy : (y, some (.ptr a)) ∈ ρ) (h : EV c k nl ρ (.obj a da C ns ds) e (.tup [d1, d2])) (ok1 : SetOk c C x1) (ok2 : SetOk c C x2) (hx1 : x1 ∉ ns) (hx2 : x2 ∉ ns ++ [x1])
    (n : EX c k nl ρ (.obj a da C (ns ++ [x1] ++ [x2]) (ds ++ [d1] ++ [d2])) rest ks o) (hz : ns.length < 999 := by decide) (hw : noTuple e = true := by with_unfolding_all rfl)
    (hs : ∀ env : Env, swapsWithSole [.Tuple [.Attribute (.Name y p1) x1 p1', .Attribute (.Name y p2) x2 p2'] k1 tp] e pos.line env = pure false := by with_unfolding_all (intro _; rfl)) : EX c k nl ρ (.obj a da C ns ds) (.Assign [.Tuple [.Attribute (.Name y p1) x1 p1', .Attribute (.Name y p2) x2 p2'] k1 tp] e pos :: rest) ks o := fun at0 nf q =>
  wpAny_execs_cons (Assign_Tuple (h at0 fun v s1 k1 r1 => by
    obtain ⟨t, u, w, rfl, ht, r1, r2⟩ := r1.tup2
    refine wpAny_assign_Tuple at0.room.handled ht rfl rfl fun h' he => ?_
    have k2 : Kp No s1 { s1 with heap := h' } := Kp.heap (t := s1.toks) fun b o e => he b o (Nat.ne_of_lt (Heap.lt_size e)) e
    have a2 := (at0.kp k1).kp k2
    refine assignAttr (EV.name hy a2 fun u s3 k3 r3 => ?_)
    have e : u = .ref a := by simpa [Rep] using r3
    subst e
    refine (a2.kp k3).setattr ok1 hx1 (by lia) ((r1.kp at0.live.blt (fun _ q => q.elim) k2).kp at0.live.blt (fun _ q => q.elim) k3) fun s4 k4 t4 a4 => ?_
    refine assignAttr (EV.name hy a4 fun u s5 k5 r5 => ?_)
    have e : u = .ref a := by simpa [Rep] using r5
    subst e
    refine (a4.kp k5).setattr ok2 hx2 (by simp; lia) ((((r2.kp at0.live.blt (fun _ q => q.elim) k2).kp at0.live.blt (fun _ q => q.elim) k3).kp at0.live.blt (Own.sub (a2.kp k3)) k4).kp at0.live.blt (fun _ q => q.elim) k5) fun s6 k6 t6 a6 => assignDone (ts := []) ?_
    have k45 : Kp (Own _ (.obj a da C ns ds)) s4 s6 := (k5.of_no.trans k6)
    exact n a6 nf (q.on ((((k1.of_no.trans k2.of_no).trans k3.of_no).trans k4).trans k45) (((((Still.of_no k1 at0.inn).trans (Still.of_no k2 (at0.kp k1).inn)).trans (Still.of_no k3 a2.inn)).trans t4).trans ((Still.of_no k5 a4.inn).trans t6)) SameHas.refl)) (hs _) (swapped_none hw))
/-- one more item onto the list -/
theorem At.append {A : Around} {env : Env} {S : Addr → Prop} {s : Shared} {a : Addr} {l : List D} {d : D} {v : Value} {Q : Value → Shared → Prop} {E : Value → Shared → Prop} (at0 : At c k nl ρ (.pls a l) A env S s) (r : Rep S s.heap d v) (hz : l.length ≤ sizeLine)
    (q : ∀ s', Kp (Own env (.pls a l)) s s' → Still (Own env (.pls a l)) s s' → At c k nl ρ (.pls a (l ++ [d])) A env S s' → Q .none s') : wpAny (model c.prog c.w) A (call (.builtin "list.append") [.ref a, v]) Q E s := by
  obtain ⟨vs, hl, rs⟩ := at0.mu
  obtain ⟨mS, mb, ml, mc⟩ := at0.muS a rfl
  refine wpAny_list_append_plain hl (fun h' hl' hs => ?_) (by rw [List.size_toArray, rs.length]; exact hz)
  have kp : Kp (Mu.pls a l).has s { s with heap := h' } := Kp.two (tk := s.toks) rfl mb hs
  have a2 := at0.kpM (μ' := .pls a (l ++ [d])) kp (fun _ => Iff.rfl) ⟨vs ++ [v], by simpa using hl', by
    refine Reps.append (Reps.mono (fun b o nb e => (hs.2 b fun z => nb (z ▸ mS)).trans e) (fun _ n _ => n) rs) ?_
    simp only [Reps]
    exact ⟨v, [], rfl, Rep.mono (fun b o nb e => (hs.2 b fun z => nb (z ▸ mS)).trans e) (fun _ n _ => n) r, rfl⟩⟩
  refine q _ (kp.weak fun b hb => .inr (.inr hb)) (fun b hb e => ?_) a2
  by_cases hbd : b = a
  · subst hbd; obtain ⟨n, e⟩ := hl'; show (h'.get? _).isSome = true; rw [e]; rfl
  · show (h'.get? b).isSome = true; rw [hs.2 b hbd]; exact e
theorem EX.append {y : Str} {p ap cp pos : Pos} {e : Expr} {rest : List Stmt} {ks : List (List Stmt)} {o : Out} {a : Addr} {l : List D} {d : D} (hy : (y, some (.ptr a)) ∈ ρ) (h : EV c k nl ρ (.pls a l) e d) (n : EX c k nl ρ (.pls a (l ++ [d])) rest ks o) (hz : l.length ≤ sizeLine) (hp : plainExpr e = true := by with_unfolding_all rfl)
    (he : MethForm (.Name y p) (Str.ofString "append") ap cp [e] := by with_unfolding_all (intro _; rfl)) : EX c k nl ρ (.pls a l) (.Expr (.Call (.Attribute (.Name y p) (Str.ofString "append") ap) [e] [] cp) pos :: rest) ks o := fun {A env S s Q E} at0 nf q => by
  refine wpAny_execs_cons (wpAny_Expr_any ?_ (by unfold interactive; rw [at0.kind]; rfl) rfl)
  refine MethodCall_ (he := he _) (EV.name hy at0 fun u s1 k1 r1 => ?_)
  have e1 : u = .ref a := by simpa [Rep] using r1
  subst e1
  obtain ⟨vs, ⟨m, hl⟩, rs⟩ := (at0.kp k1).mu
  refine getMethod_list_append hl rfl rfl (PyProof.Rows.callWith_method1 ?_ (starEach_plain hp) rfl)
  refine args_cons (h (at0.kp k1) fun v s2 k2 r2 => args_nil ?_) (starEach_plain hp)
  have a2 := (at0.kp k1).kp k2
  exact a2.append r2 hz fun s3 k3 t3 a3 => n a3 nf (q.on ((k1.of_no.trans k2.of_no).trans k3) (((Still.of_no k1 at0.inn).trans (Still.of_no k2 (at0.kp k1).inn)).trans t3) SameHas.refl)
/-- a new list that may be changed by its name -/
theorem EX.newlist {x : Str} {p pos lp : Pos} {rest : List Stmt} {ks : List (List Stmt)} {d : D} {f : Addr → Names} (P : ∀ a, Put x (.ptr a) ρ (f a)) (n : ∀ a, ∃ μ', EX c k nl (f a) (.pls a []) rest ks (.ret d μ')) : EX c k nl ρ .no (.Assign [.Name x p] (.List [] lp) pos :: rest) ks (.ret d .no) := fun {A env S s Q E} at0 nf q => by
  refine wpAny_execs_cons (wpAny_Assign_Name (PyProof.Rows.List_ (args_nil (wpAny_newObj_type ?_ (by show (#[] : Array Value).size ≤ sizeLine; decide)))) (by rfl))
  have hn := none_of_size (Nat.le_refl s.heap.objs.size)
  obtain ⟨n1, n2, n3, n4⟩ := newAddr at0.inn hn
  have k0 : Kp No s { s with heap := s.heap.push { cls := .type "list", data := .seq (List.toArray []) } } := Kp.push (t := s.toks)
  have at1 := at0.grow k0 hn (by show (Heap.get? (s.heap.push _) _).isSome = true; rw [Heap.get?_push_size _ rfl]; rfl)
  have at2 : At c k nl ρ (.pls s.heap.objs.size []) A env (fun b => S b ∨ b = s.heap.objs.size) _ :=
    { at1 with
      mu := ⟨[], ⟨0, Heap.get?_push_size _ rfl⟩, by simp [Reps]⟩
      muS := fun b hb => by
        rw [show b = s.heap.objs.size from hb]
        refine ⟨.inr rfl, n4, ?_, ?_⟩
        · intro e; obtain ⟨m, o, _, _, g, _⟩ := at0.ns; rw [← e, hn] at g; cases g
        · intro y e; obtain ⟨_, _, _, w, o, g, _⟩ := at0.cells y _ e; rw [hn] at g; cases g }
  have P' := P s.heap.objs.size
  obtain ⟨μ', n'⟩ := n s.heap.objs.size
  refine at2.store nf P' (by simp [Rep]) fun s2 k2 t2 a2 => n' a2 nf fun v s3 k3 t3 r3 m3 => ?_
  have fr : ∀ b, Own env (.pls s.heap.objs.size []) b → (s.heap.get? b).isSome = true → Own env .no b := fun b hb e => by
    rcases hb with hb | hb | hb
    · exact .inl hb
    · exact .inr (.inl hb)
    · rw [show b = s.heap.objs.size from hb, hn] at e; cases e
  have kk := k2.trans k3
  refine q v s3 ⟨(k0.of_no.trans kk).same, fun b o nb e => ?_, fun m e => kk.blt m (k0.blt m e)⟩ (fun b hb e => ?_) (r3.mono (fun _ _ _ e => e) fun b n _ h => n (.inl h)) trivial
  · exact kk.keep0 b o (fun hb => nb (fr b hb (by rw [e]; rfl))) (k0.keep0 b o id e)
  · have hb' : Own env (.pls s.heap.objs.size []) b := by
      rcases hb with hb | hb | hb
      · exact .inl hb
      · exact .inr (.inl hb)
      · exact hb.elim
    exact t3 b hb' (t2 b hb' (Still.of_no k0 at0.inn (X := fun _ => True) b trivial e))
end
end Mine
end
section
-- A10
open PySem PySem.W PyProof.Rows
set_option Elab.async false
set_option linter.all false
set_option maxRecDepth 100000
namespace Mine
section
variable {c : Cx} {k : Nat} {nl : NL} {ρ ρ' ρ'' ρ3 : Names} {μ μ' : Mu}
theorem closure_ex {env : Env} : ∀ (names : NL) (acc : List (Str × Addr)) (f : Str × NameKind → List (Str × Addr) → Sem (ForInStep (List (Str × Addr)))), (∀ n kd cs, f (n, kd) cs = if (kd == NameKind.free) = true then (do let a ← cellOf env n; pure (.yield ((n, a) :: cs))) else pure (.yield cs)) →
    (∀ n, (n, NameKind.free) ∈ names → ∃ a, env.cells.lookup n = some a) →
    ∃ cl, forIn names acc f = pure cl ∧ (∀ p ∈ cl, p ∈ acc ∨ ((p.1, NameKind.free) ∈ names ∧ env.cells.lookup p.1 = some p.2)) ∧ (∀ p ∈ acc, p ∈ cl) ∧ ∀ n, (n, NameKind.free) ∈ names → ∃ a, (n, a) ∈ cl
  | [], acc, f, hf, h => ⟨acc, by rw [List.forIn_nil], fun p hp => .inl hp, fun p hp => hp, fun n hn => by cases hn⟩
  | (n, kd) :: r, acc, f, hf, h => by
    have hr : ∀ m, (m, NameKind.free) ∈ r → ∃ a, env.cells.lookup m = some a := fun m hm => h m (.tail _ hm)
    rw [List.forIn_cons, hf]
    by_cases hk : kd = NameKind.free
    · subst hk
      obtain ⟨a, ha⟩ := h n (.head _)
      have e : cellOf env n = pure a := by unfold cellOf; rw [ha]
      obtain ⟨cl, h1, h2, h3, h4⟩ := closure_ex r ((n, a) :: acc) f hf hr
      refine ⟨cl, ?_, fun p hp => ?_, fun p hp => h3 p (.tail _ hp), fun m hm => ?_⟩
      · rw [e]; simp only [beq_self_eq_true, if_true, pure_bind]; exact h1
      · rcases h2 p hp with h | ⟨h, h'⟩
        · rcases List.mem_cons.mp h with rfl | h
          · exact .inr ⟨.head _, ha⟩
          · exact .inl h
        · exact .inr ⟨.tail _ h, h'⟩
      · rcases List.mem_cons.mp hm with hm | hm
        · cases hm; exact ⟨a, h3 _ (.head _)⟩
        · exact h4 m hm
    · have e : (kd == NameKind.free) = false := by simpa using hk
      obtain ⟨cl, h1, h2, h3, h4⟩ := closure_ex r acc f hf hr
      refine ⟨cl, ?_, fun p hp => ?_, h3, fun m hm => ?_⟩
      · rw [e]; simp only [Bool.false_eq_true, if_false, pure_bind]; exact h1
      · rcases h2 p hp with h | ⟨h, h'⟩
        · exact .inl h
        · exact .inr ⟨.tail _ h, h'⟩
      · rcases List.mem_cons.mp hm with hm | hm
        · cases hm; exact (hk rfl).elim
        · exact h4 m hm
theorem closureFor_ex {scope : Scope} {env : Env} (h : ∀ n, (n, NameKind.free) ∈ scope.names → ∃ a, env.cells.lookup n = some a) :
    ∃ cl, closureFor scope env = pure cl ∧ (∀ n a, cl.lookup n = some a → (n, NameKind.free) ∈ scope.names ∧ env.cells.lookup n = some a) ∧ ∀ n, (n, NameKind.free) ∈ scope.names → ∃ a, cl.lookup n = some a := by
  obtain ⟨cl, h1, h2, h3, h4⟩ := closure_ex (env := env) scope.names [] (fun x cs => do
    let (name, kind) := x
    if kind == .free then pure (.yield ((name, ← cellOf env name) :: cs)) else pure (.yield cs)) (fun n kd cs => rfl) h
  refine ⟨cl, ?_, fun n a e => ?_, fun n hn => ?_⟩
  · simp only [closureFor]
    refine Eq.trans (congrArg (· >>= _) (Eq.trans ?_ h1)) (pure_bind _ _)
    rfl
  · rcases h2 _ (mem_of_lookup e) with h | h
    · cases h
    · exact h
  · obtain ⟨a, ha⟩ := h4 n hn
    exact Option.isSome_iff_exists.mp (some_of_mem ha)
/-- the names as the block of the comprehension sees them -/
noncomputable def inBlock (nl : NL) : NL := nl.map fun p => (p.1, if (match p.2 with | .free => true | _ => false) = true then .cell else p.2)
theorem inBlock_keys (names : NL) : (inBlock names).map (·.1) = names.map (·.1) := by simp [inBlock, Function.comp_def]
theorem inBlock_mem {names : NL} {p : Str × NameKind} (h : p ∈ inBlock names) : (p ∈ names ∧ p.2 ≠ .free) ∨ (p.2 = .cell ∧ (p.1, NameKind.free) ∈ names) := by
  obtain ⟨⟨n, kd⟩, hq, rfl⟩ := List.mem_map.mp h
  cases kd <;> first | exact .inl ⟨hq, by simp⟩ | exact .inr ⟨rfl, hq⟩
/-- a comprehension's scope that the rules below serve -/
noncomputable def compOk (sc : Scope) (nl : NL) (x : Str) (fr : List Str) : Bool :=
  sc.kind == .function && allFresh (Str.ofString "__debug__" :: Str.ofString "__name__" :: sc.names.map (·.1)) && sc.names.all (fun p => match p.2 with | .cell => false | .free => nl.any fun q => sq q.1 p.1 && (match q.2 with | .cell => true | _ => false) | _ => true) &&
    sc.names.any (fun p => sq p.1 x && (match p.2 with | .local => true | _ => false)) && fr.all (fun y => sc.names.any fun p => sq p.1 y && (match p.2 with | .free => true | _ => false)) && allFresh (x :: fr)
theorem any_kind {names : NL} {x : Str} {g : NameKind → Bool} (h : (names.any fun p => sq p.1 x && g p.2) = true) : ∃ kd, (x, kd) ∈ names ∧ g kd = true := by
  obtain ⟨⟨n, kd⟩, hm, hp⟩ := List.any_eq_true.mp h
  simp only [Bool.and_eq_true] at hp
  exact ⟨kd, by rw [← sq_iff.mp hp.1]; exact hm, hp.2⟩
/-- the tests of a clause -/
inductive TRs (c : Cx) (k : Nat) (nl : NL) (ρ : Names) (μ : Mu) : List Expr → Bool → Prop
  | nil : TRs c k nl ρ μ [] true
  | no {e : Expr} {es : List Expr} : TR c k nl ρ μ e false → TRs c k nl ρ μ (e :: es) false
  | yes {e : Expr} {es : List Expr} {b : Bool} : TR c k nl ρ μ e true → TRs c k nl ρ μ es b → TRs c k nl ρ μ (e :: es) b
theorem tests_false {M : Model} {A : Around} {env : Env} {Q : Bool → Shared → Prop} {E : Value → Shared → Prop} {s : Shared} : ∀ {ifs : List Expr}, Q false s → wpAny M A (forIn ifs false fun c r => if r = true then do let ok ← isTrue c env (eval c env); pure (ForInStep.yield ok) else pure (ForInStep.yield r)) Q E s
  | [], h => by rw [List.forIn_nil]; exact wpAny_pure h
  | e :: es, h => by
    rw [List.forIn_cons, if_neg (by decide)]
    exact wpAny_bind (wpAny_pure (tests_false h))
theorem TRs.run {ifs : List Expr} {b : Bool} (h : TRs c k nl ρ μ ifs b) {A : Around} {env : Env} {S : Addr → Prop} {s : Shared} {Q : Bool → Shared → Prop} {E : Value → Shared → Prop} (a : At c k nl ρ μ A env S s) (q : ∀ s', Kp No s s' → Q b s') :
    wpAny (model c.prog c.w) A (forIn ifs true fun c r => if r = true then do let ok ← isTrue c env (eval c env); pure (ForInStep.yield ok) else pure (ForInStep.yield r)) Q E s := by
  induction h generalizing s with
  | nil => rw [List.forIn_nil]; exact wpAny_pure (q _ Kp.refl)
  | no h =>
    rw [List.forIn_cons, if_pos rfl]
    exact wpAny_bind (wpAny_bind (h a fun s' k1 => wpAny_pure (tests_false (q _ k1))))
  | yes h hs ih =>
    rw [List.forIn_cons, if_pos rfl]
    exact wpAny_bind (wpAny_bind (h a fun s' k1 => wpAny_pure (ih (a.kp k1) fun s'' k2 => q _ (k1.trans k2))))
/-- a local name is bound anew: only the frame's own dict changes -/
theorem At.storeL {x : Str} {d : D} {v : Value} {A : Around} {env : Env} {S : Addr → Prop} {s : Shared} {Q : Unit → Shared → Prop} {E : Value → Shared → Prop} {M : Model} (a : At c k nl ρ μ A env S s) (hx : env.kindOf x = some .local)
    (P : Put x d ρ ρ') (r : Rep S s.heap d v) (q : ∀ s', Kp (fun b => b = env.locals) s s' → At c k nl ρ' μ A env S s' → Q () s') : wpAny M A (storeName env x v) Q E s := by
  obtain ⟨ex, hex⟩ := P.has
  obtain ⟨m, hn⟩ := a.ns
  have hnd : (ρ'.map (·.1)).Nodup := by rw [P.keys]; exact a.nodup
  have hks : ∀ p ∈ ρ', env.kindOf p.1 = some .local ∨ env.kindOf p.1 = some .cell ∨ env.kindOf p.1 = some .free := fun p hp => by
    rcases P.mem a.nodup _ hp with rfl | h
    · exact a.kinds (x, ex) hex
    · exact a.kinds _ h.1
  have hS : ∀ b, b = env.locals → S b := fun b e => e ▸ a.loc
  refine wpAny_storeName_local hx hn (fun h' hn' hs => ?_) (by rw [a.kind]; rfl)
  have kp : Kp (fun b => b = env.locals) s { s with heap := h', toks := s.toks + 1 } := Kp.two rfl a.locb hs
  have st : Still (fun b => b = env.locals) s { s with heap := h', toks := s.toks + 1 } := fun b hb _ => by
    rw [show b = env.locals from hb]; obtain ⟨o, _, _, ho, _⟩ := hn'; show (h'.get? _).isSome = true; rw [ho]; rfl
  refine q _ kp { room := a.room, scope := a.scope, glob := a.glob, blt := a.blt, kind := a.kind, names := a.names, dbg := a.dbg, live := a.live.kp a.inn kp st, inn := a.inn.kp a.live hS kp, ns := ⟨_, hn'⟩, loc := a.loc, locb := a.locb, cells := ?_, cellOne := a.cellOne, cellHas := a.cellHas, nodup := hnd, kinds := hks, rep := ?_, mu := a.mu.mono (fun b o hb e => (hs.2 b (a.muS b hb).2.2.1).trans e) (fun b o n e => (hs.2 b fun q => n (q ▸ a.loc)).trans e) (fun _ n _ => n), muS := a.muS }
  · intro y b e
    obtain ⟨h1, h2, h3, w, o, h4, h5⟩ := a.cells y b e
    exact ⟨h1, h2, h3, w, o, (hs.2 b h3).trans h4, h5⟩
  · intro y e hy
    rcases P.mem a.nodup _ hy with h | ⟨h, hne⟩
    · cases h
      exact ⟨v, .inl ⟨hx, _, hn', by simp⟩, r.kp a.live.blt hS kp⟩
    · obtain ⟨u, stt, ru⟩ := a.rep y e h
      refine ⟨u, ?_, ru.kp a.live.blt hS kp⟩
      rcases stt with ⟨h1, m', h2, h3⟩ | ⟨h1, b, h2, o, h3, h4⟩
      · refine .inl ⟨h1, _, hn', ?_⟩
        have : m' y = m y := by
          obtain ⟨o1, es1, ep1, g1, d1, _, f1⟩ := h2
          obtain ⟨o2, es2, ep2, g2, d2, _, f2⟩ := hn
          rw [g1] at g2; cases g2
          rw [d1] at d2; cases d2
          rw [← f1, ← f2]
        show (if y = x then some v else m y) = some u
        rw [if_neg hne, ← this]; exact h3
      · exact .inr ⟨h1, b, h2, o, (hs.2 b (a.cells y b h2).2.2.1).trans h3, h4⟩
theorem At.appendK {A : Around} {env : Env} {S : Addr → Prop} {s : Shared} {a : Addr} {l : List D} {d : D} {v : Value} {Q : Value → Shared → Prop} {E : Value → Shared → Prop} (at0 : At c k nl ρ (.pls a l) A env S s) (r : Rep S s.heap d v) (hz : l.length ≤ sizeLine)
    (q : ∀ s', Kp (fun b => b = a) s s' → At c k nl ρ (.pls a (l ++ [d])) A env S s' → Q .none s') : wpAny (model c.prog c.w) A (call (.builtin "list.append") [.ref a, v]) Q E s := by
  obtain ⟨vs, hl, rs⟩ := at0.mu
  obtain ⟨mS, mb, ml, mc⟩ := at0.muS a rfl
  refine wpAny_list_append_plain hl (fun h' hl' hs => ?_) (by rw [List.size_toArray, rs.length]; exact hz)
  have kp : Kp (Mu.pls a l).has s { s with heap := h' } := Kp.two (tk := s.toks) rfl mb hs
  exact q _ kp (at0.kpM (μ' := .pls a (l ++ [d])) kp (fun _ => Iff.rfl) ⟨vs ++ [v], by simpa using hl', by
    refine Reps.append (Reps.mono (fun b o nb e => (hs.2 b fun z => nb (z ▸ mS)).trans e) (fun _ n _ => n) rs) ?_
    simp only [Reps]
    exact ⟨v, [], rfl, Rep.mono (fun b o nb e => (hs.2 b fun z => nb (z ▸ mS)).trans e) (fun _ n _ => n) r, rfl⟩⟩)
/-- what the comprehension makes of the data -/
inductive CL (c : Cx) (k : Nat) (nl : NL) (fr : Names) (x : Str) (ifs : List Expr) (elt : Expr) : List D → List D → Prop
  | nil : CL c k nl fr x ifs elt [] []
  | skip {d : D} {ds es : List D} : (∀ μ, TRs c k nl ((x, some d) :: fr) μ ifs false) → CL c k nl fr x ifs elt ds es → CL c k nl fr x ifs elt (d :: ds) es
  | take {d e : D} {ds es : List D} : (∀ μ, TRs c k nl ((x, some d) :: fr) μ ifs true) → (∀ μ, EV c k nl ((x, some d) :: fr) μ elt e) → CL c k nl fr x ifs elt ds es → CL c k nl fr x ifs elt (d :: ds) (e :: es)
theorem CL.len {fr : Names} {x : Str} {ifs : List Expr} {elt : Expr} {ds es : List D} (h : CL c k nl fr x ifs elt ds es) : es.length ≤ ds.length := by
  induction h with
  | nil => exact Nat.le_refl _
  | skip _ _ ih => exact Nat.le_trans ih (Nat.le_succ _)
  | take _ _ _ ih => simpa using ih
end
end Mine
end
section
-- A12
open PySem PySem.W PyProof.Rows
set_option Elab.async false
set_option linter.all false
set_option maxRecDepth 100000
namespace Mine
section
variable {c : Cx} {k : Nat} {nl : NL} {ρ ρ' ρ'' ρ3 : Names} {μ μ' : Mu}
theorem EX.swap3 {x y z : Str} {p1 p2 p3 tp vp pos : Pos} {k1 k2 : Nat} {e1 e2 e3 : Expr} {rest : List Stmt} {ks : List (List Stmt)} {o : Out} {d1 d2 d3 : D} (h : EVs c k nl ρ μ [e1, e2, e3] [d1, d2, d3]) (hx : (x, NameKind.local) ∈ nl) (hy : (y, NameKind.local) ∈ nl) (hz : (z, NameKind.local) ∈ nl)
    (P3 : Put z d3 ρ ρ') (P2 : Put y d2 ρ' ρ'') (P1 : Put x d1 ρ'' ρ3) (n : EX c k nl ρ3 μ rest ks o) (hne : sq x y = false := by decide) (hne2 : sq x z = false := by decide) (hne3 : sq y z = false := by decide) (hl : p1.line = p2.line := by with_unfolding_all rfl) (hl2 : p1.line = p3.line := by with_unfolding_all rfl)
    (hf : isStar e1 = false := by with_unfolding_all rfl) (hf' : isStar e2 = false := by with_unfolding_all rfl) (hf'' : isStar e3 = false := by with_unfolding_all rfl) (hf1 : [e1, e2, e3].all (foldedForSure 8) = false := by with_unfolding_all rfl) (hf2 : [e1, e2, e3].all (constantsAlone 8) = false := by with_unfolding_all rfl)
    (hs : ∀ env : Env, swapsWithSole [.Tuple [.Name x p1, .Name y p2, .Name z p3] k1 tp] (.Tuple [e1, e2, e3] k2 vp) pos.line env = pure false := by with_unfolding_all (intro _; rfl)) : EX c k nl ρ μ (.Assign [.Tuple [.Name x p1, .Name y p2, .Name z p3] k1 tp] (.Tuple [e1, e2, e3] k2 vp) pos :: rest) ks o := fun {A env S s Q E} a nf q => by
  have hx' := a.local_ hx
  have hy' := a.local_ hy
  have hz' := a.local_ hz
  have hxy : x ≠ y := fun e => by rw [sq_iff.mpr e] at hne; cases hne
  have hxz : x ≠ z := fun e => by rw [sq_iff.mpr e] at hne2; cases hne2
  have hyz : y ≠ z := fun e => by rw [sq_iff.mpr e] at hne3; cases hne3
  have hb : env.blockKind = .function := by unfold Env.blockKind; rw [a.kind]; rfl
  have hw : swappedStores [.Tuple [.Name x p1, .Name y p2, .Name z p3] k1 tp] (.Tuple [e1, e2, e3] k2 vp) env = pure (some [x, y, z]) := by
    refine swapped_of (by rw [hb]; rfl) (by rw [List.any_cons, List.any_cons, List.any_cons, hf, hf', hf'']; rfl) (ns := [x, y, z]) ?_ ?_ hf1 hf2
    · show List.filterMap (nameAt env p1.line) [.Name x p1, .Name y p2, .Name z p3] = _
      rw [List.filterMap_cons_some (nameAt_local hx' rfl), List.filterMap_cons_some (nameAt_local hy' hl.symm), List.filterMap_cons_some (nameAt_local hz' hl2.symm)]; rfl
    · have e : (y == x) = false := beq_eq_false_iff_ne.mpr (Ne.symm hxy)
      have e2 : (z == x) = false := beq_eq_false_iff_ne.mpr (Ne.symm hxz)
      have e3 : (z == y) = false := beq_eq_false_iff_ne.mpr (Ne.symm hyz)
      have : [x, y, z].eraseDups = [x, y, z] := by
        rw [List.eraseDups_cons, List.filter_cons, e, List.filter_cons, e2, List.filter_nil]
        show x :: List.eraseDups [y, z] = _
        rw [List.eraseDups_cons, List.filter_cons, e3]; rfl
      rw [this]; rfl
  refine wpAny_execs_cons (Assign_Tuple_swapped ((EV.tuple h (Nat.le_of_ble_eq_true (by rfl) : [d1, d2, d3].length ≤ sizeLine)) a fun v s' k1 r => ?_) (hs _) hw)
  obtain ⟨t, u, w, v3, rfl, ht, r1, r2, r3⟩ := r.tup3
  refine unpack_ (S := S) a.room.handled ht rfl fun s2 k2 => ?_
  have a2 := (a.kp k1).kp k2
  refine assignBinds (wpAny_mono (a2.store3 nf P3 P2 P1 (r3.kp a.live.blt (fun _ q => q.elim) k2) (r2.kp a.live.blt (fun _ q => q.elim) k2) (r1.kp a.live.blt (fun _ q => q.elim) k2) fun s3 k3 t3 a3 => ?_)
    (fun _ _ z => assignBinds (wpAny_mono z (fun _ _ z => assignBinds (wpAny_mono z (fun _ _ z => assignDone (ts := []) z) fun _ _ e => e)) fun _ _ e => e)) fun _ _ e => e)
  exact n a3 nf (q.on ((k1.of_no.trans k2.of_no).trans k3) (((Still.of_no k1 a.inn).trans (Still.of_no k2 (a.kp k1).inn)).trans t3))
/-- a bool is a number -/
theorem BinD.subB {a b : Bool} : BinD c .Sub (.bool a) (.bool b) (.int (b2i a - b2i b)) := fun _ _ r r' q => by
  rw [r.bool_inv, r'.bool_inv]
  exact sub_bool (q _ _ Kp.toks Rep.int_mk)
theorem EV.iteI {t x y : Expr} {pos : Pos} {b : Bool} {i j : Int} (h : TR c k nl ρ μ t b) (h1 : b = true → EV c k nl ρ μ x (.int i)) (h2 : b = false → EV c k nl ρ μ y (.int j)) : EV c k nl ρ μ (.IfExp t x y pos) (.int (if b then i else j)) :=
  EV.of (EV.ite h h1 h2) (by cases b <;> rfl)
theorem EV.iteS {t x y : Expr} {pos : Pos} {b : Bool} {i j : Str} (h : TR c k nl ρ μ t b) (h1 : b = true → EV c k nl ρ μ x (.str i)) (h2 : b = false → EV c k nl ρ μ y (.str j)) : EV c k nl ρ μ (.IfExp t x y pos) (.str (if b then i else j)) :=
  EV.of (EV.ite h h1 h2) (by cases b <;> rfl)
theorem EV.iteT {t x y : Expr} {pos : Pos} {d : D} (h : TR c k nl ρ μ t true) (h1 : EV c k nl ρ μ x d) : EV c k nl ρ μ (.IfExp t x y pos) d :=
  EV.of (EV.ite (d' := d) h (fun _ => h1) fun e => by cases e) rfl
theorem EV.iteF {t x y : Expr} {pos : Pos} {d : D} (h : TR c k nl ρ μ t false) (h1 : EV c k nl ρ μ y d) : EV c k nl ρ μ (.IfExp t x y pos) d :=
  EV.of (EV.ite (d := d) h (fun e => by cases e) fun _ => h1) rfl
theorem EX.iteT {t : Expr} {x y rest : List Stmt} {pos : Pos} {ks : List (List Stmt)} {o : Out} (h : TR c k nl ρ μ t true) (h1 : EX c k nl ρ μ x (rest :: ks) o) : EX c k nl ρ μ (.If t x y pos :: rest) ks o := EX.ite h (fun _ => h1) fun e => by cases e
theorem EX.iteF {t : Expr} {x y rest : List Stmt} {pos : Pos} {ks : List (List Stmt)} {o : Out} (h : TR c k nl ρ μ t false) (h1 : EX c k nl ρ μ y (rest :: ks) o) : EX c k nl ρ μ (.If t x y pos :: rest) ks o := EX.ite h (fun e => by cases e) fun _ => h1
end
theorem m0 {α : Type} {a  : α} {l : List α} : a ∈ a :: l := .head _
theorem m1 {α : Type} {a b0 : α} {l : List α} : a ∈ b0 :: a :: l := .tail _ m0
theorem m2 {α : Type} {a b0 b1 : α} {l : List α} : a ∈ b0 :: b1 :: a :: l := .tail _ m1
theorem m3 {α : Type} {a b0 b1 b2 : α} {l : List α} : a ∈ b0 :: b1 :: b2 :: a :: l := .tail _ m2
theorem m4 {α : Type} {a b0 b1 b2 b3 : α} {l : List α} : a ∈ b0 :: b1 :: b2 :: b3 :: a :: l := .tail _ m3
theorem m5 {α : Type} {a b0 b1 b2 b3 b4 : α} {l : List α} : a ∈ b0 :: b1 :: b2 :: b3 :: b4 :: a :: l := .tail _ m4
theorem m6 {α : Type} {a b0 b1 b2 b3 b4 b5 : α} {l : List α} : a ∈ b0 :: b1 :: b2 :: b3 :: b4 :: b5 :: a :: l := .tail _ m5
theorem m7 {α : Type} {a b0 b1 b2 b3 b4 b5 b6 : α} {l : List α} : a ∈ b0 :: b1 :: b2 :: b3 :: b4 :: b5 :: b6 :: a :: l := .tail _ m6
theorem m8 {α : Type} {a b0 b1 b2 b3 b4 b5 b6 b7 : α} {l : List α} : a ∈ b0 :: b1 :: b2 :: b3 :: b4 :: b5 :: b6 :: b7 :: a :: l := .tail _ m7
theorem m9 {α : Type} {a b0 b1 b2 b3 b4 b5 b6 b7 b8 : α} {l : List α} : a ∈ b0 :: b1 :: b2 :: b3 :: b4 :: b5 :: b6 :: b7 :: b8 :: a :: l := .tail _ m8
theorem m10 {α : Type} {a b0 b1 b2 b3 b4 b5 b6 b7 b8 b9 : α} {l : List α} : a ∈ b0 :: b1 :: b2 :: b3 :: b4 :: b5 :: b6 :: b7 :: b8 :: b9 :: a :: l := .tail _ m9
theorem m11 {α : Type} {a b0 b1 b2 b3 b4 b5 b6 b7 b8 b9 b10 : α} {l : List α} : a ∈ b0 :: b1 :: b2 :: b3 :: b4 :: b5 :: b6 :: b7 :: b8 :: b9 :: b10 :: a :: l := .tail _ m10
theorem m12 {α : Type} {a b0 b1 b2 b3 b4 b5 b6 b7 b8 b9 b10 b11 : α} {l : List α} : a ∈ b0 :: b1 :: b2 :: b3 :: b4 :: b5 :: b6 :: b7 :: b8 :: b9 :: b10 :: b11 :: a :: l := .tail _ m11
theorem m13 {α : Type} {a b0 b1 b2 b3 b4 b5 b6 b7 b8 b9 b10 b11 b12 : α} {l : List α} : a ∈ b0 :: b1 :: b2 :: b3 :: b4 :: b5 :: b6 :: b7 :: b8 :: b9 :: b10 :: b11 :: b12 :: a :: l := .tail _ m12
theorem m14 {α : Type} {a b0 b1 b2 b3 b4 b5 b6 b7 b8 b9 b10 b11 b12 b13 : α} {l : List α} : a ∈ b0 :: b1 :: b2 :: b3 :: b4 :: b5 :: b6 :: b7 :: b8 :: b9 :: b10 :: b11 :: b12 :: b13 :: a :: l := .tail _ m13
theorem m15 {α : Type} {a b0 b1 b2 b3 b4 b5 b6 b7 b8 b9 b10 b11 b12 b13 b14 : α} {l : List α} : a ∈ b0 :: b1 :: b2 :: b3 :: b4 :: b5 :: b6 :: b7 :: b8 :: b9 :: b10 :: b11 :: b12 :: b13 :: b14 :: a :: l := .tail _ m14
theorem m16 {α : Type} {a b0 b1 b2 b3 b4 b5 b6 b7 b8 b9 b10 b11 b12 b13 b14 b15 : α} {l : List α} : a ∈ b0 :: b1 :: b2 :: b3 :: b4 :: b5 :: b6 :: b7 :: b8 :: b9 :: b10 :: b11 :: b12 :: b13 :: b14 :: b15 :: a :: l := .tail _ m15
theorem m17 {α : Type} {a b0 b1 b2 b3 b4 b5 b6 b7 b8 b9 b10 b11 b12 b13 b14 b15 b16 : α} {l : List α} : a ∈ b0 :: b1 :: b2 :: b3 :: b4 :: b5 :: b6 :: b7 :: b8 :: b9 :: b10 :: b11 :: b12 :: b13 :: b14 :: b15 :: b16 :: a :: l := .tail _ m16
theorem m18 {α : Type} {a b0 b1 b2 b3 b4 b5 b6 b7 b8 b9 b10 b11 b12 b13 b14 b15 b16 b17 : α} {l : List α} : a ∈ b0 :: b1 :: b2 :: b3 :: b4 :: b5 :: b6 :: b7 :: b8 :: b9 :: b10 :: b11 :: b12 :: b13 :: b14 :: b15 :: b16 :: b17 :: a :: l := .tail _ m17
theorem m19 {α : Type} {a b0 b1 b2 b3 b4 b5 b6 b7 b8 b9 b10 b11 b12 b13 b14 b15 b16 b17 b18 : α} {l : List α} : a ∈ b0 :: b1 :: b2 :: b3 :: b4 :: b5 :: b6 :: b7 :: b8 :: b9 :: b10 :: b11 :: b12 :: b13 :: b14 :: b15 :: b16 :: b17 :: b18 :: a :: l := .tail _ m18
theorem m20 {α : Type} {a b0 b1 b2 b3 b4 b5 b6 b7 b8 b9 b10 b11 b12 b13 b14 b15 b16 b17 b18 b19 : α} {l : List α} : a ∈ b0 :: b1 :: b2 :: b3 :: b4 :: b5 :: b6 :: b7 :: b8 :: b9 :: b10 :: b11 :: b12 :: b13 :: b14 :: b15 :: b16 :: b17 :: b18 :: b19 :: a :: l := .tail _ m19
theorem m21 {α : Type} {a b0 b1 b2 b3 b4 b5 b6 b7 b8 b9 b10 b11 b12 b13 b14 b15 b16 b17 b18 b19 b20 : α} {l : List α} : a ∈ b0 :: b1 :: b2 :: b3 :: b4 :: b5 :: b6 :: b7 :: b8 :: b9 :: b10 :: b11 :: b12 :: b13 :: b14 :: b15 :: b16 :: b17 :: b18 :: b19 :: b20 :: a :: l := .tail _ m20
theorem m22 {α : Type} {a b0 b1 b2 b3 b4 b5 b6 b7 b8 b9 b10 b11 b12 b13 b14 b15 b16 b17 b18 b19 b20 b21 : α} {l : List α} : a ∈ b0 :: b1 :: b2 :: b3 :: b4 :: b5 :: b6 :: b7 :: b8 :: b9 :: b10 :: b11 :: b12 :: b13 :: b14 :: b15 :: b16 :: b17 :: b18 :: b19 :: b20 :: b21 :: a :: l := .tail _ m21
theorem m23 {α : Type} {a b0 b1 b2 b3 b4 b5 b6 b7 b8 b9 b10 b11 b12 b13 b14 b15 b16 b17 b18 b19 b20 b21 b22 : α} {l : List α} : a ∈ b0 :: b1 :: b2 :: b3 :: b4 :: b5 :: b6 :: b7 :: b8 :: b9 :: b10 :: b11 :: b12 :: b13 :: b14 :: b15 :: b16 :: b17 :: b18 :: b19 :: b20 :: b21 :: b22 :: a :: l := .tail _ m22
theorem m24 {α : Type} {a b0 b1 b2 b3 b4 b5 b6 b7 b8 b9 b10 b11 b12 b13 b14 b15 b16 b17 b18 b19 b20 b21 b22 b23 : α} {l : List α} : a ∈ b0 :: b1 :: b2 :: b3 :: b4 :: b5 :: b6 :: b7 :: b8 :: b9 :: b10 :: b11 :: b12 :: b13 :: b14 :: b15 :: b16 :: b17 :: b18 :: b19 :: b20 :: b21 :: b22 :: b23 :: a :: l := .tail _ m23
theorem m25 {α : Type} {a b0 b1 b2 b3 b4 b5 b6 b7 b8 b9 b10 b11 b12 b13 b14 b15 b16 b17 b18 b19 b20 b21 b22 b23 b24 : α} {l : List α} : a ∈ b0 :: b1 :: b2 :: b3 :: b4 :: b5 :: b6 :: b7 :: b8 :: b9 :: b10 :: b11 :: b12 :: b13 :: b14 :: b15 :: b16 :: b17 :: b18 :: b19 :: b20 :: b21 :: b22 :: b23 :: b24 :: a :: l := .tail _ m24
theorem m26 {α : Type} {a b0 b1 b2 b3 b4 b5 b6 b7 b8 b9 b10 b11 b12 b13 b14 b15 b16 b17 b18 b19 b20 b21 b22 b23 b24 b25 : α} {l : List α} : a ∈ b0 :: b1 :: b2 :: b3 :: b4 :: b5 :: b6 :: b7 :: b8 :: b9 :: b10 :: b11 :: b12 :: b13 :: b14 :: b15 :: b16 :: b17 :: b18 :: b19 :: b20 :: b21 :: b22 :: b23 :: b24 :: b25 :: a :: l := .tail _ m25
theorem m27 {α : Type} {a b0 b1 b2 b3 b4 b5 b6 b7 b8 b9 b10 b11 b12 b13 b14 b15 b16 b17 b18 b19 b20 b21 b22 b23 b24 b25 b26 : α} {l : List α} : a ∈ b0 :: b1 :: b2 :: b3 :: b4 :: b5 :: b6 :: b7 :: b8 :: b9 :: b10 :: b11 :: b12 :: b13 :: b14 :: b15 :: b16 :: b17 :: b18 :: b19 :: b20 :: b21 :: b22 :: b23 :: b24 :: b25 :: b26 :: a :: l := .tail _ m26
theorem m28 {α : Type} {a b0 b1 b2 b3 b4 b5 b6 b7 b8 b9 b10 b11 b12 b13 b14 b15 b16 b17 b18 b19 b20 b21 b22 b23 b24 b25 b26 b27 : α} {l : List α} : a ∈ b0 :: b1 :: b2 :: b3 :: b4 :: b5 :: b6 :: b7 :: b8 :: b9 :: b10 :: b11 :: b12 :: b13 :: b14 :: b15 :: b16 :: b17 :: b18 :: b19 :: b20 :: b21 :: b22 :: b23 :: b24 :: b25 :: b26 :: b27 :: a :: l := .tail _ m27
theorem m29 {α : Type} {a b0 b1 b2 b3 b4 b5 b6 b7 b8 b9 b10 b11 b12 b13 b14 b15 b16 b17 b18 b19 b20 b21 b22 b23 b24 b25 b26 b27 b28 : α} {l : List α} : a ∈ b0 :: b1 :: b2 :: b3 :: b4 :: b5 :: b6 :: b7 :: b8 :: b9 :: b10 :: b11 :: b12 :: b13 :: b14 :: b15 :: b16 :: b17 :: b18 :: b19 :: b20 :: b21 :: b22 :: b23 :: b24 :: b25 :: b26 :: b27 :: b28 :: a :: l := .tail _ m28
theorem p0 {x : Str} {d : D} {e : Option D} {r : Names} : Put x d ((x, e) :: r) ((x, some d) :: r) := .here
theorem p1 {x : Str} {d : D} {e : Option D} {b0 : Str × Option D} {r : Names} : Put x d (b0 :: (x, e) :: r) (b0 :: (x, some d) :: r) := .there p0
theorem p2 {x : Str} {d : D} {e : Option D} {b0 b1 : Str × Option D} {r : Names} : Put x d (b0 :: b1 :: (x, e) :: r) (b0 :: b1 :: (x, some d) :: r) := .there p1
theorem p3 {x : Str} {d : D} {e : Option D} {b0 b1 b2 : Str × Option D} {r : Names} : Put x d (b0 :: b1 :: b2 :: (x, e) :: r) (b0 :: b1 :: b2 :: (x, some d) :: r) := .there p2
theorem p4 {x : Str} {d : D} {e : Option D} {b0 b1 b2 b3 : Str × Option D} {r : Names} : Put x d (b0 :: b1 :: b2 :: b3 :: (x, e) :: r) (b0 :: b1 :: b2 :: b3 :: (x, some d) :: r) := .there p3
theorem p5 {x : Str} {d : D} {e : Option D} {b0 b1 b2 b3 b4 : Str × Option D} {r : Names} : Put x d (b0 :: b1 :: b2 :: b3 :: b4 :: (x, e) :: r) (b0 :: b1 :: b2 :: b3 :: b4 :: (x, some d) :: r) := .there p4
theorem p6 {x : Str} {d : D} {e : Option D} {b0 b1 b2 b3 b4 b5 : Str × Option D} {r : Names} : Put x d (b0 :: b1 :: b2 :: b3 :: b4 :: b5 :: (x, e) :: r) (b0 :: b1 :: b2 :: b3 :: b4 :: b5 :: (x, some d) :: r) := .there p5
theorem p7 {x : Str} {d : D} {e : Option D} {b0 b1 b2 b3 b4 b5 b6 : Str × Option D} {r : Names} : Put x d (b0 :: b1 :: b2 :: b3 :: b4 :: b5 :: b6 :: (x, e) :: r) (b0 :: b1 :: b2 :: b3 :: b4 :: b5 :: b6 :: (x, some d) :: r) := .there p6
theorem p8 {x : Str} {d : D} {e : Option D} {b0 b1 b2 b3 b4 b5 b6 b7 : Str × Option D} {r : Names} : Put x d (b0 :: b1 :: b2 :: b3 :: b4 :: b5 :: b6 :: b7 :: (x, e) :: r) (b0 :: b1 :: b2 :: b3 :: b4 :: b5 :: b6 :: b7 :: (x, some d) :: r) := .there p7
theorem p9 {x : Str} {d : D} {e : Option D} {b0 b1 b2 b3 b4 b5 b6 b7 b8 : Str × Option D} {r : Names} : Put x d (b0 :: b1 :: b2 :: b3 :: b4 :: b5 :: b6 :: b7 :: b8 :: (x, e) :: r) (b0 :: b1 :: b2 :: b3 :: b4 :: b5 :: b6 :: b7 :: b8 :: (x, some d) :: r) := .there p8
theorem p10 {x : Str} {d : D} {e : Option D} {b0 b1 b2 b3 b4 b5 b6 b7 b8 b9 : Str × Option D} {r : Names} : Put x d (b0 :: b1 :: b2 :: b3 :: b4 :: b5 :: b6 :: b7 :: b8 :: b9 :: (x, e) :: r) (b0 :: b1 :: b2 :: b3 :: b4 :: b5 :: b6 :: b7 :: b8 :: b9 :: (x, some d) :: r) := .there p9
theorem p11 {x : Str} {d : D} {e : Option D} {b0 b1 b2 b3 b4 b5 b6 b7 b8 b9 b10 : Str × Option D} {r : Names} : Put x d (b0 :: b1 :: b2 :: b3 :: b4 :: b5 :: b6 :: b7 :: b8 :: b9 :: b10 :: (x, e) :: r) (b0 :: b1 :: b2 :: b3 :: b4 :: b5 :: b6 :: b7 :: b8 :: b9 :: b10 :: (x, some d) :: r) := .there p10
theorem p12 {x : Str} {d : D} {e : Option D} {b0 b1 b2 b3 b4 b5 b6 b7 b8 b9 b10 b11 : Str × Option D} {r : Names} : Put x d (b0 :: b1 :: b2 :: b3 :: b4 :: b5 :: b6 :: b7 :: b8 :: b9 :: b10 :: b11 :: (x, e) :: r) (b0 :: b1 :: b2 :: b3 :: b4 :: b5 :: b6 :: b7 :: b8 :: b9 :: b10 :: b11 :: (x, some d) :: r) := .there p11
theorem p13 {x : Str} {d : D} {e : Option D} {b0 b1 b2 b3 b4 b5 b6 b7 b8 b9 b10 b11 b12 : Str × Option D} {r : Names} : Put x d (b0 :: b1 :: b2 :: b3 :: b4 :: b5 :: b6 :: b7 :: b8 :: b9 :: b10 :: b11 :: b12 :: (x, e) :: r) (b0 :: b1 :: b2 :: b3 :: b4 :: b5 :: b6 :: b7 :: b8 :: b9 :: b10 :: b11 :: b12 :: (x, some d) :: r) := .there p12
theorem p14 {x : Str} {d : D} {e : Option D} {b0 b1 b2 b3 b4 b5 b6 b7 b8 b9 b10 b11 b12 b13 : Str × Option D} {r : Names} : Put x d (b0 :: b1 :: b2 :: b3 :: b4 :: b5 :: b6 :: b7 :: b8 :: b9 :: b10 :: b11 :: b12 :: b13 :: (x, e) :: r) (b0 :: b1 :: b2 :: b3 :: b4 :: b5 :: b6 :: b7 :: b8 :: b9 :: b10 :: b11 :: b12 :: b13 :: (x, some d) :: r) := .there p13
theorem p15 {x : Str} {d : D} {e : Option D} {b0 b1 b2 b3 b4 b5 b6 b7 b8 b9 b10 b11 b12 b13 b14 : Str × Option D} {r : Names} : Put x d (b0 :: b1 :: b2 :: b3 :: b4 :: b5 :: b6 :: b7 :: b8 :: b9 :: b10 :: b11 :: b12 :: b13 :: b14 :: (x, e) :: r) (b0 :: b1 :: b2 :: b3 :: b4 :: b5 :: b6 :: b7 :: b8 :: b9 :: b10 :: b11 :: b12 :: b13 :: b14 :: (x, some d) :: r) := .there p14
theorem p16 {x : Str} {d : D} {e : Option D} {b0 b1 b2 b3 b4 b5 b6 b7 b8 b9 b10 b11 b12 b13 b14 b15 : Str × Option D} {r : Names} : Put x d (b0 :: b1 :: b2 :: b3 :: b4 :: b5 :: b6 :: b7 :: b8 :: b9 :: b10 :: b11 :: b12 :: b13 :: b14 :: b15 :: (x, e) :: r) (b0 :: b1 :: b2 :: b3 :: b4 :: b5 :: b6 :: b7 :: b8 :: b9 :: b10 :: b11 :: b12 :: b13 :: b14 :: b15 :: (x, some d) :: r) := .there p15
end Mine
end
section
-- M1
open PySem PySem.W PyProof.Rows
set_option Elab.async false
set_option linter.all false
namespace Mine
/-- kept out of the sums' sight -/
structure Hd (p : Prop) : Prop where
  out : p
theorem nab {x : Int} {n : Nat} (h1 : -(n : Int) ≤ x) (h2 : x ≤ n) : x.natAbs ≤ n := by lia
theorem nab' {x : Int} {n : Nat} (h : x.natAbs ≤ n) : -(n : Int) ≤ x ∧ x ≤ n := by lia
/-- bits of a natural number -/
noncomputable def bits (n : Nat) : Nat := if n = 0 then 0 else n.log2 + 1
theorem intBits_nat (n : Nat) : Builtin.Int.intBits (n : Int) = bits n := by
  unfold Builtin.Int.intBits bits
  by_cases h : n = 0
  · subst h; rfl
  · have : ¬ (((n : Int) == 0) = true) := by rw [beq_iff_eq]; lia
    rw [if_neg this, if_neg h, Int.natAbs_natCast]
theorem intBits_neg (n : Int) : Builtin.Int.intBits (-n) = Builtin.Int.intBits n := by
  unfold Builtin.Int.intBits
  by_cases h : n = 0
  · subst h; rfl
  · have h1 : ¬ ((n == 0) = true) := by rw [beq_iff_eq]; lia
    have h2 : ¬ ((-n == 0) = true) := by rw [beq_iff_eq]; lia
    rw [if_neg h1, if_neg h2, Int.natAbs_neg]
theorem intBits_sign {s : Int} (hs : s = 1 ∨ s = -1) (n : Nat) : Builtin.Int.intBits (s * n) = bits n := by
  rcases hs with rfl | rfl
  · rw [Int.one_mul, intBits_nat]
  · rw [show (-1 : Int) * n = -(n : Int) by lia, intBits_neg, intBits_nat]
theorem bits_lt (n : Nat) : n < 2 ^ bits n := by
  unfold bits
  by_cases h : n = 0
  · subst h; decide
  · rw [if_neg h]; exact (Nat.log2_lt h).mp (Nat.lt_succ_self _)
theorem bits_le {n : Nat} (h : 0 < n) : 2 ^ (bits n - 1) ≤ n := by
  unfold bits
  rw [if_neg (by lia), Nat.add_sub_cancel]
  exact Nat.log2_self_le (by lia)
theorem bits_pos {n : Nat} (h : 0 < n) : 0 < bits n := by unfold bits; rw [if_neg (by lia)]; lia
theorem bits_eq {n k : Nat} (h1 : 2 ^ k ≤ n) (h2 : n < 2 ^ (k + 1)) : bits n = k + 1 := by
  have hp : 0 < n := Nat.lt_of_lt_of_le (Nat.two_pow_pos k) h1
  have a := bits_lt n
  have b := bits_le hp
  have c1 : k < bits n := (Nat.pow_lt_pow_iff_right (by decide : 1 < 2)).mp (Nat.lt_of_le_of_lt h1 a)
  have c2 : bits n - 1 < k + 1 := (Nat.pow_lt_pow_iff_right (by decide : 1 < 2)).mp (Nat.lt_of_le_of_lt b h2)
  lia
theorem bits_le_of {n k : Nat} (h : n < 2 ^ k) : bits n ≤ k := by
  by_cases h0 : n = 0
  · subst h0; exact Nat.zero_le _
  · have b := bits_le (Nat.pos_of_ne_zero h0)
    have c2 : bits n - 1 < k := (Nat.pow_lt_pow_iff_right (by decide : 1 < 2)).mp (Nat.lt_of_le_of_lt b h)
    have := bits_pos (Nat.pos_of_ne_zero h0)
    lia
/-- nearest, halves to even -/
noncomputable def nearN (n g : Nat) : Nat := if n % 2 ^ g > 2 ^ (g - 1) ∨ (n % 2 ^ g = 2 ^ (g - 1) ∧ n / 2 ^ g % 2 = 1) then n / 2 ^ g + 1 else n / 2 ^ g
theorem nearN_at {n g k r : Nat} (h : n = k * 2 ^ g + r) (hr : r < 2 ^ g) : nearN n g = if r > 2 ^ (g - 1) ∨ (r = 2 ^ (g - 1) ∧ k % 2 = 1) then k + 1 else k := by
  have hp := Nat.two_pow_pos g
  have e1 : n / 2 ^ g = k := by rw [h, Nat.add_comm, Nat.add_mul_div_right _ _ hp, Nat.div_eq_of_lt hr, Nat.zero_add]
  have e2 : n % 2 ^ g = r := by rw [h, Nat.add_comm, Nat.add_mul_mod_self_right, Nat.mod_eq_of_lt hr]
  unfold nearN; rw [e1, e2]
/-- twice the quotient, made odd where there is a rest -/
noncomputable def sticky (n d : Nat) : Nat := 2 * (n / d) + (if n % d ≠ 0 then 1 else 0)
theorem sticky_ge {n d t : Nat} (hd : 0 < d) (h : t * d ≤ n) : 2 * t ≤ sticky n d := by
  have : t ≤ n / d := (Nat.le_div_iff_mul_le hd).mpr h
  unfold sticky; lia
theorem sticky_gt {n d t : Nat} (hd : 0 < d) (h : t * d < n) : 2 * t < sticky n d := by
  have h1 : t ≤ n / d := (Nat.le_div_iff_mul_le hd).mpr (Nat.le_of_lt h)
  unfold sticky
  by_cases e : t = n / d
  · have := Nat.div_add_mod n d
    rw [Nat.mul_comm, ← e] at this
    have : n % d ≠ 0 := by lia
    rw [if_pos this]; lia
  · split <;> lia
theorem sticky_le {n d t : Nat} (hd : 0 < d) (h : n ≤ t * d) : sticky n d ≤ 2 * t := by
  unfold sticky
  have h1 := Nat.div_add_mod n d
  have h2 := Nat.mod_lt n hd
  rw [Nat.mul_comm] at h1
  by_cases e : n % d ≠ 0
  · rw [if_pos e]
    have : n / d < t := by
      have : n / d * d < t * d := by lia
      exact Nat.lt_of_mul_lt_mul_right this
    lia
  · rw [if_neg e]
    have : n / d ≤ t := by
      have : n / d * d ≤ t * d := by lia
      exact Nat.le_of_mul_le_mul_right this hd
    lia
theorem sticky_lt {n d t : Nat} (hd : 0 < d) (h : n < t * d) : sticky n d < 2 * t := by
  have : n / d < t := (Nat.div_lt_iff_lt_mul hd).mpr h
  unfold sticky; split <;> lia
/-- between the ends of m's surroundings, in quarters of m's last place -/
noncomputable def lowQ (p m : Nat) : Nat := 4 * m - (if m = 2 ^ (p - 1) then 1 else 2)
noncomputable def Within (p m x y : Nat) : Prop := if m % 2 = 0 then lowQ p m * y ≤ x ∧ x ≤ (4 * m + 2) * y else lowQ p m * y < x ∧ x < (4 * m + 2) * y
/-- a number by its places above and below -/
theorem core_at {j g K r M : Nat} (a : 2 ^ (j + 1) ≤ K) (b : K < 2 ^ (j + 2)) (hM : M = K * 2 ^ g + r) (hr : r < 2 ^ g) :
    bits M = j + 2 + g ∧ nearN M (bits M - (j + 2)) = if r > 2 ^ (g - 1) ∨ (r = 2 ^ (g - 1) ∧ K % 2 = 1) then K + 1 else K := by
  have hb : bits M = (j + 1 + g) + 1 := by
    refine bits_eq ?_ ?_
    · rw [Nat.pow_add, hM]; exact Nat.le_trans (Nat.mul_le_mul_right _ a) (Nat.le_add_right _ _)
    · rw [Nat.add_right_comm (j + 1) g 1, Nat.pow_add, hM]
      exact Nat.lt_of_lt_of_le (Nat.add_lt_add_left hr _) (Nat.le_trans (Nat.le_of_eq (Nat.succ_mul K (2 ^ g)).symm) (Nat.mul_le_mul_right _ b))
  have hb' : bits M = j + 2 + g := hb.trans (Nat.add_right_comm (j + 1) g 1)
  exact ⟨hb', by rw [hb', Nat.add_sub_cancel_left]; exact nearN_at hM hr⟩
/-- the rounding proper -/
theorem round_core {p m q n d : Nat} (hp : 2 ≤ p) (h1 : 2 ^ (p - 1) ≤ m) (h2 : m < 2 ^ p) (hd : 0 < d) (hw : Within p m n (2 ^ q * d)) :
    (nearN (sticky n d) (bits (sticky n d) - p) = m ∧ bits (sticky n d) = p + q + 3) ∨ (nearN (sticky n d) (bits (sticky n d) - p) = 2 * m ∧ bits (sticky n d) = p + q + 2) := by
  have hup : sticky n d ≤ 2 * ((4 * m + 2) * 2 ^ q) ∧ (m % 2 = 1 → sticky n d < 2 * ((4 * m + 2) * 2 ^ q)) := by
    unfold Within at hw
    split at hw
    · rename_i he; exact ⟨sticky_le hd (by rw [Nat.mul_assoc]; exact hw.2), fun e => by rw [e] at he; cases he⟩
    · have := sticky_lt hd (t := (4 * m + 2) * 2 ^ q) (by rw [Nat.mul_assoc]; exact hw.2)
      exact ⟨Nat.le_of_lt this, fun _ => this⟩
  have hlo : 2 * (lowQ p m * 2 ^ q) ≤ sticky n d ∧ (m % 2 = 1 → 2 * (lowQ p m * 2 ^ q) < sticky n d) := by
    unfold Within at hw
    split at hw
    · rename_i he; exact ⟨sticky_ge hd (by rw [Nat.mul_assoc]; exact hw.1), fun e => by rw [e] at he; cases he⟩
    · have := sticky_gt hd (t := lowQ p m * 2 ^ q) (by rw [Nat.mul_assoc]; exact hw.1)
      exact ⟨Nat.le_of_lt this, fun _ => this⟩
  clear hw
  generalize sticky n d = M at *
  obtain ⟨j, rfl⟩ : ∃ j, p = j + 2 := ⟨p - 2, (Nat.sub_add_cancel hp).symm⟩
  rw [show j + 2 - 1 = j + 1 from rfl] at h1
  have hm0 : 1 ≤ m := Nat.le_trans (Nat.two_pow_pos _) h1
  have T1 : 2 ^ (q + 3) = 2 ^ (q + 2) * 2 := Nat.pow_succ ..
  have H1 : 2 ^ (q + 2) = 2 ^ (q + 1) * 2 := Nat.pow_succ ..
  have X1 : 2 ^ (q + 1) = 2 ^ q * 2 := Nat.pow_succ ..
  have up : 2 * ((4 * m + 2) * 2 ^ q) = m * 2 ^ (q + 3) + 2 ^ (q + 2) := by
    rw [T1, H1, X1, Nat.add_mul, Nat.mul_add]
    congr 1
    · rw [show (4 : Nat) = 2 * 2 from rfl]; ac_rfl
    · rw [Nat.mul_comm 2 (2 ^ q), Nat.mul_comm 2]
  rw [up] at hup
  have X0 : 0 < 2 ^ (q + 2) := Nat.two_pow_pos _
  rcases Nat.lt_or_ge M (m * 2 ^ (q + 3)) with hA | hA
  · by_cases hpow : m = 2 ^ (j + 1)
    · -- below a power of two
      right
      have lo : 2 * (lowQ (j + 2) m * 2 ^ q) + 2 ^ (q + 1) = m * 2 ^ (q + 3) := by
        unfold lowQ
        rw [if_pos (show m = 2 ^ (j + 2 - 1) from hpow), T1, H1, X1]
        obtain ⟨i, rfl⟩ : ∃ i, m = i + 1 := ⟨m - 1, (Nat.sub_add_cancel hm0).symm⟩
        rw [show 4 * (i + 1) - 1 = 4 * i + 3 from rfl, Nat.add_mul, Nat.add_mul, Nat.mul_assoc 4 i, show i * (2 ^ q * 2 * 2 * 2) = 8 * (i * 2 ^ q) by rw [show (8 : Nat) = 2 * 2 * 2 from rfl]; ac_rfl]
        generalize i * 2 ^ q = v
        generalize 2 ^ q = u
        clear hup hlo hA h1 h2 hpow
        lia
      obtain ⟨K, hK⟩ : ∃ K, 2 * m = K + 1 := ⟨2 * m - 1, (Nat.sub_add_cancel (Nat.le_trans hm0 (Nat.le_mul_of_pos_left m (by decide)))).symm⟩
      have e8 : m * 2 ^ (q + 3) = K * 2 ^ (q + 2) + 2 ^ (q + 2) := by rw [T1, ← Nat.succ_mul, Nat.succ_eq_add_one, ← hK]; ac_rfl
      have hge : K * 2 ^ (q + 2) ≤ M := by
        have := hlo.1
        generalize lowQ (j + 2) m * 2 ^ q = y at *
        generalize K * 2 ^ (q + 2) = v at *
        generalize m * 2 ^ (q + 3) = z at *
        clear hup hlo h1 h2 hpow hK up hA
        lia
      obtain ⟨r, hr⟩ := Nat.exists_eq_add_of_le hge
      have r1 : r < 2 ^ (q + 2) := by rw [hr, e8] at hA; exact Nat.lt_of_add_lt_add_left hA
      have r2 : 2 ^ (q + 1) ≤ r := by
        have := hlo.1
        generalize lowQ (j + 2) m * 2 ^ q = y at *
        generalize K * 2 ^ (q + 2) = v at *
        generalize m * 2 ^ (q + 3) = z at *
        clear hup hlo h1 h2 hpow hK up hA hge r1
        lia
      have p2 : 2 ^ (j + 2) = K + 1 := by rw [Nat.pow_succ, ← hpow, Nat.mul_comm, hK]
      have a : 2 ^ (j + 1) ≤ K := by rw [← hpow]; clear hup hlo h1 h2 hpow up hA hge r1 r2 e8 hr lo p2; lia
      obtain ⟨c1, c2⟩ := core_at (g := q + 2) a (p2 ▸ Nat.lt_succ_self K) hr r1
      refine ⟨?_, c1⟩
      rw [c2, if_pos, hK]
      rcases Nat.eq_or_lt_of_le r2 with h | h
      · exact .inr ⟨h.symm, by clear hup hlo h1 h2 hpow up hA hge r1 r2 e8 hr lo p2 c1 c2 a h; lia⟩
      · exact .inl h
    · -- below, no power of two
      left
      obtain ⟨i, rfl⟩ : ∃ i, m = i + 1 := ⟨m - 1, (Nat.sub_add_cancel hm0).symm⟩
      have e8 : (i + 1) * 2 ^ (q + 3) = i * 2 ^ (q + 3) + 2 ^ (q + 3) := Nat.succ_mul _ _
      have lo : 2 * (lowQ (j + 2) (i + 1) * 2 ^ q) = i * 2 ^ (q + 3) + 2 ^ (q + 2) := by
        unfold lowQ
        rw [if_neg (show ¬ i + 1 = 2 ^ (j + 2 - 1) from hpow), T1, H1, X1, show 4 * (i + 1) - 2 = 4 * i + 2 from rfl, Nat.add_mul, Nat.mul_assoc 4 i, show i * (2 ^ q * 2 * 2 * 2) = 8 * (i * 2 ^ q) by rw [show (8 : Nat) = 2 * 2 * 2 from rfl]; ac_rfl]
        generalize i * 2 ^ q = v
        generalize 2 ^ q = u
        clear hup hlo hA h1 h2 hpow
        lia
      rw [lo] at hlo
      obtain ⟨r, hr⟩ := Nat.exists_eq_add_of_le (Nat.le_trans (Nat.le_add_right _ _) hlo.1)
      have r1 : r < 2 ^ (q + 3) := by rw [hr, e8] at hA; exact Nat.lt_of_add_lt_add_left hA
      have r2 : 2 ^ (q + 2) ≤ r := by have := hlo.1; rw [hr] at this; exact Nat.le_of_add_le_add_left this
      obtain ⟨c1, c2⟩ := core_at (g := q + 3) (Nat.le_of_lt_succ (Nat.lt_of_le_of_ne h1 (Ne.symm hpow))) (Nat.lt_of_succ_lt h2) hr r1
      refine ⟨?_, c1⟩
      rw [c2, if_pos]
      rcases Nat.eq_or_lt_of_le r2 with h | h
      · refine .inr ⟨h.symm, ?_⟩
        rcases Nat.mod_two_eq_zero_or_one i with g | g
        · have := hlo.2 (by rw [Nat.add_mod, g])
          rw [hr, h] at this
          exact absurd this (Nat.lt_irrefl _)
        · exact g
      · exact .inl h
  · -- at or above m
    left
    obtain ⟨r, hr⟩ := Nat.exists_eq_add_of_le hA
    have r2 : r ≤ 2 ^ (q + 2) := by have := hup.1; rw [hr] at this; exact Nat.le_of_add_le_add_left this
    have r1 : r < 2 ^ (q + 3) := Nat.lt_of_le_of_lt r2 (Nat.pow_lt_pow_right (by decide) (Nat.lt_succ_self _))
    obtain ⟨c1, c2⟩ := core_at (g := q + 3) h1 h2 hr r1
    refine ⟨?_, c1⟩
    rw [c2, if_neg]
    rintro (h | ⟨h, h'⟩)
    · exact absurd h (Nat.not_lt.mpr r2)
    · have := hup.2 h'
      rw [hr, h] at this
      exact absurd this (Nat.lt_irrefl _)
theorem Within.le {p m x y : Nat} (h : Within p m x y) : lowQ p m * y ≤ x ∧ x ≤ (4 * m + 2) * y := by
  unfold Within at h; split at h
  · exact h
  · exact ⟨Nat.le_of_lt h.1, Nat.le_of_lt h.2⟩
theorem Within.scale {p m x y c : Nat} (hc : 0 < c) : Within p m (x * c) (y * c) ↔ Within p m x y := by
  have e : ∀ a b : Nat, a * (b * c) = a * b * c := fun a b => (Nat.mul_assoc a b c).symm
  unfold Within
  rw [e, e]
  split
  · rw [Nat.mul_le_mul_right_iff hc, Nat.mul_le_mul_right_iff hc]
  · rw [Nat.mul_lt_mul_right hc, Nat.mul_lt_mul_right hc]
/-- what rounded reckons -/
noncomputable def shiftOf (p T B : Nat) : Int := (p : Int) + 2 + bits B - bits T
noncomputable def manOf (p T B : Nat) : Nat := sticky (T * 2 ^ (shiftOf p T B).toNat) (B * 2 ^ (-shiftOf p T B).toNat)
/-- a number's two halves: what stands above nought, what below -/
theorem tn0 (s : Int) : (s.toNat : Int) = s + (-s).toNat := by have := Int.toNat_sub_toNat_neg s; lia
theorem tn2 (e : Int) : ((2 - e).toNat : Int) = 2 - e + (e - 2).toNat := by
  have := Int.toNat_sub_toNat_neg (2 - e)
  rw [Int.neg_sub] at this
  lia
theorem round_whole {p m T B : Nat} {e : Int} (hp : 2 ≤ p) (h1 : 2 ^ (p - 1) ≤ m) (h2 : m < 2 ^ p) (hT : 0 < T) (hB : 0 < B) (hw : Within p m (T * 2 ^ (2 - e).toNat) (2 ^ (e - 2).toNat * B)) :
    (nearN (manOf p T B) (bits (manOf p T B) - p) = m ∧ (bits (manOf p T B) : Int) - p - shiftOf p T B - 1 = e ∧ p < bits (manOf p T B)) ∨
    (nearN (manOf p T B) (bits (manOf p T B) - p) = 2 * m ∧ (bits (manOf p T B) : Int) - p - shiftOf p T B - 1 = e - 1 ∧ p < bits (manOf p T B)) := by
  unfold manOf
  have hsh : shiftOf p T B = (p : Int) + 2 + bits B - bits T := rfl
  generalize shiftOf p T B = sh at hsh
  have ts := tn0 sh
  have te := tn2 e
  generalize sh.toNat = a at *
  generalize (-sh).toNat = b at *
  generalize (2 - e).toNat = c at *
  generalize (e - 2).toNat = d at *
  have hd : 0 < B * 2 ^ b := Nat.mul_pos hB (Nat.two_pow_pos _)
  have bT := bits_pos hT
  -- the size of the quotient
  have hge : 2 ^ (p + 1) * (B * 2 ^ b) < T * 2 ^ a := by
    have x1 : B * 2 ^ b < 2 ^ (bits B + b) := by rw [Nat.pow_add]; exact Nat.mul_lt_mul_of_pos_right (bits_lt B) (Nat.two_pow_pos _)
    have x2 : 2 ^ (bits T - 1 + a) ≤ T * 2 ^ a := by rw [Nat.pow_add]; exact Nat.mul_le_mul_right _ (bits_le hT)
    have x3 : bits T - 1 + a = p + 1 + (bits B + b) := by
      clear x1 x2 hw h1 h2 te
      generalize bits T = u at *
      generalize bits B = v at *
      obtain ⟨u', rfl⟩ : ∃ u', u = u' + 1 := ⟨u - 1, (Nat.sub_add_cancel bT).symm⟩
      rw [Nat.add_sub_cancel]
      lia
    rw [x3, Nat.pow_add] at x2
    exact Nat.lt_of_lt_of_le (Nat.mul_lt_mul_of_pos_left x1 (Nat.two_pow_pos _)) x2
  have hww : Within p m (T * 2 ^ a * 2 ^ (c + b)) (2 ^ (d + a) * (B * 2 ^ b)) := by
    have := (Within.scale (c := 2 ^ a * 2 ^ b) (Nat.mul_pos (Nat.two_pow_pos _) (Nat.two_pow_pos _))).mpr hw
    have e1 : T * 2 ^ c * (2 ^ a * 2 ^ b) = T * 2 ^ a * 2 ^ (c + b) := by rw [Nat.pow_add]; ac_rfl
    have e2 : 2 ^ d * B * (2 ^ a * 2 ^ b) = 2 ^ (d + a) * (B * 2 ^ b) := by rw [Nat.pow_add]; ac_rfl
    rw [e1, e2] at this
    exact this
  clear hw bT hT hB
  generalize B * 2 ^ b = D at *
  generalize T * 2 ^ a = N at *
  generalize bits T = u at *
  generalize bits B = v at *
  rcases Int.lt_or_le (e - 2 + sh) 0 with hq | hq
  · exfalso
    obtain ⟨t, ht⟩ : ∃ t : Nat, c + b = (t + 1) + (d + a) := by
      clear hww hge h1 h2 hsh
      obtain ⟨t, ht⟩ := Nat.exists_eq_add_of_lt (show d + a < c + b by lia)
      exact ⟨t, by rw [ht, Nat.add_assoc, Nat.add_comm]⟩
    rw [ht] at hww
    generalize d + a = C at hww
    rw [Nat.pow_add, ← Nat.mul_assoc, Nat.mul_comm (2 ^ C) D] at hww
    have h3 := ((Within.scale (Nat.two_pow_pos _)).mp hww).le.2
    have h4 : N * 2 ≤ N * 2 ^ (t + 1) := Nat.mul_le_mul_left _ (Nat.le_trans (show 2 ≤ 2 ^ 1 by decide) (Nat.pow_le_pow_right (by decide) (Nat.le_add_left 1 t)))
    have h5 : (4 * m + 2) * D = (2 * m + 1) * D * 2 := by rw [Nat.mul_right_comm, show (2 * m + 1) * 2 = 4 * m + 2 by lia]
    have h6 : (2 * m + 1) * D ≤ 2 ^ (p + 1) * D := Nat.mul_le_mul_right _ (by rw [Nat.pow_succ]; lia)
    have h7 : N * 2 ≤ (2 * m + 1) * D * 2 := h5 ▸ Nat.le_trans h4 h3
    exact Nat.lt_irrefl _ (Nat.lt_of_lt_of_le hge (Nat.le_trans (Nat.le_of_mul_le_mul_right h7 (by decide)) h6))
  · -- the quotient's last place lies within m's quarter
    obtain ⟨q, hqe⟩ := Int.eq_ofNat_of_zero_le hq
    have x : d + a = q + (c + b) := by clear hww hge h1 h2 hsh; lia
    rw [x] at hww
    generalize c + b = C at hww
    rw [Nat.pow_add, Nat.mul_assoc, Nat.mul_comm (2 ^ C) D, ← Nat.mul_assoc] at hww
    have := (Within.scale (Nat.two_pow_pos _)).mp hww
    have fin := round_core hp h1 h2 hd this
    clear this hww hge hd h1 h2 x ts te
    generalize bits (sticky N D) = M at *
    rcases fin with ⟨r1, r2⟩ | ⟨r1, r2⟩
    · exact .inl ⟨r1, by clear r1 hsh; lia, by clear r1 hsh hqe hq; lia⟩
    · exact .inr ⟨r1, by clear r1 hsh; lia, by clear r1 hsh hqe hq; lia⟩
end Mine
end
section
-- M2
set_option Elab.async false
set_option linter.all false
namespace Mine
noncomputable def dst (a b : Nat) : Nat := a - b + (b - a)
noncomputable def Inn (cl : Bool) (lo hi y : Nat) : Prop := if cl then lo ≤ y ∧ y ≤ hi else lo < y ∧ y < hi
theorem Inn.mid {cl : Bool} {lo hi a b y : Nat} (h1 : Inn cl lo hi a) (h2 : Inn cl lo hi b) (h3 : a ≤ y) (h4 : y ≤ b) : Inn cl lo hi y := by
  unfold Inn at *
  cases cl
  · simp only [Bool.false_eq_true, if_false] at *; lia
  · simp only [if_true] at *; lia
/-- the nearest multiple, halves to even -/
noncomputable def nearQ (X U : Nat) : Nat := if 2 * (X % U) > U ∨ (2 * (X % U) = U ∧ X / U % 2 = 1) then X / U + 1 else X / U
/-- of the multiples that serve, f is the nearest, an even one where two are as near -/
noncomputable def Best (ok : Nat → Prop) (X U f : Nat) : Prop := ok f ∧ ∀ n, ok n → n ≠ f → dst (f * U) X < dst (n * U) X ∨ (dst (f * U) X = dst (n * U) X ∧ f % 2 = 0)
theorem mul_gap {a b U : Nat} (h : a < b) : a * U + U ≤ b * U := by
  have := Nat.mul_le_mul_right U (show a + 1 ≤ b from h)
  rwa [Nat.add_mul, Nat.one_mul] at this
theorem dst_spec (a b : Nat) : (a ≤ b ∧ dst a b + a = b) ∨ (b ≤ a ∧ dst a b + b = a) := by
  unfold dst
  rcases Nat.le_total a b with h | h
  · exact .inl ⟨h, by rw [Nat.sub_eq_zero_of_le h, Nat.zero_add, Nat.sub_add_cancel h]⟩
  · exact .inr ⟨h, by rw [Nat.sub_eq_zero_of_le h, Nat.add_zero, Nat.sub_add_cancel h]⟩
theorem dst_left {x y X : Nat} (h : x < y) (h' : 2 * X < x + y) : dst x X < dst y X := by
  have a := dst_spec x X
  have b := dst_spec y X
  lia
theorem dst_right {x y X : Nat} (h : x < y) (h' : x + y < 2 * X) : dst y X < dst x X := by
  have a := dst_spec x X
  have b := dst_spec y X
  lia
theorem dst_same {x y X : Nat} (h' : x + y = 2 * X) : dst x X = dst y X := by
  have a := dst_spec x X
  have b := dst_spec y X
  lia
theorem nearQ_spec {X U : Nat} (hU : 0 < U) : 2 * X ≤ 2 * (nearQ X U * U) + U ∧ 2 * (nearQ X U * U) ≤ 2 * X + U ∧ (2 * X = 2 * (nearQ X U * U) + U ∨ 2 * (nearQ X U * U) = 2 * X + U → nearQ X U % 2 = 0) := by
  have hX := Nat.div_add_mod X U
  have hr := Nat.mod_lt X hU
  rw [Nat.mul_comm] at hX
  unfold nearQ
  generalize X / U = q at *
  generalize X % U = r at *
  split
  · rename_i h
    rw [Nat.add_mul, Nat.one_mul]
    generalize q * U = v at *
    exact ⟨by lia, by lia, fun _ => by lia⟩
  · rename_i h
    generalize q * U = v at *
    exact ⟨by lia, by lia, fun _ => by lia⟩
theorem best_clamp {ok : Nat → Prop} {X U L G : Nat} (hU : 0 < U) (hLG : L ≤ G) (hok : ∀ n, ok n ↔ L ≤ n ∧ n ≤ G) : Best ok X U (min (max (nearQ X U) L) G) := by
  obtain ⟨k1, k2, k3⟩ := nearQ_spec (X := X) hU
  generalize nearQ X U = k at *
  rcases Nat.lt_or_ge k L with hkL | hkL
  · rw [Nat.max_eq_right (Nat.le_of_lt hkL), Nat.min_eq_left hLG]
    refine ⟨(hok _).mpr ⟨Nat.le_refl _, hLG⟩, fun n hn1 hne => .inl ?_⟩
    have g1 := mul_gap (U := U) (Nat.lt_of_le_of_ne ((hok n).mp hn1).1 (Ne.symm hne))
    have g2 := mul_gap (U := U) hkL
    clear hok hn1 hne k3 k2 hkL hLG
    generalize L * U = x at *
    generalize n * U = y at *
    generalize k * U = v at *
    exact dst_left (by lia) (by lia)
  · rw [Nat.max_eq_left hkL]
    rcases Nat.lt_or_ge G k with hkG | hkG
    · rw [Nat.min_eq_right (Nat.le_of_lt hkG)]
      refine ⟨(hok _).mpr ⟨hLG, Nat.le_refl _⟩, fun n hn1 hne => .inl ?_⟩
      have g1 := mul_gap (U := U) (Nat.lt_of_le_of_ne ((hok n).mp hn1).2 hne)
      have g2 := mul_gap (U := U) hkG
      clear hok hn1 hne k3 k1 hkL hLG hkG
      generalize G * U = x at *
      generalize n * U = y at *
      generalize k * U = v at *
      exact dst_right (by lia) (by lia)
    · rw [Nat.min_eq_left hkG]
      refine ⟨(hok _).mpr ⟨hkL, hkG⟩, fun n hn1 hne => ?_⟩
      clear hok hn1 hkL hkG hLG
      rcases Nat.lt_or_gt_of_ne hne with h | h
      · have g1 := mul_gap (U := U) h
        clear h hne
        generalize n * U = y at *
        generalize k * U = v at *
        rcases Nat.lt_or_ge (y + v) (2 * X) with h | h
        · exact .inl (dst_right (by lia) h)
        · have e : 2 * v = 2 * X + U := by lia
          exact .inr ⟨dst_same (by lia), k3 (.inr e)⟩
      · have g1 := mul_gap (U := U) h
        clear h hne
        generalize n * U = y at *
        generalize k * U = v at *
        rcases Nat.lt_or_ge (2 * X) (v + y) with h | h
        · exact .inl (dst_left (by lia) h)
        · have e : 2 * X = 2 * v + U := by lia
          exact .inr ⟨dst_same (by lia), k3 (.inl e)⟩
/-- n, of the unit U, may stand: of no other is less asked -/
structure Good (cl : Bool) (lo hi X U n : Nat) : Prop where
  pos : 1 ≤ n
  ten : n % 10 ≠ 0
  inn : Inn cl lo hi (n * U)
  short : 10 ≤ n → ∀ k, 1 ≤ k → ¬ Inn cl lo hi (k * (10 * U))
  next : 10 ≤ n → ∀ k, k + 1 = n ∨ k = n + 1 → Inn cl lo hi (k * U) → dst (n * U) X < dst (k * U) X ∨ (dst (n * U) X = dst (k * U) X ∧ (n % 2 = 0 ∨ k % 2 = 1))
  same : n ≤ 9 → ∀ k, 1 ≤ k → k ≤ 9 → k ≠ n → Inn cl lo hi (k * U) → dst (n * U) X < dst (k * U) X ∨ (dst (n * U) X = dst (k * U) X ∧ (n % 2 = 0 ∨ k % 2 = 1))
  over : n ≤ 9 → ∀ k, 1 ≤ k → k ≤ 9 → Inn cl lo hi (k * (10 * U)) → dst (n * U) X < dst (k * (10 * U)) X ∨ (dst (n * U) X = dst (k * (10 * U)) X ∧ (n % 2 = 0 ∨ k % 2 = 1))
  under : n ≤ 9 → ∀ k V, U = 10 * V → 1 ≤ k → k ≤ 9 → ¬ Inn cl lo hi (k * V) ∨ dst (n * U) X < dst (k * V) X ∨ (dst (n * U) X = dst (k * V) X ∧ (n % 2 = 0 ∨ k % 2 = 1))
variable {cl : Bool} {lo hi X U f : Nat}
theorem no_ten (h1 : ∀ k, 1 ≤ k → ¬ Inn cl lo hi (k * (10 * U))) (hf : Inn cl lo hi (f * U)) (hf1 : 1 ≤ f) : f % 10 ≠ 0 := fun e => by
  obtain ⟨k, rfl⟩ : ∃ k, f = k * 10 := ⟨f / 10, by lia⟩
  exact h1 k (by lia) (by rw [← Nat.mul_assoc]; exact hf)
/-- found alone, the lower ones not asked: no one of U serves -/
theorem good_high (h1 : ∀ k, 1 ≤ k → ¬ Inn cl lo hi (k * (10 * U))) (hb : Best (fun n => Inn cl lo hi (n * U)) X U f) (hf : 1 ≤ f) (hn : ¬ Inn cl lo hi (1 * U)) : Good cl lo hi X U f where
  pos := hf
  ten := no_ten h1 hb.1 hf
  inn := hb.1
  short := fun _ => h1
  next := fun _ k hk hi' => by rcases hb.2 k hi' (by lia) with h | ⟨h, h'⟩; exact .inl h; exact .inr ⟨h, .inl h'⟩
  same := fun _ k _ _ hk hi' => by rcases hb.2 k hi' hk with h | ⟨h, h'⟩; exact .inl h; exact .inr ⟨h, .inl h'⟩
  over := fun _ k hk _ hi' => absurd hi' (h1 k hk)
  under := fun _ k V hV hk hk9 => by
    left
    intro hi'
    refine hn (hi'.mid hb.1 ?_ (Nat.mul_le_mul_right U hf))
    rw [Nat.one_mul, hV]; exact Nat.mul_le_mul_right V (by lia)
/-- found, and the lower ones asked: none is better -/
theorem good_found {V : Nat} (hV : U = 10 * V) (h1 : ∀ k, 1 ≤ k → ¬ Inn cl lo hi (k * (10 * U))) (hb : Best (fun n => Inn cl lo hi (n * U)) X U f) (hf : 1 ≤ f) (hone : Inn cl lo hi (1 * U))
    (hlow : (∀ k, 1 ≤ k → k ≤ 9 → ¬ Inn cl lo hi (k * V)) ∨ ∃ g, Best (fun n => Inn cl lo hi (n * V) ∧ n ≤ 9) X V g ∧ ¬ (dst (g * V) X < dst (f * U) X ∨ (dst (g * V) X = dst (f * U) X ∧ f % 2 = 1 ∧ g % 2 = 0))) : Good cl lo hi X U f where
  pos := hf
  ten := no_ten h1 hb.1 hf
  inn := hb.1
  short := fun _ => h1
  next := fun _ k hk hi' => by rcases hb.2 k hi' (by lia) with h | ⟨h, h'⟩; exact .inl h; exact .inr ⟨h, .inl h'⟩
  same := fun _ k _ _ hk hi' => by rcases hb.2 k hi' hk with h | ⟨h, h'⟩; exact .inl h; exact .inr ⟨h, .inl h'⟩
  over := fun _ k hk _ hi' => absurd hi' (h1 k hk)
  under := fun _ k W hW hk hk9 => by
    have e : W = V := by lia
    subst e
    rcases hlow with h | ⟨g, hg, hno⟩
    · exact .inl (h k hk hk9)
    · by_cases hi' : Inn cl lo hi (k * W)
      · right
        by_cases e : k = g
        · subst e; lia
        · rcases hg.2 k ⟨hi', hk9⟩ e with h | ⟨h, h'⟩ <;> lia
      · exact .inl hi'
/-- one of the lower ones -/
theorem good_lower {V g : Nat} (hV : U = 10 * V) (hrat : 7 * hi ≤ 10 * lo) (hlo : 0 < lo) (hb : Best (fun n => Inn cl lo hi (n * U)) X U f) (hone : Inn cl lo hi (1 * U)) (hg : Best (fun n => Inn cl lo hi (n * V) ∧ n ≤ 9) X V g)
    (hyes : dst (g * V) X < dst (f * U) X ∨ (dst (g * V) X = dst (f * U) X ∧ f % 2 = 1 ∧ g % 2 = 0)) : Good cl lo hi X V g := by
  have hlow : ∀ {y}, Inn cl lo hi y → lo ≤ y := fun {y} h => by unfold Inn at h; split at h <;> lia
  have hup : U ≤ hi := by have := hone; unfold Inn at this; rw [Nat.one_mul] at this; split at this <;> lia
  have hg1 : 1 ≤ g := by
    rcases Nat.eq_zero_or_pos g with h | h
    · have := hlow hg.1.1; rw [h, Nat.zero_mul] at this; lia
    · exact h
  have hg9 : g ≤ 9 := hg.1.2
  exact {
    pos := hg1
    ten := by lia
    inn := hg.1.1
    short := fun h => by lia
    next := fun h => by lia
    same := fun _ k _ hk9 hk hi' => by rcases hg.2 k ⟨hi', hk9⟩ hk with h | ⟨h, h'⟩; exact .inl h; exact .inr ⟨h, .inl h'⟩
    over := fun _ k hk hk9 hi' => by
      rw [← hV] at hi' ⊢
      by_cases e : k = f
      · subst e; lia
      · rcases hb.2 k hi' e with h | ⟨h, h'⟩ <;> lia
    under := fun _ k W hW hk hk9 => by
      left
      intro hi'
      have h1 := hlow hi'
      have h2 : k * W ≤ 9 * W := Nat.mul_le_mul_right W hk9
      lia }
end Mine
end
section
-- T1
open PySem PySem.W PyProof.Rows PySem.StrLaws
set_option Elab.async false
set_option linter.all false
set_option maxRecDepth 100000
namespace Mine
/-- a text by its signs -/
noncomputable def S (l : List Nat) : Str := ⟨l.toArray⟩
theorem S_list (l : List Nat) : (S l).cps.toList = l := rfl
theorem S_of (x : Str) : S x.cps.toList = x := by cases x; simp [S]
theorem S_len (l : List Nat) : (S l).length = l.length := by simp [S, Str.length]
theorem S_cat (a b : List Nat) : S a ++ S b = S (a ++ b) := Str.ext' (by show a.toArray ++ b.toArray = (a ++ b).toArray; simp)
theorem S_inj {a b : List Nat} : S a = S b ↔ a = b := ⟨fun h => by have := congrArg (fun x : Str => x.cps.toList) h; simpa [S] using this, fun h => h ▸ rfl⟩
theorem sub_S (l : List Nat) (i j : Nat) : Builtin.Str.strSub (S l) i j = S ((l.drop i).take (j - i)) := by
  rw [← S_of (Builtin.Str.strSub (S l) i j), strSub_toList, S_list]
theorem join_S (c : Nat) (l : List (List Nat)) : (Str.join (S []) (l.map S)) = S l.flatten := by
  induction l with
  | nil => rfl
  | cons a l ih =>
    cases l with
    | nil => simp [Str.join]
    | cons b l =>
      show S a ++ S [] ++ Str.join (S []) ((b :: l).map S) = _
      rw [ih, S_cat, S_cat]; simp
theorem txtJoin_S (l : List (List Nat)) : Txt.join (S []) (l.map S) = S l.flatten := by
  unfold Txt.join; rw [glued_eq_join]; exact join_S 0 l
/-- one sign sought -/
theorem has1 (l : List Nat) (c : Nat) : (!(Builtin.Str.occurrences (S l) (S [c]) 0 (S l).length 1).isEmpty) = decide (c ∈ l) := found_one (S l) c
/-- the places where a sign stands: none, one -/
theorem split_none {l : List Nat} {c : Nat} (h : c ∉ l) : Txt.split (S l) (S [c]) = [S l] := by
  have hl := split_len (S l) c
  have hj := join_split (S l) (S [c])
  have hc : cnt c (S l).cps.toList = 0 := cnt_none c _ (by rw [S_list]; exact h)
  rw [hc] at hl
  have hl' : (Txt.split (S l) (S [c])).length = 1 := by exact_mod_cast hl
  obtain ⟨p, hp⟩ := List.length_eq_one_iff.mp hl'
  rw [hp] at hj ⊢
  rw [show Str.join (S [c]) [p] = p from rfl] at hj
  rw [hj]
theorem cnt_app (c : Nat) : ∀ a b : List Nat, cnt c (a ++ b) = cnt c a + cnt c b
  | [], b => by rw [List.nil_append, cnt_nil]; lia
  | x :: a, b => by rw [List.cons_append, cnt_cons, cnt_cons, cnt_app c a b]; lia
theorem first_cut {c : Nat} : ∀ {a b p q : List Nat}, c ∉ a → c ∉ p → a ++ c :: b = p ++ c :: q → a = p ∧ b = q
  | [], b, [], q, _, _, h => by simpa using h
  | [], b, y :: p, q, _, hp, h => by simp at h; exact absurd (by rw [← h.1]; exact .head _) hp
  | x :: a, b, [], q, ha, _, h => by simp at h; exact absurd (by rw [h.1]; exact .head _) ha
  | x :: a, b, y :: p, q, ha, hp, h => by
    simp only [List.cons_append, List.cons.injEq] at h
    obtain ⟨rfl, h⟩ := h
    obtain ⟨rfl, rfl⟩ := first_cut (fun z => ha (.tail _ z)) (fun z => hp (.tail _ z)) h
    exact ⟨rfl, rfl⟩
theorem split_one {a b : List Nat} {c : Nat} (ha : c ∉ a) (hb : c ∉ b) : Txt.split (S (a ++ c :: b)) (S [c]) = [S a, S b] := by
  have hl := split_len (S (a ++ c :: b)) c
  have hj := join_split (S (a ++ c :: b)) (S [c])
  have hf := split_free (S (a ++ c :: b)) c
  have hc : cnt c (S (a ++ c :: b)).cps.toList = 1 := by rw [S_list, cnt_app, cnt_cons, cnt_none c a ha, cnt_none c b hb, if_pos rfl]; rfl
  rw [hc] at hl
  have hl' : (Txt.split (S (a ++ c :: b)) (S [c])).length = 2 := by exact_mod_cast hl
  have hf' : ∀ p ∈ Txt.split (S (a ++ c :: b)) (S [c]), c ∉ p.cps.toList := hf
  match hp : Txt.split (S (a ++ c :: b)) (S [c]), hl' with
  | [p, q], _ =>
    rw [hp] at hj hf'
    have e : Str.join (S [c]) [p, q] = p ++ S [c] ++ q := rfl
    rw [e, ← S_of p, ← S_of q, S_cat, S_cat, S_inj] at hj
    have hj' : p.cps.toList ++ c :: q.cps.toList = a ++ c :: b := by simpa using hj
    obtain ⟨h1, h2⟩ := first_cut (hf' p (.head _)) ha hj'
    rw [← h1, ← h2, S_of, S_of]
/-- slices within the text -/
theorem slice_to (l : List Nat) (j : Nat) (h : j ≤ l.length) : Txt.slice (S l) none (some (j : Int)) = S (l.take j) := by
  refine (sliceText_to (x := S l) (j := j) ⟨by lia, by rw [S_list]; lia⟩).trans ?_
  rw [S_list, List.drop_zero]
  show S _ = S _
  rw [show ((j : Int) - 0).toNat = j by lia]
theorem slice_from (l : List Nat) (j : Nat) (h : j ≤ l.length) : Txt.slice (S l) (some (j : Int)) none = S (l.drop j) := by
  refine (sliceText_from (x := S l) (i := j) ⟨by lia, by rw [S_list]; lia⟩).trans ?_
  rw [S_list, List.take_of_length_le (by simp)]
  rfl
theorem slice_mid (l : List Nat) (i j : Nat) (h : i ≤ j) (h' : j ≤ l.length) : Txt.slice (S l) (some (i : Int)) (some (j : Int)) = S ((l.drop i).take (j - i)) :=
  sliceText_nat (S l) h (by rw [S_len]; exact h')
/-- signs struck from the end -/
theorem takeWhile_rep (c k : Nat) (g : Nat → Bool) (hg : g c = true) (l : List Nat) (h : l = [] ∨ g (l.headD 0) = false) : ((List.replicate k c ++ l).takeWhile g).length = k := by
  induction k with
  | zero =>
    rw [List.replicate_zero, List.nil_append]
    cases l with
    | nil => rfl
    | cons a l => rcases h with h | h; cases h; simp only [List.headD_cons] at h; simp [List.takeWhile_cons, h]
  | succ k ih => rw [List.replicate_succ, List.cons_append, List.takeWhile_cons, if_pos hg, List.length_cons, ih]
theorem rstrip_S (a : List Nat) (c k : Nat) (h : a = [] ∨ a.getLastD 0 ≠ c) : Txt.rstripChars (S (a ++ List.replicate k c)) (S [c]) = S a := by
  unfold Txt.rstripChars
  rw [PyProof.Rows.stripBy_eq, sub_S]
  have h0 : stripLo ((S [c]).cps.contains) false (S (a ++ List.replicate k c)) = 0 := rfl
  have h1 : stripHi ((S [c]).cps.contains) true (S (a ++ List.replicate k c)) 0 = a.length := by
    simp only [stripHi, if_true]
    rw [S_list, S_len, List.drop_zero, List.reverse_append, List.reverse_replicate, takeWhile_rep c k _ (by simp [S])]
    · simp
    · rcases h with h | h
      · left; rw [h]; rfl
      · by_cases ha : a = []
        · left; rw [ha]; rfl
        · right
          have : a.reverse.headD 0 = a.getLastD 0 := by
            rw [List.headD_eq_head?_getD, List.head?_reverse, List.getLastD_eq_getLast?]
          rw [this]
          have h' : (a.getLastD 0 == c) = false := by simpa using h
          show (([c] : List Nat).toArray.contains (a.getLastD 0)) = false
          rw [List.contains_toArray, List.contains_cons, h']; rfl
  rw [h0, h1, List.drop_zero, Nat.sub_zero, List.take_left]
theorem strip_all (l : List Nat) (y : Str) (h : ∀ c ∈ l, c ∈ y.cps.toList) : Txt.stripChars (S l) y = S [] := by
  unfold Txt.stripChars
  rw [PyProof.Rows.stripBy_eq, sub_S]
  have h0 : stripLo (y.cps.contains) true (S l) = l.length := by
    simp only [stripLo, if_true]
    rw [S_list]
    have : ∀ m : List Nat, (∀ c ∈ m, c ∈ y.cps.toList) → (m.takeWhile y.cps.contains).length = m.length := by
      intro m
      induction m with
      | nil => intro _; rfl
      | cons b m ih =>
        intro hm
        have hb : y.cps.contains b = true := by have := hm b (.head _); simpa using this
        rw [List.takeWhile_cons, if_pos hb, List.length_cons, List.length_cons, ih fun c hc => hm c (.tail _ hc)]
    exact this l h
  rw [h0, List.drop_length]; simp
theorem lower_S (l : List Nat) (h : ∀ c ∈ l, c < 128 ∧ ¬ (65 ≤ c ∧ c ≤ 90)) : Txt.lower (S l) = S l := by
  rw [lower_ascii (x := S l) (fun c hc => (h c hc).1)]
  apply Str.ext'
  show l.toArray.map lo1 = l.toArray
  rw [List.map_toArray]
  congr 1
  have : l.map lo1 = l.map id := List.map_congr_left fun c hc => by unfold lo1; rw [if_neg (h c hc).2]; rfl
  rw [this, List.map_id]
theorem mul_S (c : Nat) (n : Int) : Txt.mul (S [c]) n = S (List.replicate n.toNat c) := by
  have key : ∀ (k : Nat) (acc : List Nat), (List.replicate k (S [c]).cps).foldl (· ++ ·) acc.toArray = (acc ++ List.replicate k c).toArray := by
    intro k
    induction k with
    | zero => intro acc; simp
    | succ k ih =>
      intro acc
      rw [List.replicate_succ, List.foldl_cons]
      have : acc.toArray ++ (S [c]).cps = (acc ++ [c]).toArray := by simp [S]
      rw [this, ih, List.replicate_succ]; simp
  unfold Txt.mul
  by_cases h : n < 1
  · rw [if_pos h, show n.toNat = 0 by lia]; rfl
  · rw [if_neg h]
    by_cases h1 : (n == 1 || (S [c]).length == 0) = true
    · rw [if_pos h1]
      have : n = 1 := by simpa [S_len] using h1
      subst this; rfl
    · rw [if_neg h1]
      have := key n.toNat []
      apply Str.ext'
      simpa [S] using this
end Mine
end
section
-- W0
open PySem PySem.W PyProof.Rows
set_option Elab.async false
set_option linter.all false
set_option maxRecDepth 100000
namespace Mine
noncomputable def st (i : Nat) : Stmt := (PySem.Challenge.pw_nt0183_01.main.body[i]?).getD default
/-- a class's j-th statement -/
noncomputable def meth (i j : Nat) : Stmt := match st i with
  | .ClassDef _ _ _ b _ _ _ _ _ _ _ => (b[j]?).getD default
  | _ => default
noncomputable def argsOf : Stmt → List Arg
  | .FunctionDef _ a _ _ _ _ _ _ _ _ => a.args
  | _ => []
noncomputable def bodyOf : Stmt → List Stmt
  | .FunctionDef _ _ b _ _ _ _ _ _ _ => b
  | _ => []
noncomputable def scopeOf : Stmt → Scope
  | .FunctionDef _ _ _ _ _ _ sc _ _ _ => sc
  | _ => default
noncomputable def isPlain (s : Stmt) : Bool := match s with
  | .FunctionDef .. => stOk (argsOf s) (scopeOf s)
  | _ => true
theorem oks : (List.range 70).all (fun i => isPlain (st i)) = true := by decide +kernel
theorem okms : ([1, 2, 5, 21, 35, 46].all fun i => (List.range 6).all fun j => isPlain (meth i j)) = true := by decide +kernel
theorem okSt (i : Nat) (h : i < 70) : isPlain (st i) = true := List.all_eq_true.mp oks i (List.mem_range.mpr h)
theorem okMe (i j : Nat) (h : i ∈ [1, 2, 5, 21, 35, 46]) (h' : j < 6) : isPlain (meth i j) = true := List.all_eq_true.mp (List.all_eq_true.mp okms i h) j (List.mem_range.mpr h')
noncomputable abbrev FnSt (c : Cx) (f : Addr) (s : Stmt) (dd : List D) : Prop := FnAt c f (argsOf s) (scopeOf s) (bodyOf s) dd
/-- a def of the top's -/
structure FnG (c : Cx) (x : String) (f : Addr) (s : Stmt) (dd : List D) : Prop where
  name : c.mg (Str.ofString x) = some (.ref f)
  keep : keepIn c.K (.ref f) = true
  fn : FnSt c f s dd
/-- a class of the top's -/
structure ClsG (c : Cx) (x : String) (C fI : Addr) : Prop where
  name : c.mg (Str.ofString x) = some (.ref C)
  keep : keepIn c.K (.ref C) = true
  cls : ClsOk c C fI
  hd : hasDictIn c.K C = true
  ga : findIn c.K (.ref C) "__getattribute__" = some (some (.builtin "object.__getattribute__"))
  gt : findIn c.K (.ref C) "__getattr__" = some none
  sa : findIn c.K (.ref C) "__setattr__" = some (some (.builtin "object.__setattr__"))
  pl : plainOver c.K C = true
  hd2 : (clsIn c.K C).any (·.hasDict) = true
/-- the class has no such name -/
noncomputable def NoAttr (c : Cx) (C : Addr) (x : Str) : Prop := findIn c.K (.ref C) x = some none
/-- a method of the class -/
structure MeG (c : Cx) (C : Addr) (x : String) (f : Addr) (s : Stmt) : Prop where
  at_ : findIn c.K (.ref C) (Str.ofString x) = some (some (.ref f))
  ty : typeIn c.K (.ref f) = some (.type "function")
  keep : keepIn c.K (.ref f) = true
  fn : FnSt c f s []
section
variable {c : Cx} {k : Nat} {f : Addr} {t : Stmt} {nm bd : Str} {as po ko : List Arg} {va kw : Option Arg} {kd : List (Option Expr)} {df dl : List Expr} {b : List Stmt} {ret : Option Expr} {tp : List TypeParam} {nl : NL} {sk : ScopeKind} {g1 g2 : Bool} {mo : List (Str × Const)} {ts : Option Scope} {ps : Pos} {ds dd : List D} {d : D} {ρ : Names} {μ μ' : Mu} {o : Out}
theorem FN.of (F : FnSt c f t dd) (ok : isPlain t = true) (h : t = .FunctionDef nm ⟨po, as, va, ko, kd, kw, df⟩ b dl ret tp ⟨sk, nl, g1, g2, mo⟩ ts bd ps) (he : initEnv nl (ds ++ dd) = ρ) (hl : ds.length + dd.length = as.length) (g : EX c k nl ρ .no b [] (.ret d .no)) : FN c (k + 1) (.ref f) ds d := by
  subst h; subst he; exact FN.intro F ok hl g
theorem FNM.of (F : FnSt c f t dd) (ok : isPlain t = true) (h : t = .FunctionDef nm ⟨po, as, va, ko, kd, kw, df⟩ b dl ret tp ⟨sk, nl, g1, g2, mo⟩ ts bd ps) (he : initEnv nl (ds ++ dd) = ρ) (hl : ds.length + dd.length = as.length) (ho : Ends o d μ') (g : EX c k nl ρ μ b [] o) : FNM c (k + 1) (.ref f) μ ds d μ' := by
  subst h; subst he; exact FNM.intro F ok hl g ho
theorem FNM.ofI (F : FnSt c f t dd) (ok : isPlain t = true) (h : t = .FunctionDef nm ⟨po, as, va, ko, kd, kw, df⟩ b dl ret tp ⟨sk, nl, g1, g2, mo⟩ ts bd ps) (he : initEnv nl (ds ++ dd) = ρ) (hl : ds.length + dd.length = as.length) (g : EX c k nl ρ μ b [] (.next ρ μ')) : FNM c (k + 1) (.ref f) μ ds .none μ' :=
  FNM.of F ok h he hl (.inr ⟨rfl, _, rfl⟩) g
theorem AttrOk.of {x : String} {y : Str} {C fI : Addr} (G : ClsG c x C fI) (h : NoAttr c C y) : AttrOk c C y := ⟨G.ga, G.hd, none, h, rfl⟩
theorem SetOk.of {x : String} {y : Str} {C fI : Addr} (G : ClsG c x C fI) (h : NoAttr c C y) : SetOk c C y := ⟨G.sa, G.pl, by unfold takerIn; rw [h]; rfl, G.hd2⟩
theorem MethOk.of {x y : String} {C fI f : Addr} {s : Stmt} (G : ClsG c x C fI) (m : MeG c C y f s) : MethOk c C (Str.ofString y) f := ⟨G.ga, G.gt, m.at_, m.ty, m.keep⟩
end
noncomputable def radD : List (Str × PyData) := [(Str.ofString "b", .int 2), (Str.ofString "o", .int 8), (Str.ofString "d", .int 10), (Str.ofString "x", .int 16)]
structure Facts (c : Cx) : Prop where
  Real : ClsG c "Real" 70 67
  Real_i : FnSt c 67 (meth 5 0) []
  Real_mantissa : NoAttr c 70 (Str.ofString "mantissa")
  Real_exponent : NoAttr c 70 (Str.ofString "exponent")
  Ratio : ClsG c "Ratio" 189 186
  Ratio_i : FnSt c 186 (meth 21 0) []
  Ratio_top : NoAttr c 189 (Str.ofString "top")
  Ratio_bottom : NoAttr c 189 (Str.ofString "bottom")
  Surroundings : ClsG c "Surroundings" 288 250
  Surroundings_i : FnSt c 250 (meth 35 0) []
  Surroundings_here : NoAttr c 288 (Str.ofString "here")
  Surroundings_low : NoAttr c 288 (Str.ofString "low")
  Surroundings_high : NoAttr c 288 (Str.ofString "high")
  Surroundings_has_ends : NoAttr c 288 (Str.ofString "has_ends")
  Surroundings_top : NoAttr c 288 (Str.ofString "top")
  Surroundings_bottom : NoAttr c 288 (Str.ofString "bottom")
  Reading : ClsG c "Reading" 378 375
  Reading_i : FnSt c 375 (meth 46 0) []
  Reading_top : NoAttr c 378 (Str.ofString "top")
  Reading_bottom : NoAttr c 378 (Str.ofString "bottom")
  Reading_is_exact : NoAttr c 378 (Str.ofString "is_exact")
  is_real : FnG c "is_real" 81 (st 6) []
  size_of : FnG c "size_of" 88 (st 7) []
  sign_of_whole : FnG c "sign_of_whole" 95 (st 8) []
  zeros_below : FnG c "zeros_below" 102 (st 9) []
  lean : FnG c "lean" 109 (st 10) []
  nearest_shift : FnG c "nearest_shift" 116 (st 11) []
  shifted_round : FnG c "shifted_round" 123 (st 12) []
  with_sticky : FnG c "with_sticky" 130 (st 13) []
  rounded : FnG c "rounded" 137 (st 14) []
  exact_parts : FnG c "exact_parts" 144 (st 15) []
  place_of : FnG c "place_of" 151 (st 16) []
  sign_of : FnG c "sign_of" 158 (st 17) []
  magnitude : FnG c "magnitude" 165 (st 18) []
  full_mantissa : FnG c "full_mantissa" 172 (st 19) []
  gcd_of : FnG c "gcd_of" 200 (st 22) []
  made : FnG c "made" 207 (st 23) []
  ratio_of : FnG c "ratio_of" 214 (st 24) []
  figures_of : FnG c "figures_of" 222 (st 32) []
  whole_text : FnG c "whole_text" 229 (st 33) []
  exact_text : FnG c "exact_text" 236 (st 34) []
  Surroundings_over_power : MeG c 288 "over_power" 257 (meth 35 1)
  Surroundings_least_multiple : MeG c 288 "least_multiple" 264 (meth 35 2)
  Surroundings_greatest_multiple : MeG c 288 "greatest_multiple" 271 (meth 35 3)
  Surroundings_gap : MeG c 288 "gap" 278 (meth 35 4)
  Surroundings_nearest_multiple : MeG c 288 "nearest_multiple" 285 (meth 35 5)
  with_lower_ones : FnG c "with_lower_ones" 299 (st 36) []
  tens_above : FnG c "tens_above" 306 (st 37) []
  shortest_figures : FnG c "shortest_figures" 313 (st 38) []
  without_noughts : FnG c "without_noughts" 320 (st 39) []
  laid_out : FnG c "laid_out" 327 (st 40) []
  decimal_text : FnG c "decimal_text" 334 (st 41) []
  number_text : FnG c "number_text" 342 (st 42) []
  number_text_d : FnSt c 342 (st 42) [.int 10]
  worth_of : FnG c "worth_of" 349 (st 43) []
  are_figures : FnG c "are_figures" 354 (st 44) []
  parted : FnG c "parted" 361 (st 45) []
  read_whole : FnG c "read_whole" 389 (st 47) []
  read_ratio : FnG c "read_ratio" 396 (st 48) []
  are_decimal_parts : FnG c "are_decimal_parts" 403 (st 49) []
  read_exponent : FnG c "read_exponent" 410 (st 50) []
  mark_place : FnG c "mark_place" 415 (st 51) []
  read_mantissa : FnG c "read_mantissa" 422 (st 52) []
  read_decimal : FnG c "read_decimal" 429 (st 53) []
  read_unsigned : FnG c "read_unsigned" 436 (st 54) []
  split_prefixes : FnG c "split_prefixes" 443 (st 55) []
  finished : FnG c "finished" 450 (st 56) []
  parse_number : FnG c "parse_number" 458 (st 57) []
  law_draw : FnG c "_law_draw" 465 (st 59) []
  law_pick : FnG c "_law_pick" 472 (st 60) []
  law_deck : FnG c "_law_deck" 477 (st 61) []
  law_is_nearest : FnG c "_law_is_nearest" 484 (st 62) []
  law_real : FnG c "_law_real" 491 (st 63) []
  law_told : FnG c "_law_told" 498 (st 64) []
  law_over : FnG c "_law_over" 505 (st 65) []
  law_gap : FnG c "_law_gap" 512 (st 66) []
  law_is_worse : FnG c "_law_is_worse" 519 (st 67) []
  law_is_shortest : FnG c "_law_is_shortest" 524 (st 68) []
  law : FnG c "law" 531 (st 69) []
  no_isinstance : c.mg (Str.ofString "isinstance") = none
  no_abs : c.mg (Str.ofString "abs") = none
  no_divmod : c.mg (Str.ofString "divmod") = none
  no_min : c.mg (Str.ofString "min") = none
  no_max : c.mg (Str.ofString "max") = none
  no_len : c.mg (Str.ofString "len") = none
  no_all : c.mg (Str.ofString "all") = none
  no_int : c.mg (Str.ofString "int") = none
  no_str : c.mg (Str.ofString "str") = none
  no_range : c.mg (Str.ofString "range") = none
  no_enumerate : c.mg (Str.ofString "enumerate") = none
  no_reversed : c.mg (Str.ofString "reversed") = none
  g_REACH : GlD c (Str.ofString "REACH") (.int 65536)
  g_FIGURES : GlD c (Str.ofString "FIGURES") (.str (Str.ofString "0123456789abcdef"))
  g_MARKS : GlD c (Str.ofString "MARKS") (.str (Str.ofString "esfdl"))
  g_MEF : GlD c (Str.ofString "MOST_EXPONENT_FIGURES") (.int 5)
  g_MBP : GlD c (Str.ofString "MOST_BEFORE_POINT") (.int 21)
  g_MNB : GlD c (Str.ofString "MOST_NOUGHTS_BEHIND_POINT") (.int 6)
  g_Real : GlD c (Str.ofString "Real") (.ptr 70)
  g_Ratio : GlD c (Str.ofString "Ratio") (.ptr 189)
  notRatio : isNotIn c.K "int" 189 = true
  g_RADICES : GlD c (Str.ofString "RADICES") (.ptr 215)
  radT : ∀ h, c.K.In h → StrTab c.prog c.w h 215 (radD.map fun p => (PyData.str p.1, p.2))
theorem f_Real_mantissa {d0 d1 : D} : FieldAt (Str.ofString "mantissa") d0 [Str.ofString "mantissa", Str.ofString "exponent"] [d0, d1] := .here
theorem f_Real_exponent {d0 d1 : D} : FieldAt (Str.ofString "exponent") d1 [Str.ofString "mantissa", Str.ofString "exponent"] [d0, d1] := .there (by decide +kernel) (.here)
theorem f_Ratio_top {d0 d1 : D} : FieldAt (Str.ofString "top") d0 [Str.ofString "top", Str.ofString "bottom"] [d0, d1] := .here
theorem f_Ratio_bottom {d0 d1 : D} : FieldAt (Str.ofString "bottom") d1 [Str.ofString "top", Str.ofString "bottom"] [d0, d1] := .there (by decide +kernel) (.here)
theorem f_Reading_top {d0 d1 d2 : D} : FieldAt (Str.ofString "top") d0 [Str.ofString "top", Str.ofString "bottom", Str.ofString "is_exact"] [d0, d1, d2] := .here
theorem f_Reading_bottom {d0 d1 d2 : D} : FieldAt (Str.ofString "bottom") d1 [Str.ofString "top", Str.ofString "bottom", Str.ofString "is_exact"] [d0, d1, d2] := .there (by decide +kernel) (.here)
theorem f_Reading_is_exact {d0 d1 d2 : D} : FieldAt (Str.ofString "is_exact") d2 [Str.ofString "top", Str.ofString "bottom", Str.ofString "is_exact"] [d0, d1, d2] := .there (by decide +kernel) (.there (by decide +kernel) (.here))
theorem f_Surroundings_here {d0 d1 d2 d3 d4 d5 : D} : FieldAt (Str.ofString "here") d0 [Str.ofString "here", Str.ofString "low", Str.ofString "high", Str.ofString "has_ends", Str.ofString "top", Str.ofString "bottom"] [d0, d1, d2, d3, d4, d5] := .here
theorem f_Surroundings_low {d0 d1 d2 d3 d4 d5 : D} : FieldAt (Str.ofString "low") d1 [Str.ofString "here", Str.ofString "low", Str.ofString "high", Str.ofString "has_ends", Str.ofString "top", Str.ofString "bottom"] [d0, d1, d2, d3, d4, d5] := .there (by decide +kernel) (.here)
theorem f_Surroundings_high {d0 d1 d2 d3 d4 d5 : D} : FieldAt (Str.ofString "high") d2 [Str.ofString "here", Str.ofString "low", Str.ofString "high", Str.ofString "has_ends", Str.ofString "top", Str.ofString "bottom"] [d0, d1, d2, d3, d4, d5] := .there (by decide +kernel) (.there (by decide +kernel) (.here))
theorem f_Surroundings_has_ends {d0 d1 d2 d3 d4 d5 : D} : FieldAt (Str.ofString "has_ends") d3 [Str.ofString "here", Str.ofString "low", Str.ofString "high", Str.ofString "has_ends", Str.ofString "top", Str.ofString "bottom"] [d0, d1, d2, d3, d4, d5] := .there (by decide +kernel) (.there (by decide +kernel) (.there (by decide +kernel) (.here)))
theorem f_Surroundings_top {d0 d1 d2 d3 d4 d5 : D} : FieldAt (Str.ofString "top") d4 [Str.ofString "here", Str.ofString "low", Str.ofString "high", Str.ofString "has_ends", Str.ofString "top", Str.ofString "bottom"] [d0, d1, d2, d3, d4, d5] := .there (by decide +kernel) (.there (by decide +kernel) (.there (by decide +kernel) (.there (by decide +kernel) (.here))))
theorem f_Surroundings_bottom {d0 d1 d2 d3 d4 d5 : D} : FieldAt (Str.ofString "bottom") d5 [Str.ofString "here", Str.ofString "low", Str.ofString "high", Str.ofString "has_ends", Str.ofString "top", Str.ofString "bottom"] [d0, d1, d2, d3, d4, d5] := .there (by decide +kernel) (.there (by decide +kernel) (.there (by decide +kernel) (.there (by decide +kernel) (.there (by decide +kernel) (.here)))))
theorem n_Surroundings_over_power : Str.ofString "over_power" ∉ [Str.ofString "here", Str.ofString "low", Str.ofString "high", Str.ofString "has_ends", Str.ofString "top", Str.ofString "bottom"] := by decide +kernel
theorem n_Surroundings_least_multiple : Str.ofString "least_multiple" ∉ [Str.ofString "here", Str.ofString "low", Str.ofString "high", Str.ofString "has_ends", Str.ofString "top", Str.ofString "bottom"] := by decide +kernel
theorem n_Surroundings_greatest_multiple : Str.ofString "greatest_multiple" ∉ [Str.ofString "here", Str.ofString "low", Str.ofString "high", Str.ofString "has_ends", Str.ofString "top", Str.ofString "bottom"] := by decide +kernel
theorem n_Surroundings_gap : Str.ofString "gap" ∉ [Str.ofString "here", Str.ofString "low", Str.ofString "high", Str.ofString "has_ends", Str.ofString "top", Str.ofString "bottom"] := by decide +kernel
theorem n_Surroundings_nearest_multiple : Str.ofString "nearest_multiple" ∉ [Str.ofString "here", Str.ofString "low", Str.ofString "high", Str.ofString "has_ends", Str.ofString "top", Str.ofString "bottom"] := by decide +kernel
theorem bt_isinstance : bootBuiltins (Str.ofString "isinstance") = some (.builtin "isinstance") := PyProof.Rows.Boot.«isinstance»
theorem bt_abs : bootBuiltins (Str.ofString "abs") = some (.builtin "abs") := PyProof.Rows.Boot.«abs»
theorem bt_divmod : bootBuiltins (Str.ofString "divmod") = some (.builtin "divmod") := PyProof.Rows.Boot.«divmod»
theorem bt_min : bootBuiltins (Str.ofString "min") = some (.builtin "min") := PyProof.Rows.Boot.«min»
theorem bt_max : bootBuiltins (Str.ofString "max") = some (.builtin "max") := PyProof.Rows.Boot.«max»
theorem bt_len : bootBuiltins (Str.ofString "len") = some (.builtin "len") := PyProof.Rows.Boot.«len»
theorem bt_all : bootBuiltins (Str.ofString "all") = some (.builtin "all") := PyProof.Rows.Boot.«all»
theorem bt_int : bootBuiltins (Str.ofString "int") = some (.type "int") := PyProof.Rows.Boot.«int»
theorem bt_str : bootBuiltins (Str.ofString "str") = some (.type "str") := PyProof.Rows.Boot.«str»
theorem bt_range : bootBuiltins (Str.ofString "range") = some (.type "range") := PyProof.Rows.Boot.«range»
theorem bt_enumerate : bootBuiltins (Str.ofString "enumerate") = some (.type "enumerate") := PyProof.Rows.Boot.«enumerate»
theorem bt_reversed : bootBuiltins (Str.ofString "reversed") = some (.type "reversed") := PyProof.Rows.Boot.«reversed»
end Mine
end
section
-- W1
open PySem PySem.W PyProof.Rows
set_option Elab.async false
set_option linter.all false
set_option maxRecDepth 100000
namespace Mine
noncomputable abbrev RealD (m e : Int) : D := .obj 70 [Str.ofString "mantissa", Str.ofString "exponent"] [.int m, .int e]
noncomputable abbrev RatioD (m e : Int) : D := .obj 189 [Str.ofString "top", Str.ofString "bottom"] [.int m, .int e]
noncomputable abbrev ReadD (t b : Int) (x : Bool) : D := .obj 378 [Str.ofString "top", Str.ofString "bottom", Str.ofString "is_exact"] [.int t, .int b, .bool x]
theorem intBits_abs (n : Int) : Builtin.Int.intBits (if n < 0 then -n else n) = Builtin.Int.intBits n := by
  split
  · simp [Builtin.Int.intBits, Int.natAbs_neg]
  · rfl
theorem abs_nat (n : Int) : (if n < 0 then -n else n) = (n.natAbs : Int) := by split <;> lia
theorem Real_gf {c : Cx} (F : Facts c) (m e : Int) : GF c (Str.ofString "Real") 2 [.int m, .int e] (RealD m e) := by
  refine ⟨_, F.Real.name, F.Real.keep, FN.cls F.Real.cls fun a da => ?_⟩
  refine FNM.ofI F.Real_i (okMe 5 0 (by decide) (by decide)) rfl (by dsimp only [initEnv, List.cons_append, List.nil_append, List.append_nil]) rfl ?_
  with_reducible refine' EX.setattr m0 (EV.name m1) (SetOk.of F.Real F.Real_mantissa) (by decide) ?_
  with_reducible refine' EX.setattr m0 (EV.name m2) (SetOk.of F.Real F.Real_exponent) (by decide) ?_
  exact EX.nil
theorem Ratio_gf {c : Cx} (F : Facts c) (m e : Int) : GF c (Str.ofString "Ratio") 2 [.int m, .int e] (RatioD m e) := by
  refine ⟨_, F.Ratio.name, F.Ratio.keep, FN.cls F.Ratio.cls fun a da => ?_⟩
  refine FNM.ofI F.Ratio_i (okMe 21 0 (by decide) (by decide)) rfl (by dsimp only [initEnv, List.cons_append, List.nil_append, List.append_nil]) rfl ?_
  with_reducible refine' EX.setattr m0 (EV.name m1) (SetOk.of F.Ratio F.Ratio_top) (by decide) ?_
  with_reducible refine' EX.setattr m0 (EV.name m2) (SetOk.of F.Ratio F.Ratio_bottom) (by decide) ?_
  exact EX.nil
theorem Reading_gf {c : Cx} (F : Facts c) (t b : Int) (x : Bool) : GF c (Str.ofString "Reading") 2 [.int t, .int b, .bool x] (ReadD t b x) := by
  refine ⟨_, F.Reading.name, F.Reading.keep, FN.cls F.Reading.cls fun a da => ?_⟩
  refine FNM.ofI F.Reading_i (okMe 46 0 (by decide) (by decide)) rfl (by dsimp only [initEnv, List.cons_append, List.nil_append, List.append_nil]) rfl ?_
  with_reducible refine' EX.setattr m0 (EV.name m1) (SetOk.of F.Reading F.Reading_top) (by decide) ?_
  with_reducible refine' EX.setattr m0 (EV.name m2) (SetOk.of F.Reading F.Reading_bottom) (by decide) ?_
  with_reducible refine' EX.setattr m0 (EV.name m3) (SetOk.of F.Reading F.Reading_is_exact) (by decide) ?_
  exact EX.nil
theorem is_real_gf {c : Cx} (F : Facts c) {ns : List Str} {l : List D} : GF c (Str.ofString "is_real") 1 [.obj 70 ns l] (.bool true) := by
  refine ⟨_, F.is_real.name, F.is_real.keep, ?_⟩
  refine FN.of F.is_real.fn (okSt 6 (by decide)) rfl (by dsimp only [initEnv, List.cons_append, List.nil_append, List.append_nil]) rfl ?_
  with_reducible exact EX.ret (EV.blt m1 F.no_isinstance bt_isinstance (EVs.cons (EV.name m0) (EVs.cons (EV.glo F.g_Real m2) EVs.nil)) BCall.isi)
theorem size_of_gf {c : Cx} (F : Facts c) (n : Int) : GF c (Str.ofString "size_of") 1 [.int n] (.int (Builtin.Int.intBits n)) := by
  refine ⟨_, F.size_of.name, F.size_of.keep, ?_⟩
  refine FN.of F.size_of.fn (okSt 7 (by decide)) rfl (by dsimp only [initEnv, List.cons_append, List.nil_append, List.append_nil]) rfl ?_
  with_reducible refine' EX.retOf (EV.smeth0 (EV.blt m1 F.no_abs bt_abs (EVs.cons (EV.name m0) EVs.nil) BCall.abs) GetM.bitlen SCall.bitlen) ?_
  rw [intBits_abs]
theorem sign_of_whole_gf {c : Cx} (F : Facts c) (n : Int) : GF c (Str.ofString "sign_of_whole") 1 [.int n] (.int n.sign) := by
  refine ⟨_, F.sign_of_whole.name, F.sign_of_whole.keep, ?_⟩
  refine FN.of F.sign_of_whole.fn (okSt 8 (by decide)) rfl (by dsimp only [initEnv, List.cons_append, List.nil_append, List.append_nil]) rfl ?_
  with_reducible refine' EX.retOf (EV.bin (EV.cmp (EV.name m0) EV.int CmpD.gt) (EV.cmp (EV.name m0) EV.int CmpD.lt) BinD.subB) ?_
  congr 1
  rcases Int.lt_trichotomy n 0 with h | h | h
  · rw [Int.sign_eq_neg_one_of_neg h, decide_eq_false (by lia), decide_eq_true h]; rfl
  · subst h; rfl
  · rw [Int.sign_eq_one_of_pos h, decide_eq_true h, decide_eq_false (by lia)]; rfl
theorem zeros_below_gf {c : Cx} (F : Facts c) (n : Int) : GF c (Str.ofString "zeros_below") 1 [.int n] (.int (Builtin.Int.intBits (Builtin.bitAnd n (0 - n)) - 1)) := by
  refine ⟨_, F.zeros_below.name, F.zeros_below.keep, ?_⟩
  refine FN.of F.zeros_below.fn (okSt 9 (by decide)) rfl (by dsimp only [initEnv, List.cons_append, List.nil_append, List.append_nil]) rfl ?_
  with_reducible exact EX.ret (EV.bin (EV.smeth0 (EV.bin (EV.name m0) (EV.bin EV.int (EV.name m0) BinD.sub) BinD.and) GetM.bitlen SCall.bitlen) EV.int BinD.sub)
/-- a number's odd part and the zeros below -/
theorem low_bits (z : Nat) (a : Int) : (Builtin.Int.intBits (Builtin.bitAnd (2 ^ z * (2 * a + 1)) (0 - 2 ^ z * (2 * a + 1))) : Int) - 1 = z := by
  rw [Int.zero_sub, kbt_low]
  have h : ((2 : Int) ^ z).natAbs = 2 ^ z := by rw [Int.natAbs_pow]; rfl
  have hp : (0 : Nat) < 2 ^ z := Nat.two_pow_pos z
  unfold Builtin.Int.intBits
  have h0 : ¬ (((2 : Int) ^ z == 0) = true) := by
    rw [beq_iff_eq]; intro e; rw [← Int.natAbs_eq_zero, h] at e; lia
  rw [if_neg h0, h, Nat.log2_two_pow]
  lia
theorem pow_odd_ne (z : Nat) (a : Int) : (2 : Int) ^ z * (2 * a + 1) ≠ 0 := by
  intro e
  rcases Int.mul_eq_zero.mp e with h | h
  · have := kbt_pos z; lia
  · lia
theorem lean_gf {c : Cx} (F : Facts c) (z : Nat) (a e : Int) (h : (Builtin.Int.intBits (2 ^ z * (2 * a + 1)) + e).natAbs ≤ 65536) : GF c (Str.ofString "lean") 3 [.int (2 ^ z * (2 * a + 1)), .int e] (RealD (2 * a + 1) (e + z)) := by
  have hl := low_bits z a
  have hne := pow_odd_ne z a
  generalize hm : (2 : Int) ^ z * (2 * a + 1) = m at hl hne h
  refine ⟨_, F.lean.name, F.lean.keep, ?_⟩
  refine FN.of F.lean.fn (okSt 10 (by decide)) rfl (by dsimp only [initEnv, List.cons_append, List.nil_append, List.append_nil]) rfl ?_
  with_reducible refine' EX.iteF (TR.of (TR.cmp (EV.name m0) EV.int CmpD.eq) (decide_eq_false hne)) ?_
  refine EX.pop ?_
  with_reducible refine' EX.swap2 (EVs.cons (EV.of (EV.call m5 (EVs.cons (EV.name m0) EVs.nil) (zeros_below_gf F ..) (by decide)) (congrArg D.int hl)) (EVs.cons (EV.bin (EV.call m6 (EVs.cons (EV.name m0) EVs.nil) (size_of_gf F ..) (by decide)) (EV.name m1) BinD.add) EVs.nil)) m2 m3 p3 p2 ?_
  with_reducible refine' EX.iteF (TR.of (TR.cmp (EV.blt m7 F.no_abs bt_abs (EVs.cons (EV.name m3) EVs.nil) BCall.abs) (EV.glo F.g_REACH m8) CmpD.gt) (decide_eq_false ?_)) ?_
  · rw [abs_nat]; lia
  refine EX.pop ?_
  with_reducible refine' EX.retOf (EV.call m4 (EVs.cons (EV.bin (EV.name m0) (EV.name m2) (BinD.shr ?_)) (EVs.cons (EV.bin (EV.name m1) (EV.name m2) BinD.add) EVs.nil)) (Real_gf F ..) (by decide)) ?_
  · lia
  · have e2 : m.fdiv (2 ^ ((z : Int).toNat)) = 2 * a + 1 := by
      rw [Int.toNat_natCast, ← hm, Int.mul_comm]; exact kbt_q1 _ _
    rw [e2]
end Mine
end
section
-- W2
open PySem PySem.W PyProof.Rows
set_option Elab.async false
set_option linter.all false
set_option maxRecDepth 100000
namespace Mine
theorem bits_small {i : Int} {n : Nat} (h : i.natAbs < 2 ^ n) : Builtin.Int.intBits i ≤ n := intBits_le_iff.mpr h
theorem fdiv_nat (a b : Nat) : (a : Int).fdiv (b : Int) = ((a / b : Nat) : Int) := by
  rw [Int.fdiv_eq_ediv_of_nonneg _ (Int.natCast_nonneg b)]; rfl
theorem fmod_nat (a b : Nat) : (a : Int).fmod (b : Int) = ((a % b : Nat) : Int) := by
  rw [Int.fmod_eq_emod_of_nonneg _ (Int.natCast_nonneg b)]; rfl
theorem pow2_cast (g : Nat) : (2 : Int) ^ g = ((2 ^ g : Nat) : Int) := by rw [Int.natCast_pow]; rfl
theorem intBits_one : Builtin.Int.intBits 1 = 1 := by decide +kernel
theorem nearest_shift_gf {c : Cx} (F : Facts c) (n g : Nat) (hg : 1 ≤ g) (hg2 : g ≤ 1000000) : GF c (Str.ofString "nearest_shift") 1 [.int n, .int g] (.int (nearN n g)) := by
  refine ⟨_, F.nearest_shift.name, F.nearest_shift.keep, ?_⟩
  refine FN.of F.nearest_shift.fn (okSt 11 (by decide)) rfl (by dsimp only [initEnv, List.cons_append, List.nil_append, List.append_nil]) rfl ?_
  have b1 := intBits_one
  have e1 : (n : Int).fdiv (2 ^ (g : Int).toNat) = ((n / 2 ^ g : Nat) : Int) := by rw [Int.toNat_natCast, pow2_cast, fdiv_nat]
  have e2 : Builtin.bitAnd n (1 * 2 ^ (g : Int).toNat - 1) = ((n % 2 ^ g : Nat) : Int) := by rw [Int.toNat_natCast, Int.one_mul, kbt_mask, pow2_cast]; rfl
  have e3 : (1 : Int) * 2 ^ ((g : Int) - 1).toNat = ((2 ^ (g - 1) : Nat) : Int) := by rw [Int.one_mul, pow2_cast]; congr 2; lia
  with_reducible refine' EX.swap3 (EVs.cons (EV.of (EV.bin (EV.name m0) (EV.name m1) (BinD.shr ?_)) (congrArg D.int e1)) (EVs.cons (EV.of (EV.bin (EV.name m0) (EV.bin (EV.bin EV.int (EV.name m1) (BinD.shl ?_ ?_)) EV.int BinD.sub) BinD.and) (congrArg D.int e2)) (EVs.cons (EV.of (EV.bin EV.int (EV.bin (EV.name m1) EV.int BinD.sub) (BinD.shl ?_ ?_)) (congrArg D.int e3)) EVs.nil))) m2 m3 m4 p4 p3 p2 ?_
  iterate 5 (first | lia | (rw [b1]; lia))
  have hb : ∀ x y z : Nat, (decide (((y : Nat) : Int) < (x : Int)) || ((decide ((x : Int) = ((y : Nat) : Int)) && (decide (Builtin.bitAnd (z : Int) 1 = 1) && true)) || false)) = decide (x > y ∨ (x = y ∧ z % 2 = 1)) := fun x y z => by
    rw [bitAnd_m1]
    by_cases h1 : y < x <;> by_cases h2 : x = y <;> by_cases h3 : z % 2 = 1 <;> simp [h1, h2, h3] <;> lia
  with_reducible refine' EX.ite (TR.of (TR.or (TR.cmp (EV.name m3) (EV.name m4) CmpD.gt) (fun h => (TR.or (TR.and (TR.cmp (EV.name m3) (EV.name m4) CmpD.eq) (fun h => (TR.and (TR.cmp (EV.bin (EV.name m2) EV.int BinD.and) EV.int CmpD.eq) (fun h => TR.and_nil)))) (fun h => TR.or_nil)))) (hb _ _ _)) (fun h => ?_) (fun h => ?_)
  · with_reducible refine' EX.retOf (EV.bin (EV.name m2) EV.int BinD.add) ?_
    unfold nearN
    rw [if_pos (of_decide_eq_true h)]; rfl
  · refine EX.pop ?_
    with_reducible refine' EX.retOf (EV.name m2) ?_
    unfold nearN
    rw [if_neg (of_decide_eq_false h)]
theorem with_sticky_gf {c : Cx} (F : Facts c) (n : Int) (b : Bool) : GF c (Str.ofString "with_sticky") 1 [.int n, .bool b] (.int (2 * n + if b then 1 else 0)) := by
  refine ⟨_, F.with_sticky.name, F.with_sticky.keep, ?_⟩
  refine FN.of F.with_sticky.fn (okSt 13 (by decide)) rfl (by dsimp only [initEnv, List.cons_append, List.nil_append, List.append_nil]) rfl ?_
  with_reducible exact EX.ret (EV.bin (EV.bin EV.int (EV.name m0) (BinD.mul (IntMulOk.of_left (by decide)))) (EV.iteI (TR.plain (EV.name m1)) (fun h => EV.int) (fun h => EV.int)) BinD.add)
/-- a sign times an odd number is odd -/
theorem sign_odd {s : Int} (hs : s = 1 ∨ s = -1) (b : Int) : ∃ a, s * (2 * b + 1) = 2 * a + 1 := by
  rcases hs with rfl | rfl
  · exact ⟨b, by lia⟩
  · exact ⟨-b - 1, by lia⟩
theorem sign_mul {s : Int} (hs : s = 1 ∨ s = -1) {n : Nat} (hn : 0 < n) : (s * n).sign = s := by
  rcases hs with rfl | rfl
  · rw [Int.one_mul]; exact Int.sign_eq_one_of_pos (by lia)
  · rw [show (-1 : Int) * n = -(n : Int) by lia]; exact Int.sign_eq_neg_one_of_neg (by lia)
theorem abs_mul {s : Int} (hs : s = 1 ∨ s = -1) (n : Nat) : (if s * n < 0 then -(s * n) else s * n) = (n : Int) := by
  rcases hs with rfl | rfl
  · rw [Int.one_mul, if_neg (by lia)]
  · rw [show (-1 : Int) * n = -(n : Int) by lia]; split <;> lia
theorem sign_ok {s : Int} (hs : s = 1 ∨ s = -1) {x : Int} : IntMulOk s x := IntMulOk.of_left (by rcases hs with rfl | rfl <;> decide +kernel)
theorem shifted_round_gf {c : Cx} (F : Facts c) {s : Int} (hs : s = 1 ∨ s = -1) (p N : Nat) (e : Int) (z : Nat) (b : Int) (hN : 0 < N) (hg : p < bits N) (hg2 : bits N ≤ 100000) (hm : (nearN N (bits N - p) : Int) = 2 ^ z * (2 * b + 1)) (hpl : (bits (nearN N (bits N - p)) + (e + (bits N - p : Nat))).natAbs ≤ 65536) :
    GF c (Str.ofString "shifted_round") 4 [.int p, .int (s * N), .int e] (RealD (s * (2 * b + 1)) (e + (bits N - p : Nat) + z)) := by
  refine ⟨_, F.shifted_round.name, F.shifted_round.keep, ?_⟩
  refine FN.of F.shifted_round.fn (okSt 12 (by decide)) rfl (by dsimp only [initEnv, List.cons_append, List.nil_append, List.append_nil]) rfl ?_
  have e0 : (Builtin.Int.intBits (s * N) : Int) - p = ((bits N - p : Nat) : Int) := by rw [intBits_sign hs]; lia
  with_reducible refine' EX.assign (EV.of (EV.bin (EV.call m4 (EVs.cons (EV.name m1) EVs.nil) (size_of_gf F ..) (by decide)) (EV.name m0) BinD.sub) (congrArg D.int e0)) p3 ?_
  with_reducible refine' EX.iteF (TR.of (TR.cmp (EV.name m3) EV.int CmpD.le) (decide_eq_false (by lia))) ?_
  refine EX.pop ?_
  obtain ⟨a, ha⟩ := sign_odd hs b
  have e1 : (s * (N : Int)).sign * (nearN N (bits N - p) : Nat) = 2 ^ z * (2 * a + 1) := by rw [sign_mul hs hN, hm, ← ha, Int.mul_left_comm]
  have hpl' : ((Builtin.Int.intBits (2 ^ z * (2 * a + 1)) : Int) + (e + (bits N - p : Nat))).natAbs ≤ 65536 := by
    rw [← e1, sign_mul hs hN, intBits_sign hs]; exact hpl
  have ok : IntMulOk (s * (N : Int)).sign (nearN N (bits N - p) : Nat) := by rw [sign_mul hs hN]; exact sign_ok hs
  have e2 := abs_mul hs N
  with_reducible refine' EX.retOf (EV.call m5 (EVs.cons (EV.of (EV.bin (EV.call m6 (EVs.cons (EV.name m1) EVs.nil) (sign_of_whole_gf F ..) (by decide)) (EV.call m7 (EVs.cons (EV.of (EV.blt m8 F.no_abs bt_abs (EVs.cons (EV.name m1) EVs.nil) BCall.abs) (congrArg D.int e2)) (EVs.cons (EV.name m3) EVs.nil)) (nearest_shift_gf F N (bits N - p) (by lia) (by lia)) (by decide)) (BinD.mul ok)) (congrArg D.int e1)) (EVs.cons (EV.bin (EV.name m2) (EV.name m3) BinD.add) EVs.nil)) (lean_gf F z a _ hpl') (by decide)) ?_
  rw [ha]
theorem shl_ok {n j : Nat} (hn : n < 2 ^ 1000) (hj : j ≤ 100000) : (Builtin.Int.intBits (n : Int) : Int) + (j : Int) ≤ 2 ^ 27 := by
  rw [intBits_nat]; have := bits_le_of hn; lia
theorem nopy {y : Nat} (h : bits y < 8000) : ∀ x : Int, Builtin.divisionGoesByPylong x (y : Int) = false := fun x => by
  refine PyProof.noPylong_of_log2 ?_
  rw [Int.natAbs_natCast]
  unfold bits at h
  by_cases h0 : y = 0
  · subst h0; decide +kernel
  · rw [if_neg h0] at h; lia
/-- rounded, of a number within the surroundings of m -/
theorem rounded_gf {c : Cx} (F : Facts c) {s : Int} (hs : s = 1 ∨ s = -1) {p m T B z : Nat} {b e : Int} (hp : 2 ≤ p) (hp2 : p ≤ 100) (h1 : 2 ^ (p - 1) ≤ m) (h2 : m < 2 ^ p) (hT : 0 < T) (hB : 0 < B) (hT2 : T < 2 ^ 1000) (hB2 : B < 2 ^ 1000) (he : e.natAbs ≤ 1000) (hm : (m : Int) = 2 ^ z * (2 * b + 1))
    (hw : Within p m (T * 2 ^ (2 - e).toNat) (2 ^ (e - 2).toNat * B)) : GF c (Str.ofString "rounded") 5 [.int p, .int (s * T), .int B] (RealD (s * (2 * b + 1)) (e + z)) := by
  have hr := Hd.mk (round_whole hp h1 h2 hT hB hw)
  have bT := bits_le_of hT2
  have bB := bits_le_of hB2
  have hM0 : Hd (manOf p T B = 2 * (T * 2 ^ (shiftOf p T B).toNat / (B * 2 ^ (-shiftOf p T B).toNat)) + (if T * 2 ^ (shiftOf p T B).toNat % (B * 2 ^ (-shiftOf p T B).toNat) ≠ 0 then 1 else 0)) := ⟨rfl⟩
  have hsh : shiftOf p T B = (p : Int) + 2 + bits B - bits T := rfl
  generalize manOf p T B = M at hr hM0
  generalize shiftOf p T B = sh at hr hM0 hsh
  refine ⟨_, F.rounded.name, F.rounded.keep, ?_⟩
  refine FN.of F.rounded.fn (okSt 14 (by decide)) rfl (by dsimp only [initEnv, List.cons_append, List.nil_append, List.append_nil]) rfl ?_
  have hne : s * (T : Int) ≠ 0 := by rcases hs with rfl | rfl <;> lia
  with_reducible refine' EX.iteF (TR.of (TR.cmp (EV.name m1) EV.int CmpD.eq) (decide_eq_false hne)) ?_
  refine EX.pop ?_
  have e0 : (p : Int) + 2 + (Builtin.Int.intBits (B : Int) : Int) - (Builtin.Int.intBits (s * T) : Int) = sh := by rw [intBits_nat, intBits_sign hs, hsh]
  with_reducible refine' EX.assign (EV.of (EV.bin (EV.bin (EV.bin (EV.name m0) EV.int BinD.add) (EV.call m7 (EVs.cons (EV.name m2) EVs.nil) (size_of_gf F ..) (by decide)) BinD.add) (EV.call m7 (EVs.cons (EV.name m1) EVs.nil) (size_of_gf F ..) (by decide)) BinD.sub) (congrArg D.int e0)) p3 ?_
  have e1 := abs_mul hs T
  -- the end, whatever the quotient came by
  have fin : ∀ (kept rest : Nat), M = 2 * kept + (if rest ≠ 0 then 1 else 0) →
      GF c (Str.ofString "shifted_round") 4 [.int p, .int (s * (M : Int)), .int (0 - sh - 1)] (RealD (s * (2 * b + 1)) (e + z)) ∧ (s * (T : Int)).sign * (2 * (kept : Int) + if (!decide ((rest : Int) = 0)) = true then 1 else 0) = s * (M : Int) := by
    intro kept rest hM
    have hM := Hd.mk hM
    constructor
    · have hM1 : 0 < M := by
        have h : p < bits M := by rcases hr.out with ⟨_, _, h⟩ | ⟨_, _, h⟩ <;> exact h
        rcases Nat.eq_zero_or_pos M with h0 | h0
        · rw [h0] at h; exact absurd h (Nat.not_lt_zero _)
        · exact h0
      clear hM
      obtain ⟨he1, he2⟩ := nab' he
      clear he hw hne e0 e1 hT2 hB2 hT hB
      rcases hr.out with ⟨r1, r2, r3⟩ | ⟨r1, r2, r3⟩
      · have hc : ((bits M - p : Nat) : Int) = e + sh + 1 := by rw [Int.natCast_sub (Nat.le_of_lt r3)]; clear hsh r1 hm bT bB he1 he2 hM1; lia
        have hb : bits m = p := (bits_eq (k := p - 1) h1 (by rw [Nat.sub_add_cancel (Nat.le_of_succ_le hp)]; exact h2)).trans (Nat.sub_add_cancel (Nat.le_of_succ_le hp))
        have hg : bits M ≤ 100000 := by clear h1 h2 r1 r3 hm hb hc he1 hM1 bT; generalize bits T = u at *; generalize bits B = v at *; lia
        have := shifted_round_gf F hs p M (0 - sh - 1) z b hM1 r3 hg (by rw [r1]; exact hm) (by rw [r1, hc, hb]; exact nab (by clear h1 h2 r1 r2 r3 hm hb hc hM1 bT bB hsh hg; lia) (by clear h1 h2 r1 r2 r3 hm hb hc hM1 bT bB hsh hg; lia))
        rw [hc, show (0 : Int) - sh - 1 + (e + sh + 1) = e by clear h1 h2 r1 r2 r3 hm hb hc hM1 bT bB hsh hg this; lia] at this
        exact this
      · have hc : ((bits M - p : Nat) : Int) = e + sh := by rw [Int.natCast_sub (Nat.le_of_lt r3)]; clear hsh r1 hm bT bB he1 he2 hM1; lia
        have hb : bits (2 * m) = p + 1 := by
          refine bits_eq (k := p) ?_ ?_
          · rw [show p = p - 1 + 1 from (Nat.sub_add_cancel (Nat.le_of_succ_le hp)).symm, Nat.pow_succ, Nat.mul_comm]; exact Nat.mul_le_mul_left 2 h1
          · rw [Nat.pow_succ, Nat.mul_comm]; exact Nat.mul_lt_mul_of_pos_right h2 (by decide)
        have hg : bits M ≤ 100000 := by clear h1 h2 r1 r3 hm hb hc he1 hM1 bT; generalize bits T = u at *; generalize bits B = v at *; lia
        have := shifted_round_gf F hs p M (0 - sh - 1) (z + 1) b hM1 r3 hg (by rw [r1, Int.natCast_mul, hm, Int.pow_succ, Int.mul_comm (2 ^ z) 2, Int.mul_assoc]; rfl) (by rw [r1, hc, hb]; exact nab (by clear h1 h2 r1 r2 r3 hm hb hc hM1 bT bB hsh hg; lia) (by clear h1 h2 r1 r2 r3 hm hb hc hM1 bT bB hsh hg; lia))
        rw [hc, show (0 : Int) - sh - 1 + (e + sh) + ((z + 1 : Nat) : Int) = e + z by clear h1 h2 r1 r2 r3 hm hb hc hM1 bT bB hsh hg this; lia] at this
        exact this
    · rw [sign_mul hs hT, hM.out]
      by_cases h : rest = 0
      · subst h; simp
      · simp [h]
  rcases Int.lt_or_le sh 0 with hs0 | hs0
  rotate_left
  · with_reducible refine' EX.iteT (TR.of (TR.cmp (EV.name m3) EV.int CmpD.ge) (decide_eq_true hs0)) ?_
    have ea : (T : Int) * 2 ^ sh.toNat = ((T * 2 ^ sh.toNat : Nat) : Int) := by rw [pow2_cast]; rfl
    have eq := fdiv_nat (T * 2 ^ sh.toNat) B
    have er := fmod_nat (T * 2 ^ sh.toNat) B
    rw [show (-sh).toNat = 0 by lia, Nat.pow_zero, Nat.mul_one] at hM0
    obtain ⟨f1, f2⟩ := fin _ _ hM0.out
    have hsn : (Builtin.Int.intBits (T : Int) : Int) + sh ≤ 2 ^ 27 := by rw [intBits_nat]; lia
    with_reducible refine' EX.assign2 (EV.of (EV.blt m8 F.no_divmod bt_divmod (EVs.cons (EV.of (EV.bin (EV.of (EV.blt m9 F.no_abs bt_abs (EVs.cons (EV.name m1) EVs.nil) BCall.abs) (congrArg D.int e1)) (EV.name m3) (BinD.shl hs0 hsn)) (congrArg D.int ea)) (EVs.cons (EV.name m2) EVs.nil)) (BCall.divmod ?_ ?_)) (by rw [eq, er])) p4 p5 ?_
    · lia
    · exact nopy (by lia) _
    refine EX.pop ?_
    with_reducible refine' EX.ret (EV.call m10 (EVs.cons (EV.name m0) (EVs.cons (EV.of (EV.bin (EV.call m11 (EVs.cons (EV.name m1) EVs.nil) (sign_of_whole_gf F ..) (by decide)) (EV.call m12 (EVs.cons (EV.name m4) (EVs.cons (EV.cmp (EV.name m5) EV.int CmpD.ne) EVs.nil)) (with_sticky_gf F ..) (by decide)) (BinD.mul ?_)) (congrArg D.int f2)) (EVs.cons (EV.bin (EV.bin EV.int (EV.name m3) BinD.sub) EV.int BinD.sub) EVs.nil))) f1 (by decide))
    rw [sign_mul hs hT]; exact sign_ok hs
  · with_reducible refine' EX.iteF (TR.of (TR.cmp (EV.name m3) EV.int CmpD.ge) (decide_eq_false (by lia))) ?_
    have ea : (B : Int) * 2 ^ (0 - sh).toNat = ((B * 2 ^ (-sh).toNat : Nat) : Int) := by rw [pow2_cast, Int.zero_sub]; rfl
    have eq := fdiv_nat T (B * 2 ^ (-sh).toNat)
    have er := fmod_nat T (B * 2 ^ (-sh).toNat)
    rw [show sh.toNat = 0 by lia, Nat.pow_zero, Nat.mul_one] at hM0
    obtain ⟨f1, f2⟩ := fin _ _ hM0.out
    have hsn : (Builtin.Int.intBits (B : Int) : Int) + (0 - sh) ≤ 2 ^ 27 := by rw [intBits_nat]; lia
    have hsn0 : 0 ≤ 0 - sh := by lia
    with_reducible refine' EX.assign2 (EV.of (EV.blt m8 F.no_divmod bt_divmod (EVs.cons (EV.of (EV.blt m9 F.no_abs bt_abs (EVs.cons (EV.name m1) EVs.nil) BCall.abs) (congrArg D.int e1)) (EVs.cons (EV.of (EV.bin (EV.name m2) (EV.bin EV.int (EV.name m3) BinD.sub) (BinD.shl hsn0 hsn)) (congrArg D.int ea)) EVs.nil)) (BCall.divmod ?_ ?_)) (by rw [eq, er])) p4 p5 ?_
    · have : 0 < B * 2 ^ (-sh).toNat := Nat.mul_pos hB (Nat.two_pow_pos _)
      lia
    · refine nopy ?_ _
      have : B * 2 ^ (-sh).toNat < 2 ^ (1000 + 1000) := by
        rw [Nat.pow_add]
        exact Nat.lt_of_lt_of_le (Nat.mul_lt_mul_of_pos_right hB2 (Nat.two_pow_pos _)) (Nat.mul_le_mul_left _ (Nat.pow_le_pow_right (by decide) (by lia)))
      have := bits_le_of this
      lia
    refine EX.pop ?_
    with_reducible refine' EX.ret (EV.call m10 (EVs.cons (EV.name m0) (EVs.cons (EV.of (EV.bin (EV.call m11 (EVs.cons (EV.name m1) EVs.nil) (sign_of_whole_gf F ..) (by decide)) (EV.call m12 (EVs.cons (EV.name m4) (EVs.cons (EV.cmp (EV.name m5) EV.int CmpD.ne) EVs.nil)) (with_sticky_gf F ..) (by decide)) (BinD.mul ?_)) (congrArg D.int f2)) (EVs.cons (EV.bin (EV.bin EV.int (EV.name m3) BinD.sub) EV.int BinD.sub) EVs.nil))) f1 (by decide))
    rw [sign_mul hs hT]; exact sign_ok hs
end Mine
end
section
-- W3
open PySem PySem.W PyProof.Rows
set_option Elab.async false
set_option linter.all false
set_option maxRecDepth 100000
namespace Mine
theorem place_of_gf {c : Cx} (F : Facts c) (m e : Int) : GF c (Str.ofString "place_of") 2 [RealD m e] (.int (Builtin.Int.intBits m + e)) := by
  refine ⟨_, F.place_of.name, F.place_of.keep, ?_⟩
  refine FN.of F.place_of.fn (okSt 16 (by decide)) rfl (by dsimp only [initEnv, List.cons_append, List.nil_append, List.append_nil]) rfl ?_
  with_reducible exact EX.ret (EV.bin (EV.call m1 (EVs.cons (EV.attr (EV.name m0) (AttrOk.of F.Real F.Real_mantissa) f_Real_mantissa) EVs.nil) (size_of_gf F ..) (by decide)) (EV.attr (EV.name m0) (AttrOk.of F.Real F.Real_exponent) f_Real_exponent) BinD.add)
theorem sign_of_gf {c : Cx} (F : Facts c) (m e : Int) : GF c (Str.ofString "sign_of") 2 [RealD m e] (.int m.sign) := by
  refine ⟨_, F.sign_of.name, F.sign_of.keep, ?_⟩
  refine FN.of F.sign_of.fn (okSt 17 (by decide)) rfl (by dsimp only [initEnv, List.cons_append, List.nil_append, List.append_nil]) rfl ?_
  with_reducible exact EX.ret (EV.call m1 (EVs.cons (EV.attr (EV.name m0) (AttrOk.of F.Real F.Real_mantissa) f_Real_mantissa) EVs.nil) (sign_of_whole_gf F ..) (by decide))
theorem magnitude_gf {c : Cx} (F : Facts c) (m e : Int) : GF c (Str.ofString "magnitude") 3 [RealD m e] (RealD m.natAbs e) := by
  refine ⟨_, F.magnitude.name, F.magnitude.keep, ?_⟩
  refine FN.of F.magnitude.fn (okSt 18 (by decide)) rfl (by dsimp only [initEnv, List.cons_append, List.nil_append, List.append_nil]) rfl ?_
  with_reducible refine' EX.retOf (EV.call m1 (EVs.cons (EV.blt m2 F.no_abs bt_abs (EVs.cons (EV.attr (EV.name m0) (AttrOk.of F.Real F.Real_mantissa) f_Real_mantissa) EVs.nil) BCall.abs) (EVs.cons (EV.attr (EV.name m0) (AttrOk.of F.Real F.Real_exponent) f_Real_exponent) EVs.nil)) (Real_gf F ..) (by decide)) ?_
  rw [abs_nat]
/-- m's odd part and place, and the full mantissa again -/
theorem full_mantissa_gf {c : Cx} (F : Facts c) {p m z : Nat} {b : Int} {e : Int} (hp : 2 ≤ p) (hp2 : p ≤ 100) (h1 : 2 ^ (p - 1) ≤ m) (h2 : m < 2 ^ p) (hm : (m : Int) = 2 ^ z * (2 * b + 1)) : GF c (Str.ofString "full_mantissa") 2 [.int p, RealD (2 * b + 1) (e + z)] (.tup [.int m, .int e]) := by
  refine ⟨_, F.full_mantissa.name, F.full_mantissa.keep, ?_⟩
  refine FN.of F.full_mantissa.fn (okSt 19 (by decide)) rfl (by dsimp only [initEnv, List.cons_append, List.nil_append, List.append_nil]) rfl ?_
  have hz : (0 : Int) < 2 ^ z := kbt_pos z
  have hb : 0 < 2 * b + 1 := by
    have h0 : 0 < (m : Int) := by have := Nat.two_pow_pos (p - 1); lia
    rw [hm] at h0
    rcases Int.lt_or_le 0 (2 * b + 1) with h | h
    · exact h
    · have := Int.mul_le_mul_of_nonneg_left h (Int.le_of_lt hz)
      lia
  obtain ⟨o, ho⟩ := Int.eq_ofNat_of_zero_le (Int.le_of_lt hb)
  have hmo : m = 2 ^ z * o := by rw [ho, pow2_cast] at hm; exact_mod_cast hm
  have hbo : bits o + z = p := by
    have ho0 : 0 < o := by lia
    have x1 := bits_lt o
    have x2 := bits_le ho0
    have x3 := bits_pos ho0
    have : bits m = (bits o - 1 + z) + 1 := bits_eq ?_ ?_
    · have h3 : bits m = (p - 1) + 1 := bits_eq h1 (by rw [Nat.sub_add_cancel (by lia)]; exact h2)
      lia
    · rw [hmo, Nat.pow_add, Nat.mul_comm]; exact Nat.mul_le_mul_left _ x2
    · rw [hmo, show bits o - 1 + z + 1 = z + bits o by lia, Nat.pow_add]; exact Nat.mul_lt_mul_of_pos_left x1 (Nat.two_pow_pos _)
  have e0 : (p : Int) - (Builtin.Int.intBits (2 * b + 1) : Int) = z := by rw [ho, intBits_nat]; lia
  with_reducible refine' EX.assign (EV.of (EV.bin (EV.name m0) (EV.call m3 (EVs.cons (EV.attr (EV.name m1) (AttrOk.of F.Real F.Real_mantissa) f_Real_mantissa) EVs.nil) (size_of_gf F ..) (by decide)) BinD.sub) (congrArg D.int e0)) p2 ?_
  with_reducible refine' EX.retOf (EV.tuple (EVs.cons (EV.bin (EV.blt m4 F.no_abs bt_abs (EVs.cons (EV.attr (EV.name m1) (AttrOk.of F.Real F.Real_mantissa) f_Real_mantissa) EVs.nil) BCall.abs) (EV.name m2) (BinD.shl ?_ ?_)) (EVs.cons (EV.bin (EV.attr (EV.name m1) (AttrOk.of F.Real F.Real_exponent) f_Real_exponent) (EV.name m2) BinD.sub) EVs.nil))) ?_
  · lia
  · rw [intBits_abs, ho, intBits_nat]; lia
  · rw [abs_nat, Int.toNat_natCast, Int.natAbs_of_nonneg (by lia), Int.mul_comm, ← hm, show e + (z : Int) - z = e by lia]
theorem exact_parts_gf {c : Cx} (F : Facts c) (m e : Int) (hm : m.natAbs < 2 ^ 1000) (he : e.natAbs ≤ 1000) : GF c (Str.ofString "exact_parts") 1 [RealD m e] (.tup [.int (m * 2 ^ e.toNat), .int (2 ^ (-e).toNat)]) := by
  refine ⟨_, F.exact_parts.name, F.exact_parts.keep, ?_⟩
  refine FN.of F.exact_parts.fn (okSt 15 (by decide)) rfl (by dsimp only [initEnv, List.cons_append, List.nil_append, List.append_nil]) rfl ?_
  have hb := bits_small hm
  have b1 := intBits_one
  rcases Int.lt_or_le e 0 with h | h
  · with_reducible refine' EX.iteF (TR.of (TR.cmp (EV.attr (EV.name m0) (AttrOk.of F.Real F.Real_exponent) f_Real_exponent) EV.int CmpD.ge) (decide_eq_false (by lia))) ?_
    refine EX.pop ?_
    with_reducible refine' EX.retOf (EV.tuple (EVs.cons (EV.attr (EV.name m0) (AttrOk.of F.Real F.Real_mantissa) f_Real_mantissa) (EVs.cons (EV.bin EV.int (EV.bin EV.int (EV.attr (EV.name m0) (AttrOk.of F.Real F.Real_exponent) f_Real_exponent) BinD.sub) (BinD.shl ?_ ?_)) EVs.nil))) ?_
    · lia
    · rw [b1]; lia
    · rw [show e.toNat = 0 by lia, Int.pow_zero, Int.mul_one, Int.one_mul, Int.zero_sub]
  · with_reducible refine' EX.iteT (TR.of (TR.cmp (EV.attr (EV.name m0) (AttrOk.of F.Real F.Real_exponent) f_Real_exponent) EV.int CmpD.ge) (decide_eq_true h)) ?_
    with_reducible refine' EX.retOf (EV.tuple (EVs.cons (EV.bin (EV.attr (EV.name m0) (AttrOk.of F.Real F.Real_mantissa) f_Real_mantissa) (EV.attr (EV.name m0) (AttrOk.of F.Real F.Real_exponent) f_Real_exponent) (BinD.shl ?_ ?_)) (EVs.cons EV.int EVs.nil))) ?_
    · exact h
    · lia
    · rw [show (-e).toNat = 0 by lia, Int.pow_zero]
theorem gcd_of_gf {c : Cx} (F : Facts c) (t b : Int) : GF c (Str.ofString "gcd_of") 1 [.int t, .int b] (.int (Nat.gcd t.natAbs b.natAbs)) := by
  refine ⟨_, F.gcd_of.name, F.gcd_of.keep, ?_⟩
  refine FN.of F.gcd_of.fn (okSt 22 (by decide)) rfl (by dsimp only [initEnv, List.cons_append, List.nil_append, List.append_nil]) rfl ?_
  with_reducible refine' EX.swap2 (EVs.cons (EV.of (EV.blt m2 F.no_abs bt_abs (EVs.cons (EV.name m0) EVs.nil) BCall.abs) (congrArg D.int (abs_nat t))) (EVs.cons (EV.of (EV.blt m2 F.no_abs bt_abs (EVs.cons (EV.name m1) EVs.nil) BCall.abs) (congrArg D.int (abs_nat b))) EVs.nil)) m0 m1 p1 p0 ?_
  with_reducible refine' EX.while_ ?_
  generalize t.natAbs = x
  generalize b.natAbs = y
  induction y using Nat.strongRecOn generalizing x with
  | ind y ih =>
    rcases Nat.eq_zero_or_pos y with h | h
    · subst h
      with_reducible refine' WL.stop (TR.cmp (EV.name m1) EV.int CmpD.ne) ?_
      with_reducible refine' EX.retOf (EV.name m0) ?_
      rw [Nat.gcd_zero_right]
    · have hy : ((y : Int) = 0) = False := eq_false (by lia)
      with_reducible refine' WL.go (TR.of (TR.cmp (EV.name m1) EV.int CmpD.ne) (by simp only [hy, decide_false, Bool.not_false])) (EX.swap2 (EVs.cons (EV.name m1) (EVs.cons (EV.of (EV.bin (EV.name m0) (EV.name m1) (BinD.fmod ?_)) (congrArg D.int (fmod_nat x y))) EVs.nil)) m0 m1 p1 p0 EX.nil) ?_
      · lia
      · rw [show Nat.gcd x y = Nat.gcd y (x % y) by rw [Nat.gcd_comm x y, Nat.gcd_rec y x, Nat.gcd_comm]]
        with_reducible exact ih (x % y) (Nat.mod_lt _ h) y
theorem made_gf {c : Cx} (F : Facts c) (t b : Int) : GF c (Str.ofString "made") 3 [.int t, .int b] (if b = 1 then .int t else RatioD t b) := by
  refine ⟨_, F.made.name, F.made.keep, ?_⟩
  refine FN.of F.made.fn (okSt 23 (by decide)) rfl (by dsimp only [initEnv, List.cons_append, List.nil_append, List.append_nil]) rfl ?_
  with_reducible refine' EX.retOf (EV.ite (TR.cmp (EV.name m1) EV.int CmpD.eq) (fun h => (EV.name m0)) (fun h => (EV.call m2 (EVs.cons (EV.name m0) (EVs.cons (EV.name m1) EVs.nil)) (Ratio_gf F ..) (by decide)))) ?_
  by_cases h : b = 1
  · rw [if_pos h, if_pos (decide_eq_true h)]
  · rw [if_neg h, if_neg (by rw [decide_eq_false h]; decide)]
/-- a ratio in lowest terms already -/
theorem ratio_of_gf {c : Cx} (F : Facts c) (t : Int) (b : Nat) (hb : 0 < b) (hg : Nat.gcd t.natAbs b = 1) : GF c (Str.ofString "ratio_of") 4 [.int t, .int b] (if (b : Int) = 1 then .int t else RatioD t b) := by
  refine ⟨_, F.ratio_of.name, F.ratio_of.keep, ?_⟩
  refine FN.of F.ratio_of.fn (okSt 24 (by decide)) rfl (by dsimp only [initEnv, List.cons_append, List.nil_append, List.append_nil]) rfl ?_
  with_reducible refine' EX.iteF (TR.of (TR.cmp (EV.name m1) EV.int CmpD.lt) (decide_eq_false (by lia))) ?_
  refine EX.pop ?_
  have e1 : ((Nat.gcd t.natAbs (b : Int).natAbs : Nat) : Int) = 1 := by rw [Int.natAbs_natCast, hg]; rfl
  have n1 : Builtin.divisionGoesByPylong t 1 = false := nopy (y := 1) (by decide) t
  have n2 : Builtin.divisionGoesByPylong (b : Int) 1 = false := nopy (y := 1) (by decide) _
  with_reducible refine' EX.assign (EV.of (EV.call m3 (EVs.cons (EV.name m0) (EVs.cons (EV.name m1) EVs.nil)) (gcd_of_gf F ..) (by decide)) (congrArg D.int e1)) p2 ?_
  with_reducible exact EX.ret (EV.call m4 (EVs.cons (EV.of (EV.bin (EV.name m0) (EV.name m2) (BinD.fdiv (by decide) n1)) (congrArg D.int (Int.fdiv_one t))) (EVs.cons (EV.of (EV.bin (EV.name m1) (EV.name m2) (BinD.fdiv (by decide) n2)) (congrArg D.int (Int.fdiv_one _))) EVs.nil)) (made_gf F ..) (by decide))
end Mine
end
section
-- W4
open PySem PySem.W PyProof.Rows
set_option Elab.async false
set_option linter.all false
set_option maxRecDepth 100000
namespace Mine
noncomputable def oT (u q : Nat) (P : Int) : Nat := q * 2 ^ u * 10 ^ (-P).toNat
noncomputable def oB (w : Nat) (P : Int) : Nat := 2 ^ w * 10 ^ P.toNat
noncomputable abbrev SurD (h l g : Nat) (x : Bool) (u w : Nat) : D := .obj 288 [Str.ofString "here", Str.ofString "low", Str.ofString "high", Str.ofString "has_ends", Str.ofString "top", Str.ofString "bottom"] [.int h, .int l, .int g, .bool x, .int ((2 ^ u : Nat) : Int), .int ((2 ^ w : Nat) : Int)]
noncomputable def leastN (x : Bool) (T B : Nat) : Nat := if T % B = 0 ∧ x = true then T / B else T / B + 1
noncomputable def greatN (x : Bool) (T B : Nat) : Nat := if 0 < T % B ∨ x = true then T / B else T / B - 1
theorem ten_le (n : Nat) : 10 ^ n ≤ 2 ^ (4 * n) := by rw [Nat.pow_mul]; exact Nat.pow_le_pow_left (by decide) n
theorem ten_bits {n : Nat} (h : n ≤ 250) : 10 ^ n < 2 ^ 1001 := Nat.lt_of_le_of_lt (ten_le n) (Nat.pow_lt_pow_right (by decide) (by lia))
theorem mul_pow {a b i j : Nat} (h1 : a < 2 ^ i) (h2 : b < 2 ^ j) : a * b < 2 ^ (i + j) := by rw [Nat.pow_add]; exact Nat.mul_lt_mul'' h1 h2
theorem pow_lt {n i : Nat} (h : n < i) : 2 ^ n < 2 ^ i := Nat.pow_lt_pow_right (by decide) h
set_option exponentiation.threshold 2000
theorem oT_lt {u q : Nat} {P : Int} (hq : q < 2 ^ 100) (hu : u ≤ 250) (hP : P.natAbs ≤ 250) : oT u q P < 2 ^ 1400 :=
  Nat.lt_of_lt_of_le (mul_pow (mul_pow hq (pow_lt (i := 251) (by lia))) (ten_bits (by lia))) (Nat.pow_le_pow_right (by decide) (by decide))
theorem oB_lt {w : Nat} {P : Int} (hw : w ≤ 250) (hP : P.natAbs ≤ 250) : oB w P < 2 ^ 1300 :=
  Nat.lt_of_lt_of_le (mul_pow (pow_lt (i := 251) (by lia)) (ten_bits (n := P.toNat) (by lia))) (Nat.pow_le_pow_right (by decide) (by decide))
theorem oB_pos (w : Nat) (P : Int) : 0 < oB w P := Nat.mul_pos (Nat.two_pow_pos w) (Nat.pow_pos (by decide))
theorem natMul {a b i j : Nat} (h1 : a < 2 ^ i) (h2 : b < 2 ^ j) (h : i + j ≤ 134217728) : IntMulOk (a : Int) (b : Int) := IntMulOk.of_le (bits_small (by rw [Int.natAbs_natCast]; exact h1)) (bits_small (by rw [Int.natAbs_natCast]; exact h2)) h
theorem ten_cast (g : Nat) : (10 : Int) ^ g = ((10 ^ g : Nat) : Int) := by rw [Int.natCast_pow]; rfl
theorem bits_ten : Builtin.Int.intBits 10 = 4 := by decide +kernel
theorem Surroundings_over_power_fn {c : Cx} (F : Facts c) (h l g : Nat) (x : Bool) (u w : Nat) (q : Nat) (P : Int) (hq : q < 2 ^ 100) (hu : u ≤ 250) (hw : w ≤ 250) (hP : P.natAbs ≤ 250) : FN c 1 (.ref 257) [SurD h l g x u w, .int q, .int P] (.tup [.int (oT u q P), .int (oB w P)]) := by
  refine FN.of F.Surroundings_over_power.fn (okMe 35 1 (by decide) (by decide)) rfl (by dsimp only [initEnv, List.cons_append, List.nil_append, List.append_nil]) rfl ?_
  have b10 := bits_ten
  have hu2 : 2 ^ u < 2 ^ 251 := pow_lt (by lia)
  have hw2 : 2 ^ w < 2 ^ 251 := pow_lt (by lia)
  have hqu : q * 2 ^ u < 2 ^ (100 + 251) := mul_pow hq hu2
  rcases Int.lt_or_le P 0 with h0 | h0
  · with_reducible refine' EX.iteF (TR.of (TR.cmp (EV.name m2) EV.int CmpD.ge) (decide_eq_false (by lia))) ?_
    refine EX.pop ?_
    with_reducible refine' EX.retOf (EV.tuple (EVs.cons (EV.bin (EV.of (EV.bin (EV.name m1) (EV.attr (EV.name m0) (AttrOk.of F.Surroundings F.Surroundings_top) f_Surroundings_top) (BinD.mul ?_)) (congrArg D.int (Int.natCast_mul q (2 ^ u)).symm)) (EV.of (EV.bin EV.int (EV.bin EV.int (EV.name m2) BinD.sub) (BinD.pow ?_ ?_)) (congrArg D.int (ten_cast _))) (BinD.mul ?_)) (EVs.cons (EV.attr (EV.name m0) (AttrOk.of F.Surroundings F.Surroundings_bottom) f_Surroundings_bottom) EVs.nil))) ?_
    · exact natMul hq hu2 (by decide)
    · lia
    · rw [b10]; lia
    · exact natMul hqu (ten_bits (n := (0 - P).toNat) (by lia)) (by decide)
    · rw [← Int.natCast_mul, Int.zero_sub]
      unfold oT oB
      rw [show P.toNat = 0 by lia, Nat.pow_zero, Nat.mul_one]
  · with_reducible refine' EX.iteT (TR.of (TR.cmp (EV.name m2) EV.int CmpD.ge) (decide_eq_true h0)) ?_
    with_reducible refine' EX.retOf (EV.tuple (EVs.cons (EV.bin (EV.name m1) (EV.attr (EV.name m0) (AttrOk.of F.Surroundings F.Surroundings_top) f_Surroundings_top) (BinD.mul ?_)) (EVs.cons (EV.bin (EV.attr (EV.name m0) (AttrOk.of F.Surroundings F.Surroundings_bottom) f_Surroundings_bottom) (EV.of (EV.bin EV.int (EV.name m2) (BinD.pow ?_ ?_)) (congrArg D.int (ten_cast _))) (BinD.mul ?_)) EVs.nil))) ?_
    · exact natMul hq hu2 (by decide)
    · exact h0
    · rw [b10]; lia
    · exact natMul hw2 (ten_bits (n := P.toNat) (by lia)) (by decide)
    · rw [← Int.natCast_mul, ← Int.natCast_mul]
      unfold oT oB
      rw [show (-P).toNat = 0 by lia, Nat.pow_zero, Nat.mul_one]
theorem nat0 {n : Nat} : decide ((n : Int) = 0) = decide (n = 0) := by
  by_cases h : n = 0
  · rw [decide_eq_true h, decide_eq_true (by lia)]
  · rw [decide_eq_false h, decide_eq_false (by lia)]
theorem nopyN {y n : Nat} (h : y < 2 ^ n) (hn : n < 8000) (x : Int) : Builtin.divisionGoesByPylong x (y : Int) = false := nopy (Nat.lt_of_le_of_lt (bits_le_of h) hn) x
theorem pos0 {n : Nat} : decide ((0 : Int) < (n : Int)) = decide (0 < n) := by
  by_cases h : 0 < n
  · rw [decide_eq_true h, decide_eq_true (by lia)]
  · rw [decide_eq_false h, decide_eq_false (by lia)]
theorem dst_abs (a b : Nat) : (if (a : Int) - b < 0 then -((a : Int) - b) else (a : Int) - b) = (dst a b : Nat) := by
  rcases dst_spec a b with ⟨h, h'⟩ | ⟨h, h'⟩
  · generalize dst a b = d at *
    split <;> lia
  · generalize dst a b = d at *
    split <;> lia
section
variable {c : Cx} (F : Facts c) (h l g : Nat) (x : Bool) (u w : Nat) (P : Int) (hu : u ≤ 250) (hw : w ≤ 250) (hP : P.natAbs ≤ 250)
include F hu hw hP
theorem Surroundings_least_multiple_fn (hq : l < 2 ^ 100) : FN c 2 (.ref 264) [SurD h l g x u w, .int P] (.int (leastN x (oT u l P) (oB w P))) := by
  refine FN.of F.Surroundings_least_multiple.fn (okMe 35 2 (by decide) (by decide)) rfl (by dsimp only [initEnv, List.cons_append, List.nil_append, List.append_nil]) rfl ?_
  have hB := oB_pos w P
  with_reducible refine' EX.assign2 (EV.meth (EV.name m0) (MethOk.of F.Surroundings F.Surroundings_over_power) n_Surroundings_over_power (EVs.cons (EV.attr (EV.name m0) (AttrOk.of F.Surroundings F.Surroundings_low) f_Surroundings_low) (EVs.cons (EV.name m1) EVs.nil)) (Surroundings_over_power_fn F _ _ _ _ _ _ _ _ hq hu hw hP) (by decide)) p2 p3 ?_
  with_reducible refine' EX.assign2 (EV.of (EV.blt m6 F.no_divmod bt_divmod (EVs.cons (EV.name m2) (EVs.cons (EV.name m3) EVs.nil)) (BCall.divmod ?_ ?_)) (by rw [fdiv_nat, fmod_nat])) p4 p5 ?_
  · lia
  · exact nopyN (oB_lt hw hP) (by decide) _
  with_reducible refine' EX.retOf (EV.iteI (TR.and (TR.of (TR.cmp (EV.name m5) EV.int CmpD.eq) nat0) (fun h => (TR.and (TR.plain (EV.attr (EV.name m0) (AttrOk.of F.Surroundings F.Surroundings_has_ends) f_Surroundings_has_ends)) (fun h => TR.and_nil)))) (fun h => (EV.name m4)) (fun h => (EV.bin (EV.name m4) EV.int BinD.add))) ?_
  unfold leastN
  by_cases h1 : oT u l P % oB w P = 0 <;> cases x <;> simp [h1]
theorem Surroundings_greatest_multiple_fn (hq : g < 2 ^ 100) (hg : 0 < g) : FN c 2 (.ref 271) [SurD h l g x u w, .int P] (.int (greatN x (oT u g P) (oB w P))) := by
  refine FN.of F.Surroundings_greatest_multiple.fn (okMe 35 3 (by decide) (by decide)) rfl (by dsimp only [initEnv, List.cons_append, List.nil_append, List.append_nil]) rfl ?_
  have hB := oB_pos w P
  with_reducible refine' EX.assign2 (EV.meth (EV.name m0) (MethOk.of F.Surroundings F.Surroundings_over_power) n_Surroundings_over_power (EVs.cons (EV.attr (EV.name m0) (AttrOk.of F.Surroundings F.Surroundings_high) f_Surroundings_high) (EVs.cons (EV.name m1) EVs.nil)) (Surroundings_over_power_fn F _ _ _ _ _ _ _ _ hq hu hw hP) (by decide)) p2 p3 ?_
  with_reducible refine' EX.assign2 (EV.of (EV.blt m6 F.no_divmod bt_divmod (EVs.cons (EV.name m2) (EVs.cons (EV.name m3) EVs.nil)) (BCall.divmod ?_ ?_)) (by rw [fdiv_nat, fmod_nat])) p4 p5 ?_
  · lia
  · exact nopyN (oB_lt hw hP) (by decide) _
  with_reducible refine' EX.retOf (EV.iteI (TR.or (TR.of (TR.cmp (EV.name m5) EV.int CmpD.gt) pos0) (fun h => (TR.or (TR.plain (EV.attr (EV.name m0) (AttrOk.of F.Surroundings F.Surroundings_has_ends) f_Surroundings_has_ends)) (fun h => TR.or_nil)))) (fun h => (EV.name m4)) (fun h => (EV.bin (EV.name m4) EV.int BinD.sub))) ?_
  have hT : 0 < oT u g P := Nat.mul_pos (Nat.mul_pos hg (Nat.two_pow_pos u)) (Nat.pow_pos (by decide))
  have h3 := Nat.div_add_mod (oT u g P) (oB w P)
  unfold greatN
  by_cases h1 : 0 < oT u g P % oB w P
  · simp [h1]
  · have h4 : 0 < oT u g P / oB w P := by
      rcases Nat.eq_zero_or_pos (oT u g P / oB w P) with h5 | h5
      · rw [h5, Nat.mul_zero] at h3; lia
      · exact h5
    cases x
    · simp [h1]; lia
    · simp [h1]
theorem Surroundings_gap_fn (n : Nat) (hn : n < 2 ^ 1500) (hq : h < 2 ^ 100) : FN c 2 (.ref 278) [SurD h l g x u w, .int n, .int P] (.tup [.int (dst (n * oB w P) (oT u h P)), .int (oB w P)]) := by
  refine FN.of F.Surroundings_gap.fn (okMe 35 4 (by decide) (by decide)) rfl (by dsimp only [initEnv, List.cons_append, List.nil_append, List.append_nil]) rfl ?_
  with_reducible refine' EX.assign2 (EV.meth (EV.name m0) (MethOk.of F.Surroundings F.Surroundings_over_power) n_Surroundings_over_power (EVs.cons (EV.attr (EV.name m0) (AttrOk.of F.Surroundings F.Surroundings_here) f_Surroundings_here) (EVs.cons (EV.name m2) EVs.nil)) (Surroundings_over_power_fn F _ _ _ _ _ _ _ _ hq hu hw hP) (by decide)) p3 p4 ?_
  with_reducible refine' EX.retOf (EV.tuple (EVs.cons (EV.blt m5 F.no_abs bt_abs (EVs.cons (EV.bin (EV.of (EV.bin (EV.name m1) (EV.name m4) (BinD.mul ?_)) (congrArg D.int (Int.natCast_mul n _).symm)) (EV.name m3) BinD.sub) EVs.nil) BCall.abs) (EVs.cons (EV.name m4) EVs.nil))) ?_
  · exact natMul hn (oB_lt hw hP) (by decide)
  · rw [dst_abs]
theorem Surroundings_nearest_multiple_fn (hq : h < 2 ^ 100) : FN c 2 (.ref 285) [SurD h l g x u w, .int P] (.int (nearQ (oT u h P) (oB w P))) := by
  refine FN.of F.Surroundings_nearest_multiple.fn (okMe 35 5 (by decide) (by decide)) rfl (by dsimp only [initEnv, List.cons_append, List.nil_append, List.append_nil]) rfl ?_
  have hB := oB_pos w P
  have hBl := oB_lt hw hP
  with_reducible refine' EX.assign2 (EV.meth (EV.name m0) (MethOk.of F.Surroundings F.Surroundings_over_power) n_Surroundings_over_power (EVs.cons (EV.attr (EV.name m0) (AttrOk.of F.Surroundings F.Surroundings_here) f_Surroundings_here) (EVs.cons (EV.name m1) EVs.nil)) (Surroundings_over_power_fn F _ _ _ _ _ _ _ _ hq hu hw hP) (by decide)) p2 p3 ?_
  with_reducible refine' EX.assign2 (EV.of (EV.blt m6 F.no_divmod bt_divmod (EVs.cons (EV.name m2) (EVs.cons (EV.name m3) EVs.nil)) (BCall.divmod ?_ ?_)) (by rw [fdiv_nat, fmod_nat])) p4 p5 ?_
  · lia
  · exact nopyN hBl (by decide) _
  have hr : oT u h P % oB w P < 2 ^ 1300 := Nat.lt_trans (Nat.mod_lt _ hB) hBl
  have key : (decide ((oB w P : Int) < 2 * ((oT u h P % oB w P : Nat) : Int)) || (decide (2 * ((oT u h P % oB w P : Nat) : Int) = (oB w P : Int)) && (decide (((oT u h P / oB w P : Nat) : Int).fmod 2 = 1) && true) || false)) = decide (2 * (oT u h P % oB w P) > oB w P ∨ (2 * (oT u h P % oB w P) = oB w P ∧ oT u h P / oB w P % 2 = 1)) := by
    have e := fmod_nat (oT u h P / oB w P) 2
    rw [show ((2 : Nat) : Int) = 2 from rfl] at e
    rw [e, Bool.eq_iff_iff]
    simp only [Bool.or_eq_true, Bool.and_eq_true, decide_eq_true_eq, Bool.or_false, Bool.and_true]
    clear e hr hBl hB
    generalize oT u h P / oB w P % 2 = q
    generalize oT u h P % oB w P = r
    generalize oB w P = B
    lia
  with_reducible refine' EX.ite (TR.of (TR.or (TR.cmp (EV.bin EV.int (EV.name m5) (BinD.mul ?_)) (EV.name m3) CmpD.gt) (fun h => (TR.or (TR.and (TR.cmp (EV.bin EV.int (EV.name m5) (BinD.mul ?_)) (EV.name m3) CmpD.eq) (fun h => (TR.and (TR.cmp (EV.bin (EV.name m4) EV.int (BinD.fmod ?_)) EV.int CmpD.eq) (fun h => TR.and_nil)))) (fun h => TR.or_nil)))) key) (fun hh => ?_) (fun hh => ?_)
  · exact natMul (a := 2) (i := 2) (by decide) hr (by decide)
  · exact natMul (a := 2) (i := 2) (by decide) hr (by decide)
  · decide
  · with_reducible refine' EX.retOf (EV.bin (EV.name m4) EV.int BinD.add) ?_
    unfold nearQ
    rw [if_pos (of_decide_eq_true hh)]; rfl
  · refine EX.pop ?_
    with_reducible refine' EX.retOf (EV.name m4) ?_
    unfold nearQ
    rw [if_neg (of_decide_eq_false hh)]
end
end Mine
end
section
-- W5
open PySem PySem.W PyProof.Rows
set_option Elab.async false
set_option linter.all false
set_option maxRecDepth 100000
namespace Mine
theorem len2 {a b : D} : (([a, b] : List D).length : Int) < 2 ^ 63 := by show ((2 : Nat) : Int) < 2 ^ 63; decide
theorem Surroundings_gf {c : Cx} (F : Facts c) {p m z : Nat} {b : Int} {e : Int} (hp : 2 ≤ p) (hp2 : p ≤ 90) (h1 : 2 ^ (p - 1) ≤ m) (h2 : m < 2 ^ p) (hm : (m : Int) = 2 ^ z * (2 * b + 1)) (he : e.natAbs ≤ 1000) :
    GF c (Str.ofString "Surroundings") 4 [.int p, RealD (2 * b + 1) (e + z)] (SurD (4 * m) (lowQ p m) (4 * m + 2) (decide (m % 2 = 0)) (e - 2).toNat (2 - e).toNat) := by
  refine ⟨_, F.Surroundings.name, F.Surroundings.keep, FN.cls F.Surroundings.cls fun a da => ?_⟩
  refine FNM.ofI F.Surroundings_i (okMe 35 0 (by decide) (by decide)) rfl (by dsimp only [initEnv, List.cons_append, List.nil_append, List.append_nil]) rfl ?_
  have b1 := intBits_one
  have m0' : 0 < m := Nat.lt_of_lt_of_le (Nat.two_pow_pos _) h1
  have k1 : decide ((m : Int) = 1 * 2 ^ ((p : Int) - 1).toNat) = decide (m = 2 ^ (p - 1)) := by
    rw [Int.one_mul, pow2_cast, show ((p : Int) - 1).toNat = p - 1 by lia, Bool.eq_iff_iff, decide_eq_true_eq, decide_eq_true_eq]; omega
  have m99 : m < 2 ^ 99 := Nat.lt_trans h2 (Nat.pow_lt_pow_right (by decide) (by lia))
  with_reducible refine' EX.assign2 (EV.call m6 (EVs.cons (EV.name m1) (EVs.cons (EV.name m2) EVs.nil)) (full_mantissa_gf F hp (by lia) h1 h2 hm) (by decide)) p3 p4 ?_
  with_reducible refine' EX.assign (EV.of (EV.cmp (EV.name m3) (EV.bin EV.int (EV.bin (EV.name m1) EV.int BinD.sub) (BinD.shl ?_ ?_)) CmpD.eq) (congrArg D.bool k1)) p5 ?_
  · lia
  · rw [b1]; lia
  with_reducible refine' EX.setattr m0 (EV.of (EV.bin EV.int (EV.name m3) (BinD.mul ?_)) (congrArg D.int (Int.natCast_mul 4 m).symm)) (SetOk.of F.Surroundings F.Surroundings_here) (by decide) ?_
  · exact natMul (a := 4) (i := 3) (by decide) m99 (by decide)
  have k2 : ((4 * m : Nat) : Int) - (if decide (m = 2 ^ (p - 1)) = true then 1 else 2) = (lowQ p m : Nat) := by
    unfold lowQ; simp only [decide_eq_true_eq]; split <;> lia
  with_reducible refine' EX.setattr m0 (EV.of (EV.bin (EV.attrM m0 (AttrOk.of F.Surroundings F.Surroundings_here) .here) (EV.iteI (TR.plain (EV.name m5)) (fun h => EV.int) (fun h => EV.int)) BinD.sub) (congrArg D.int k2)) (SetOk.of F.Surroundings F.Surroundings_low) (by decide) ?_
  with_reducible refine' EX.setattr m0 (EV.of (EV.bin (EV.attrM m0 (AttrOk.of F.Surroundings F.Surroundings_here) .here) EV.int BinD.add) (congrArg D.int (Int.natCast_add (4 * m) 2).symm)) (SetOk.of F.Surroundings F.Surroundings_high) (by decide) ?_
  have k3 : decide ((m : Int).fmod 2 = 0) = decide (m % 2 = 0) := by
    have e := fmod_nat m 2
    rw [show ((2 : Nat) : Int) = 2 from rfl] at e
    rw [e, nat0]
  with_reducible refine' EX.setattr m0 (EV.of (EV.cmp (EV.bin (EV.name m3) EV.int (BinD.fmod ?_)) EV.int CmpD.eq) (congrArg D.bool k3)) (SetOk.of F.Surroundings F.Surroundings_has_ends) (by decide) ?_
  · decide
  rcases Int.lt_or_le e 2 with h | h
  · have e1 : 1 * 2 ^ (2 - e).toNat = (((2 ^ (2 - e).toNat : Nat)) : Int) := by rw [Int.one_mul, pow2_cast]
    have e2 : (1 : Int) = ((2 ^ (e - 2).toNat : Nat) : Int) := by rw [show (e - 2).toNat = 0 by lia]; rfl
    with_reducible refine' EX.setattr2 m0 (EV.iteF (TR.of (TR.cmp (EV.name m4) EV.int CmpD.ge) (decide_eq_false (by lia))) (EV.tuple (EVs.cons (EV.of EV.int (congrArg D.int e2)) (EVs.cons (EV.of (EV.bin EV.int (EV.bin EV.int (EV.name m4) BinD.sub) (BinD.shl ?_ ?_)) (congrArg D.int e1)) EVs.nil)))) (SetOk.of F.Surroundings F.Surroundings_top) (SetOk.of F.Surroundings F.Surroundings_bottom) (by decide) (by decide) ?_
    · lia
    · rw [b1]; lia
    · exact EX.nilW (by (with_reducible repeat' (first | exact Weak.nil | refine Weak.keep ?_ | refine Weak.drop ?_)))
  · have e1 : 1 * 2 ^ (e - 2).toNat = (((2 ^ (e - 2).toNat : Nat)) : Int) := by rw [Int.one_mul, pow2_cast]
    have e2 : (1 : Int) = ((2 ^ (2 - e).toNat : Nat) : Int) := by rw [show (2 - e).toNat = 0 by lia]; rfl
    with_reducible refine' EX.setattr2 m0 (EV.iteT (TR.of (TR.cmp (EV.name m4) EV.int CmpD.ge) (decide_eq_true h)) (EV.tuple (EVs.cons (EV.of (EV.bin EV.int (EV.bin (EV.name m4) EV.int BinD.sub) (BinD.shl ?_ ?_)) (congrArg D.int e1)) (EVs.cons (EV.of EV.int (congrArg D.int e2)) EVs.nil)))) (SetOk.of F.Surroundings F.Surroundings_top) (SetOk.of F.Surroundings F.Surroundings_bottom) (by decide) (by decide) ?_
    · lia
    · rw [b1]; lia
    · exact EX.nilW (by (with_reducible repeat' (first | exact Weak.nil | refine Weak.keep ?_ | refine Weak.drop ?_)))
theorem min_nat (a b : Nat) : (if (b : Int) < a then (b : Int) else a) = ((min a b : Nat) : Int) := by split <;> lia
theorem max_nat (a b : Nat) : (if (b : Int) > a then (b : Int) else a) = ((max a b : Nat) : Int) := by split <;> lia
/-- what with_lower_ones answers -/
noncomputable def lowerC (near B1 B0 T1 T0 L G f : Nat) (P : Int) : Nat × Int :=
  if G < L then (f, P) else if dst (min (max near L) G * B1) T1 * B0 < 10 * dst (f * B0) T0 * B1 ∨ (dst (min (max near L) G * B1) T1 * B0 = 10 * dst (f * B0) T0 * B1 ∧ f % 2 = 1 ∧ min (max near L) G % 2 = 0) then (min (max near L) G, P - 1) else (f, P)
noncomputable def lowerR (h l g : Nat) (x : Bool) (u w f : Nat) (P : Int) : Nat × Int :=
  lowerC (nearQ (oT u h (P - 1)) (oB w (P - 1))) (oB w (P - 1)) (oB w P) (oT u h (P - 1)) (oT u h P) (leastN x (oT u l (P - 1)) (oB w (P - 1))) (min (greatN x (oT u g (P - 1)) (oB w (P - 1))) 9) f P
theorem dst_lt {a b n : Nat} (h1 : a < 2 ^ n) (h2 : b < 2 ^ n) : dst a b < 2 ^ n := by
  rcases dst_spec a b with ⟨_, h⟩ | ⟨_, h⟩
  · exact Nat.lt_of_le_of_lt (Nat.le_trans (Nat.le_add_right _ _) (Nat.le_of_eq h)) h2
  · exact Nat.lt_of_le_of_lt (Nat.le_trans (Nat.le_add_right _ _) (Nat.le_of_eq h)) h1
theorem with_lower_ones_gf {c : Cx} (F : Facts c) (h l g : Nat) (x : Bool) (u w : Nat) (f : Nat) (P : Int) (hu : u ≤ 250) (hw : w ≤ 250) (hP : P.natAbs ≤ 249) (hf : f < 2 ^ 1500) (hh : h < 2 ^ 100) (hl : l < 2 ^ 100) (hg : g < 2 ^ 100) (hg0 : 0 < g) :
    GF c (Str.ofString "with_lower_ones") 3 [SurD h l g x u w, .int f, .int P] (.tup [.int (lowerR h l g x u w f P).1, .int (lowerR h l g x u w f P).2]) := by
  refine ⟨_, F.with_lower_ones.name, F.with_lower_ones.keep, ?_⟩
  refine FN.of F.with_lower_ones.fn (okSt 36 (by decide)) rfl (by dsimp only [initEnv, List.cons_append, List.nil_append, List.append_nil]) rfl ?_
  have hP1 : (P - 1).natAbs ≤ 250 := by lia
  have hP0 : P.natAbs ≤ 250 := by lia
  with_reducible refine' EX.swap2 (EVs.cons (EV.meth (EV.name m0) (MethOk.of F.Surroundings F.Surroundings_least_multiple) n_Surroundings_least_multiple (EVs.cons (EV.bin (EV.name m2) EV.int BinD.sub) EVs.nil) (Surroundings_least_multiple_fn F h l g x u w _ hu hw hP1 hl) (by decide)) (EVs.cons (EV.of (EV.blt m10 F.no_min bt_min (EVs.cons (EV.meth (EV.name m0) (MethOk.of F.Surroundings F.Surroundings_greatest_multiple) n_Surroundings_greatest_multiple (EVs.cons (EV.bin (EV.name m2) EV.int BinD.sub) EVs.nil) (Surroundings_greatest_multiple_fn F h l g x u w _ hu hw hP1 hg hg0) (by decide)) (EVs.cons EV.int EVs.nil)) BCall.min) (congrArg D.int (min_nat _ 9))) EVs.nil)) m3 m4 p4 p3 ?_
  unfold lowerR
  generalize hL : leastN x (oT u l (P - 1)) (oB w (P - 1)) = L
  generalize hG : min (greatN x (oT u g (P - 1)) (oB w (P - 1))) 9 = G
  rcases Nat.lt_or_ge G L with q | q
  · with_reducible refine' EX.iteT (TR.of (TR.cmp (EV.name m4) (EV.name m3) CmpD.lt) (decide_eq_true (by lia))) ?_
    with_reducible refine' EX.retOf (EV.tuple (EVs.cons (EV.name m1) (EVs.cons (EV.name m2) EVs.nil))) ?_
    unfold lowerC
    simp only [if_pos q]
  · with_reducible refine' EX.iteF (TR.of (TR.cmp (EV.name m4) (EV.name m3) CmpD.lt) (decide_eq_false (by lia))) ?_
    refine EX.pop ?_
    unfold lowerC
    simp only [if_neg (Nat.not_lt.mpr q)]
    with_reducible refine' EX.assign (EV.of (EV.blt m10 F.no_min bt_min (EVs.cons (EV.of (EV.blt m11 F.no_max bt_max (EVs.cons (EV.meth (EV.name m0) (MethOk.of F.Surroundings F.Surroundings_nearest_multiple) n_Surroundings_nearest_multiple (EVs.cons (EV.bin (EV.name m2) EV.int BinD.sub) EVs.nil) (Surroundings_nearest_multiple_fn F h l g x u w _ hu hw hP1 hh) (by decide)) (EVs.cons (EV.name m3) EVs.nil)) BCall.max) (congrArg D.int (max_nat _ _))) (EVs.cons (EV.name m4) EVs.nil)) BCall.min) (congrArg D.int (min_nat _ _))) p5 ?_
    generalize ho : min (max (nearQ (oT u h (P - 1)) (oB w (P - 1))) L) G = o
    have o9 : o ≤ 9 := by lia
    have oS : o < 2 ^ 5 := by lia
    have B1 := oB_lt (P := P - 1) hw hP1
    have B0 := oB_lt (P := P) hw hP0
    have T1 := oT_lt (P := P - 1) hh hu hP1
    have T0 := oT_lt (P := P) hh hu hP0
    with_reducible refine' EX.swap2 (EVs.cons (EV.meth (EV.name m0) (MethOk.of F.Surroundings F.Surroundings_gap) n_Surroundings_gap (EVs.cons (EV.name m1) (EVs.cons (EV.name m2) EVs.nil)) (Surroundings_gap_fn F h l g x u w _ hu hw hP0 f hf hh) (by decide)) (EVs.cons (EV.meth (EV.name m0) (MethOk.of F.Surroundings F.Surroundings_gap) n_Surroundings_gap (EVs.cons (EV.name m5) (EVs.cons (EV.bin (EV.name m2) EV.int BinD.sub) EVs.nil)) (Surroundings_gap_fn F h l g x u w _ hu hw hP1 o (Nat.lt_trans oS (pow_lt (by decide))) hh) (by decide)) EVs.nil)) m6 m7 p7 p6 ?_
    have d0 : dst (f * oB w P) (oT u h P) < 2 ^ 2800 := dst_lt (mul_pow hf B0) (Nat.lt_trans T0 (pow_lt (by decide)))
    have d1 : dst (o * oB w (P - 1)) (oT u h (P - 1)) < 2 ^ 1400 := dst_lt (Nat.lt_trans (mul_pow oS B1) (pow_lt (by decide))) T1
    generalize hd0 : dst (f * oB w P) (oT u h P) = D0 at d0
    generalize hd1 : dst (o * oB w (P - 1)) (oT u h (P - 1)) = D1 at d1
    generalize oB w (P - 1) = B at B1
    generalize oB w P = B' at B0
    with_reducible refine' EX.swap2 (EVs.cons (EV.of (EV.bin (EV.of (EV.bin EV.int (EV.subT (EV.name m6) EV.int rfl (by decide) len2) (BinD.mul ?_)) (congrArg D.int (Int.natCast_mul 10 D0).symm)) (EV.subT (EV.name m7) EV.int rfl (by decide) len2) (BinD.mul ?_)) (congrArg D.int (Int.natCast_mul _ _).symm)) (EVs.cons (EV.of (EV.bin (EV.subT (EV.name m7) EV.int rfl (by decide) len2) (EV.subT (EV.name m6) EV.int rfl (by decide) len2) (BinD.mul ?_)) (congrArg D.int (Int.natCast_mul _ _).symm)) EVs.nil)) m8 m9 p9 p8 ?_
    · exact natMul (a := 10) (i := 4) (by decide) d0 (by decide)
    · exact natMul (mul_pow (a := 10) (i := 4) (by decide) d0) B1 (by decide)
    · exact natMul d1 B0 (by decide)
    have key : (decide (((D1 * B' : Nat) : Int) < ((10 * D0 * B : Nat) : Int)) || (decide (((D1 * B' : Nat) : Int) = ((10 * D0 * B : Nat) : Int)) && (decide ((f : Int).fmod 2 = 1) && (decide ((o : Int).fmod 2 = 0) && true)) || false)) = decide (D1 * B' < 10 * D0 * B ∨ (D1 * B' = 10 * D0 * B ∧ f % 2 = 1 ∧ o % 2 = 0)) := by
      have e := fmod_nat f 2
      have e' := fmod_nat o 2
      rw [show ((2 : Nat) : Int) = 2 from rfl] at e e'
      rw [e, e', Bool.eq_iff_iff]
      generalize D1 * B' = X
      generalize 10 * D0 * B = Y
      simp only [Bool.or_eq_true, Bool.and_eq_true, decide_eq_true_eq, Bool.or_false, Bool.and_true]
      lia
    with_reducible refine' EX.ite (TR.of (TR.or (TR.cmp (EV.name m9) (EV.name m8) CmpD.lt) (fun h => (TR.or (TR.and (TR.cmp (EV.name m9) (EV.name m8) CmpD.eq) (fun h => (TR.and (TR.cmp (EV.bin (EV.name m1) EV.int (BinD.fmod ?_)) EV.int CmpD.eq) (fun h => (TR.and (TR.cmp (EV.bin (EV.name m5) EV.int (BinD.fmod ?_)) EV.int CmpD.eq) (fun h => TR.and_nil)))))) (fun h => TR.or_nil)))) key) (fun hh => ?_) (fun hh => ?_)
    · decide
    · decide
    · with_reducible refine' EX.retOf (EV.tuple (EVs.cons (EV.name m5) (EVs.cons (EV.bin (EV.name m2) EV.int BinD.sub) EVs.nil))) ?_
      rw [if_pos (of_decide_eq_true hh)]
    · refine EX.pop ?_
      with_reducible refine' EX.retOf (EV.tuple (EVs.cons (EV.name m1) (EVs.cons (EV.name m2) EVs.nil))) ?_
      rw [if_neg (of_decide_eq_false hh)]
end Mine
end
section
-- W6
open PySem PySem.W PyProof.Rows
set_option Elab.async false
set_option linter.all false
set_option maxRecDepth 100000
namespace Mine
theorem odd_bits {p m z : Nat} {b : Int} (hp : 2 ≤ p) (h1 : 2 ^ (p - 1) ≤ m) (h2 : m < 2 ^ p) (hm : (m : Int) = 2 ^ z * (2 * b + 1)) : (Builtin.Int.intBits (2 * b + 1) : Int) = p - z := by
  have hz : (0 : Int) < 2 ^ z := kbt_pos z
  have hb : 0 < 2 * b + 1 := by
    have h0 : 0 < (m : Int) := by have := Nat.two_pow_pos (p - 1); lia
    rw [hm] at h0
    rcases Int.lt_or_le 0 (2 * b + 1) with h | h
    · exact h
    · have := Int.mul_le_mul_of_nonneg_left h (Int.le_of_lt hz)
      lia
  obtain ⟨o, ho⟩ := Int.eq_ofNat_of_zero_le (Int.le_of_lt hb)
  have hmo : m = 2 ^ z * o := by rw [ho, pow2_cast] at hm; exact_mod_cast hm
  have ho0 : 0 < o := by lia
  have x1 := bits_lt o
  have x2 := bits_le ho0
  have x3 := bits_pos ho0
  have : bits m = (bits o - 1 + z) + 1 := bits_eq ?_ ?_
  · have h3 : bits m = (p - 1) + 1 := bits_eq h1 (by rw [Nat.sub_add_cancel (by lia)]; exact h2)
    rw [ho, intBits_nat]
    lia
  · rw [hmo, Nat.pow_add, Nat.mul_comm]; exact Nat.mul_le_mul_left _ x2
  · rw [hmo, show bits o - 1 + z + 1 = z + bits o by lia, Nat.pow_add]; exact Nat.mul_lt_mul_of_pos_left x1 (Nat.two_pow_pos _)
/-- the power to begin at -/
noncomputable def tensA (n : Int) : Int := ((n + 1) * 30103).fdiv 100000 + 2
theorem tens_above_gf {c : Cx} (F : Facts c) (m e : Int) (hn : (Builtin.Int.intBits m + e : Int).natAbs ≤ 1000) : GF c (Str.ofString "tens_above") 3 [RealD m e] (.int (tensA (Builtin.Int.intBits m + e))) := by
  refine ⟨_, F.tens_above.name, F.tens_above.keep, ?_⟩
  refine FN.of F.tens_above.fn (okSt 37 (by decide)) rfl (by dsimp only [initEnv, List.cons_append, List.nil_append, List.append_nil]) rfl ?_
  with_reducible refine' EX.assign (EV.bin (EV.call m2 (EVs.cons (EV.name m0) EVs.nil) (place_of_gf F ..) (by decide)) EV.int BinD.add) p1 ?_
  with_reducible refine' EX.retOf (EV.bin (EV.bin (EV.bin (EV.name m1) EV.int (BinD.mul ?_)) EV.int (BinD.fdiv ?_ ?_)) EV.int BinD.add) ?_
  · exact IntMulOk.of_le (m := 20) (n := 20) (bits_small (by lia)) (by decide +kernel) (by decide)
  · decide
  · exact nopyN (y := 100000) (n := 20) (by decide) (by decide) _
  · rfl
noncomputable def condS (l g : Nat) (x : Bool) (u w : Nat) (P : Int) : Prop := greatN x (oT u g P) (oB w P) < max 1 (leastN x (oT u l P) (oB w P))
/-- the figures and their power -/
noncomputable def shortR (h l g : Nat) (x : Bool) (u w : Nat) (P : Int) : Nat × Int :=
  if leastN x (oT u l P) (oB w P) = 1 then lowerR h l g x u w (min (max (nearQ (oT u h P) (oB w P)) (leastN x (oT u l P) (oB w P))) (greatN x (oT u g P) (oB w P))) P else (min (max (nearQ (oT u h P) (oB w P)) (leastN x (oT u l P) (oB w P))) (greatN x (oT u g P) (oB w P)), P)
theorem shortest_figures_gf {c : Cx} (F : Facts c) {p m z : Nat} {b : Int} {e : Int} (hp : 2 ≤ p) (hp2 : p ≤ 90) (h1 : 2 ^ (p - 1) ≤ m) (h2 : m < 2 ^ p) (hm : (m : Int) = 2 ^ z * (2 * b + 1)) (he : e.natAbs ≤ 240) (P : Int) (hP0 : (tensA (p + e)).natAbs ≤ 240) (hP : P.natAbs ≤ 240) (hle : P ≤ tensA (p + e))
    (hstop : ¬ condS (lowQ p m) (4 * m + 2) (decide (m % 2 = 0)) (e - 2).toNat (2 - e).toNat P) (hgo : ∀ Q, P < Q → Q ≤ tensA (p + e) → condS (lowQ p m) (4 * m + 2) (decide (m % 2 = 0)) (e - 2).toNat (2 - e).toNat Q) :
    GF c (Str.ofString "shortest_figures") 5 [.int p, RealD (2 * b + 1) (e + z)] (.tup [.int (shortR (4 * m) (lowQ p m) (4 * m + 2) (decide (m % 2 = 0)) (e - 2).toNat (2 - e).toNat P).1, .int (shortR (4 * m) (lowQ p m) (4 * m + 2) (decide (m % 2 = 0)) (e - 2).toNat (2 - e).toNat P).2]) := by
  refine ⟨_, F.shortest_figures.name, F.shortest_figures.keep, ?_⟩
  refine FN.of F.shortest_figures.fn (okSt 38 (by decide)) rfl (by dsimp only [initEnv, List.cons_append, List.nil_append, List.append_nil]) rfl ?_
  have ob := odd_bits hp h1 h2 hm
  have m99 : 4 * m + 2 < 2 ^ 100 := by
    have : m < 2 ^ 90 := Nat.lt_of_lt_of_le h2 (Nat.pow_le_pow_right (by decide) hp2)
    have e1 : (2 : Nat) ^ 100 = 1024 * 2 ^ 90 := by decide
    lia
  have hl : lowQ p m < 2 ^ 100 := by unfold lowQ; lia
  have hh : 4 * m < 2 ^ 100 := by lia
  have hpe : (Builtin.Int.intBits (2 * b + 1) : Int) + (e + z) = p + e := by lia
  have ht : GF c (Str.ofString "tens_above") 3 [RealD (2 * b + 1) (e + z)] (.int (tensA (p + e))) := hpe ▸ tens_above_gf F (2 * b + 1) (e + z) (by rw [hpe]; lia)
  have hu : (e - 2).toNat ≤ 250 := by lia
  have hw : (2 - e).toNat ≤ 250 := by lia
  have hg0 : 0 < 4 * m + 2 := by lia
  with_reducible refine' EX.swap2 (EVs.cons (EV.call m7 (EVs.cons (EV.name m0) (EVs.cons (EV.name m1) EVs.nil)) (Surroundings_gf F hp hp2 h1 h2 hm (by lia)) (by decide)) (EVs.cons (EV.call m8 (EVs.cons (EV.name m1) EVs.nil) ht (by decide)) EVs.nil)) m2 m3 p3 p2 ?_
  generalize (e - 2).toNat = u at *
  generalize (2 - e).toNat = w at *
  generalize (decide (m % 2 = 0)) = x at *
  generalize 4 * m + 2 = g at *
  generalize 4 * m = h at *
  generalize lowQ p m = l at *
  generalize htt : tensA (p + e) = T at *
  have e0 : (T - P).toNat = (T - P).toNat := rfl
  with_reducible refine' EX.swap2 (EVs.cons (EV.meth (EV.name m2) (MethOk.of F.Surroundings F.Surroundings_least_multiple) n_Surroundings_least_multiple (EVs.cons (EV.name m3) EVs.nil) (Surroundings_least_multiple_fn F h l g x u w _ hu hw (by lia) hl) (by decide)) (EVs.cons (EV.meth (EV.name m2) (MethOk.of F.Surroundings F.Surroundings_greatest_multiple) n_Surroundings_greatest_multiple (EVs.cons (EV.name m3) EVs.nil) (Surroundings_greatest_multiple_fn F h l g x u w _ hu hw (by lia) m99 hg0) (by decide)) EVs.nil)) m4 m5 p5 p4 ?_
  with_reducible refine' EX.while_ ?_
  clear ht htt
  generalize hk : (T - P).toNat = k
  have tst : ∀ a d : Nat, decide ((a : Int) < ((max 1 d : Nat) : Int)) = decide (a < max 1 d) := fun a d => by rw [Bool.eq_iff_iff, decide_eq_true_eq, decide_eq_true_eq]; lia
  induction k generalizing T with
  | zero =>
    have : T = P := by lia
    subst this
    with_reducible refine' WL.stop (TR.of (TR.cmp (EV.name m5) (EV.of (EV.blt m9 F.no_max bt_max (EVs.cons EV.int (EVs.cons (EV.name m4) EVs.nil)) BCall.max) (congrArg D.int (max_nat 1 _))) CmpD.lt) ((tst _ _).trans (decide_eq_false hstop))) ?_
    have hf : min (max (nearQ (oT u h T) (oB w T)) (leastN x (oT u l T) (oB w T))) (greatN x (oT u g T) (oB w T)) < 2 ^ 1500 := by
      have q1 := oT_lt (P := T) m99 hu (by lia)
      have q2 : greatN x (oT u g T) (oB w T) ≤ oT u g T := by
        have := Nat.div_le_self (oT u g T) (oB w T)
        unfold greatN; split <;> lia
      have q3 : 2 ^ 1400 < 2 ^ 1500 := pow_lt (by decide)
      lia
    have e1 : decide (((leastN x (oT u l T) (oB w T) : Nat) : Int) = 1) = decide (leastN x (oT u l T) (oB w T) = 1) := by
      rw [Bool.eq_iff_iff, decide_eq_true_eq, decide_eq_true_eq]; lia
    with_reducible refine' EX.assign (EV.of (EV.blt m10 F.no_min bt_min (EVs.cons (EV.of (EV.blt m9 F.no_max bt_max (EVs.cons (EV.meth (EV.name m2) (MethOk.of F.Surroundings F.Surroundings_nearest_multiple) n_Surroundings_nearest_multiple (EVs.cons (EV.name m3) EVs.nil) (Surroundings_nearest_multiple_fn F h l g x u w _ hu hw (by lia) hh) (by decide)) (EVs.cons (EV.name m4) EVs.nil)) BCall.max) (congrArg D.int (max_nat _ _))) (EVs.cons (EV.name m5) EVs.nil)) BCall.min) (congrArg D.int (min_nat _ _))) p6 ?_
    unfold shortR
    rcases Decidable.em (leastN x (oT u l T) (oB w T) = 1) with q | q
    · with_reducible refine' EX.retOf (EV.iteT (TR.of (TR.cmp (EV.name m4) EV.int CmpD.eq) (e1.trans (decide_eq_true q))) (EV.call m11 (EVs.cons (EV.name m2) (EVs.cons (EV.name m6) (EVs.cons (EV.name m3) EVs.nil))) (with_lower_ones_gf F h l g x u w _ _ hu hw (by lia) hf hh hl m99 hg0) (by decide))) ?_
      simp only [if_pos q]
    · with_reducible refine' EX.retOf (EV.iteF (TR.of (TR.cmp (EV.name m4) EV.int CmpD.eq) (e1.trans (decide_eq_false q))) (EV.tuple (EVs.cons (EV.name m6) (EVs.cons (EV.name m3) EVs.nil)))) ?_
      simp only [if_neg q]
  | succ k ih =>
    with_reducible refine' WL.go (TR.of (TR.cmp (EV.name m5) (EV.of (EV.blt m9 F.no_max bt_max (EVs.cons EV.int (EVs.cons (EV.name m4) EVs.nil)) BCall.max) (congrArg D.int (max_nat 1 _))) CmpD.lt) ((tst _ _).trans (decide_eq_true (hgo T (by lia) (Int.le_refl _))))) (EX.assign (EV.bin (EV.name m3) EV.int BinD.sub) p3 (EX.swap2 (EVs.cons (EV.meth (EV.name m2) (MethOk.of F.Surroundings F.Surroundings_least_multiple) n_Surroundings_least_multiple (EVs.cons (EV.name m3) EVs.nil) (Surroundings_least_multiple_fn F h l g x u w _ hu hw (by lia) hl) (by decide)) (EVs.cons (EV.meth (EV.name m2) (MethOk.of F.Surroundings F.Surroundings_greatest_multiple) n_Surroundings_greatest_multiple (EVs.cons (EV.name m3) EVs.nil) (Surroundings_greatest_multiple_fn F h l g x u w _ hu hw (by lia) m99 hg0) (by decide)) EVs.nil)) m4 m5 p5 p4 EX.nil)) ?_
    with_reducible exact ih (T - 1) (by lia) (by lia) (fun Q hQ hQ' => hgo Q hQ (by lia)) rfl (by lia)
end Mine
end
section
-- A13
open PySem PySem.W PyProof.Rows
open Builtin Builtin.Str Builtin.Int
open Sem (wp)
set_option Elab.async false
set_option linter.all false
set_option maxRecDepth 100000
namespace Mine
theorem lriNoLen : typeLookup (.type "list_reverseiterator") "__len__" = pure none := by rw [typeLookup_type, builtinLookup_eq_fast]; kernel_rfl
theorem lriHint : typeLookup (.type "list_reverseiterator") "__length_hint__" = pure (some (.builtin "list_reverseiterator.__length_hint__")) := by rw [typeLookup_type, builtinLookup_eq_fast]; kernel_rfl
theorem collectRevS {prog : Program} {w : World} {A : Around} {E : Value → Shared → Prop} {s : Shared} {I : Addr} {fp wr : List Addr} {G : Array GenState → Array GenState → Prop} {n : Nat} {P : Nat → Value → Prop} {St : Nat → Shared → Prop} {Q : List Value → Shared → Prop}
    (W : WalksS prog w A.in1 I fp wr G n P St) (hT : ∀ i s, St i s → s.TypeIs (.ref I) "list_reverseiterator") (hst : St 0 s) (hfp : ∀ b ∈ fp, b < s.heap.objs.size) (hI : I ∈ fp)
    (hQ : ∀ s' acc, Moved wr G s s' → ItemsOf P acc n → Q acc.toList s') (hn : n ≤ sizeLine) : wpAny (model prog w) A (collect (.ref I)) Q E s := by
  have hSf : s.heap.objs.size ∉ fp := fun hm => Nat.lt_irrefl _ (hfp _ hm)
  have hSI : s.heap.objs.size ≠ I := fun e => hSf (e ▸ hI)
  unfold collect
  refine wpAny_bind (wpAny_runValue (codeAny_builtin F.entry_proto_collect ?_))
  rw [Around.under_plainId F.plain_proto_collect _]
  show wpAny _ A.in1 (newList [] >>= fun l => again (.builtin "list.__iadd__" ⟨[l, .ref I], []⟩)) _ _ s
  refine wpAny_bind (wpAny_newObj_type ?_)
  refine wpAny_pure ⟨plainId_quiet F.plain_list_iadd _, codeAny_builtin F.entry_list_iadd ?_⟩
  rw [Around.under_plainId F.plain_list_iadd _]
  have hst₁ := W.frame 0 s (s.heap.push { cls := .type "list", data := .seq ([] : List Value).toArray }) s.toks hst (Nat.le_refl _) fun b _ o e => Heap.get?_push_of_some _ e
  have hS₁ : (s.heap.push { cls := .type "list", data := .seq ([] : List Value).toArray }).get? s.heap.objs.size = some { cls := .type "list", data := .seq ([] : List Value).toArray } := Heap.get?_push_size _ rfl
  have h1 : Builtin.List.listSameRef (.ref s.heap.objs.size) (.ref I) = false := by simp [Builtin.List.listSameRef, hSI]
  show wpAny _ A.in1 (Builtin.List.listExtendWith (.ref s.heap.objs.size) (.ref I) (.ref s.heap.objs.size)) _ _ _
  unfold Builtin.List.listExtendWith
  refine wpAny_bind (wpAny_typeOf (hT 0 _ hst₁) ?_)
  rw [if_neg (by rw [h1]; decide)]
  refine wpAny_bind (W.self 0 _ _ _ hst₁ ?_)
  refine wpAny_bind (wpAny_holding ?_)
  unfold Builtin.List.listLengthHint
  refine wpAny_bind (wpAny_specialOf (hT 0 _ hst₁) lriNoLen ?_)
  show wpAny _ A.in1 (specialOf (Value.ref I) (Str.ofString "__length_hint__") >>= _) _ _ _
  refine wpAny_bind (wpAny_specialOf (hT 0 _ hst₁) lriHint ?_)
  generalize hid : ("list_reverseiterator.__length_hint__" : String) = id0; (fail_if_success (clear hid id0)); wp_delta; rw [show splitId id0 = some ("list_reverseiterator", "__length_hint__") from by subst hid; decide +kernel]; subst hid
  refine wpAny_bind (wpAny_isInstance (b := true) (hT 0 _ hst₁) (by rw [isSubtype_type]; kernel_rfl) ?_)
  refine wpAny_pure ?_
  rw [if_neg (by decide)]
  refine wpAny_pure ⟨plainId_quiet F.plain_extend_loop _, codeAny_extend_loopS W hn _ hSf _ n 0 _ _ _ rfl (Nat.zero_le _) hst₁ hS₁ (ItemsOf.nil P) fun s' acc' c' hm hS' hacc => ?_⟩
  show wpAny _ A (load s.heap.objs.size >>= _) _ _ s'
  refine wpAny_bind (wpAny_load hS' ?_)
  exact wpAny_pure (hQ s' acc' (Moved.drop_new (o := { cls := .type "list", data := .seq ([] : List Value).toArray }) (tk := s.toks) hm (Nat.le_refl _)) hacc)
theorem collectRev {prog : Program} {w : World} {A : Around} {E : Value → Shared → Prop} {s : Shared} {I l : Addr} {vs : List Value} {Q : List Value → Shared → Prop} (hh : A.handled = none) (hne : l ≠ I)
    (hit : s.heap.IsRevIter I l ((vs.length : Int) - 1)) (hl : s.heap.IsList l vs.toArray) (hn : vs.length ≤ sizeLine)
    (hQ : ∀ s', Moved [I] (fun a b => b = a) s s' → Q vs.reverse s') : wpAny (model prog w) A (collect (.ref I)) Q E s := by
  have st : 0 ≤ vs.toArray.size ∧ s.heap.IsRevIter I l ((vs.toArray.size : Int) - 1 - ((0 : Nat) : Int)) ∧ s.heap.IsList l vs.toArray := by
    refine ⟨Nat.zero_le _, ?_, hl⟩
    rw [show ((vs.toArray.size : Int) - 1 - ((0 : Nat) : Int)) = (vs.length : Int) - 1 by simp]
    exact hit
  refine collectRevS (Walks.listRev (A := A.in1) hh I l hne vs.toArray).toS (fun i s st => st.2.1.typeIs) st ?_ (List.mem_cons_self ..) (fun s' acc hm ha => ?_) (by simpa using hn)
  · intro b hb
    rcases List.mem_cons.mp hb with rfl | hb
    · obtain ⟨o, ho, _⟩ := hit; exact Heap.lt_size ho
    · rw [List.mem_singleton.mp hb]; obtain ⟨o, ho, _⟩ := hl; exact Heap.lt_size ho
  · have e : vs.reverse = acc.toList := by
      symm
      apply List.ext_getElem?
      intro i
      have h1 := ha.1
      have h2 := ha.2
      rcases Nat.lt_or_ge i vs.length with h | h
      · have hia : i < acc.size := by rw [h1]; simpa using h
        have := h2 i acc[i] (Array.getElem?_eq_getElem hia)
        rw [List.getElem?_reverse h, Array.getElem?_toList, Array.getElem?_eq_getElem hia]
        simp at this ⊢
        rw [this]
      · rw [List.getElem?_eq_none (by rw [Array.length_toList, h1]; simpa using h), List.getElem?_eq_none (by simpa using h)]
    rw [← e]
    exact hQ s' hm
theorem joinRev {prog : Program} {w : World} {A : Around} {E : Value → Shared → Prop} {s : Shared} {I l : Addr} {ps : List (Str × Tok)} {x : Str} {t : Tok} {Q : Value → Shared → Prop} (hh : A.handled = none) (hne : l ≠ I)
    (hit : s.heap.IsRevIter I l (((strValues ps).length : Int) - 1)) (hl : s.heap.IsList l (strValues ps).toArray) (hn : ps.length ≤ sizeLine) (hok : JoinOk x (ps.map (·.1)).reverse = true)
    (hQ : ∀ s' t' k, Moved [I] (fun a b => b = a) s s' → Q (.str (Txt.join x (ps.map (·.1)).reverse) t') { s' with toks := k }) : wpAny (model prog w) A (call (.builtin "str.join") [.str x t, .ref I]) Q E s := by
  refine wpAny_call (codeAny_call_builtin PySem.F.slot_str_join.plain PySem.F.entry_str_join (PySem.F.slot_str_join.check _ _ _ _ _ _ _ _ (typeIs_str _ _ _) (PySem.F.args_str_join_2 _ _) ?_))
  rw [join_tree_other]
  refine wpAny_bind (wpAny_typeOf hit.typeIs ?_)
  show wpAny _ A.in1 ((pyIter (.ref I)).tryCatch _ >>= fun it => collect it >>= fun items => joinTail x items) _ _ s
  refine wpAny_bind (wpAny_tryCatch (wpAny_pyIter_revIter hit ?_))
  refine wpAny_bind (collectRev (A := A.in1) hh hne hit hl (by simpa [strValues] using hn) fun s' hm => ?_)
  have hr : (strValues ps).reverse = strValues ps.reverse := by unfold strValues; rw [List.map_reverse]
  rw [hr]
  have hk : JoinOk x (ps.reverse.map (·.1)) = true := by rw [List.map_reverse]; exact hok
  have hp : ∀ t' k, Q (.str (Txt.join x (ps.reverse.map (·.1))) t') { s' with toks := k } := fun t' k => by rw [List.map_reverse]; exact hQ s' t' k hm
  generalize ps.reverse = qs at hk hp
  unfold JoinOk at hk
  rw [Bool.not_eq_true'] at hk
  have g : Gives (joinTail x (strValues qs)) (joinMade x qs) := by
    have g0 := gives_joinTail x qs hk
    cases qs with
    | nil => exact g0
    | cons p r => cases r with
      | nil => exact g0
      | cons q r' => exact g0
  exact g prog w A (wants Q E) s' (post_join qs ⟨joinFit_length hk, hp⟩)
section
variable {c : Cx} {k : Nat} {nl : NL} {ρ : Names} {a : Addr}
/-- sep.join(reversed(list)) -/
theorem EV.joinRev {x y : Str} {sep : Expr} {sp : Str} {l : List Str} {p1 p2 p3 p4 p5 : Pos} (h : EV c k nl ρ (.pls a (txts l)) sep (.str sp)) (hx : (x, NameKind.globalImplicit) ∈ nl) (hm : c.mg x = .none) (hv : bootBuiltins x = some (.type "reversed"))
    (hy : (y, some (.ptr a)) ∈ ρ) (hj : JoinOk sp l.reverse = true) (hn : l.length ≤ sizeLine) (he : MethForm sep (Str.ofString "join") p4 p5 [.Call (.Name x p1) [.Name y p2] [] p3] := by with_unfolding_all (intro _; rfl)) :
    EV c k nl ρ (.pls a (txts l)) (.Call (.Attribute sep (Str.ofString "join") p4) [.Call (.Name x p1) [.Name y p2] [] p3] [] p5) (.str (Txt.join sp l.reverse)) := fun {A env S s Q E} a1 q => by
  refine MethodCall_ (he := he _) (h a1 fun u s1 k1 r1 => ?_)
  have a2 := a1.kp k1
  refine GetM.join r1 (callWith_method1 ?_ rfl rfl)
  refine args_cons ?_ rfl
  refine Call_ (Blt.load a2 hx hm hv (callWith_type1 ?_ rfl rfl))
  refine args_cons (EV.name hy a2 fun v s2 k2 r2 => ?_) rfl
  have a3 := a2.kp k2
  simp only [Rep] at r2
  subst r2
  obtain ⟨vs, ⟨n, ho⟩, rs⟩ := a3.mu
  have hl : s2.heap.IsList a vs.toArray := ⟨_, ho, rfl, n, rfl⟩
  refine args_nil (call_reversed_list hl (args_nil ?_))
  obtain ⟨ps, rfl, e⟩ := rep_strValues rs
  obtain ⟨t, rfl⟩ := r1.str_inv
  have hlt := Heap.lt_size ho
  show wpAny _ _ (PySem.call (Value.builtin "str.join") [Value.str sp t, Value.ref s2.heap.objs.size]) _ _ _
  refine Mine.joinRev a3.room1.handled (Nat.ne_of_lt hlt) ?_ ⟨_, Heap.get?_push_of_some _ ho, rfl, n, rfl⟩ (by rw [← List.length_map (f := (·.1)), e]; exact hn) (by rw [e]; exact hj) fun s' t' kk hm' => ?_
  · exact ⟨_, by rw [List.size_toArray]; exact Heap.get?_push_size _ rfl, rfl, rfl⟩
  · rw [e]
    refine q _ _ ((k1.trans k2).trans ⟨⟨s'.heap, kk, ?_⟩, fun b o _ eb => hm'.heap b o ?_ (Heap.get?_push_of_some _ eb), fun m ⟨o, es, ep, eb, r⟩ => ⟨o, es, ep, hm'.heap _ o ?_ (Heap.get?_push_of_some _ eb), r⟩⟩) Rep.str_mk
    · have g1 := hm'.gens; have g2 := hm'.drawn; have g3 := hm'.os
      cases s'; cases s2; simp_all
    · intro hb; have hs := Heap.lt_size eb; rw [List.mem_singleton] at hb; rw [hb] at hs; exact Nat.lt_irrefl _ hs
    · intro hb; have hs := Heap.lt_size eb; rw [List.mem_singleton] at hb; rw [hb] at hs; exact Nat.lt_irrefl _ hs
end
end Mine
end
section
-- M3
open PySem PySem.W PyProof.Rows PySem.StrLaws
set_option Elab.async false
set_option linter.all false
set_option maxRecDepth 100000
namespace Mine
/-- a figure's sign -/
noncomputable def fig (d : Nat) : Nat := if d < 10 then 48 + d else 87 + d
/-- the figures, lowest first -/
noncomputable def rdig (r n : Nat) : List Nat := if h : n = 0 ∨ r ≤ 1 then [] else n % r :: rdig r (n / r)
termination_by n
decreasing_by exact Nat.div_lt_self (by lia) (by lia)
theorem rdig_zero (r : Nat) : rdig r 0 = [] := by rw [rdig]; simp
theorem rdig_step {r n : Nat} (hr : 2 ≤ r) (h : 0 < n) : rdig r n = n % r :: rdig r (n / r) := by
  rw [rdig, dif_neg (by lia)]
theorem rdig_len {r : Nat} (hr : 2 ≤ r) : ∀ {k n : Nat}, n < 2 ^ k → (rdig r n).length ≤ k := by
  intro k
  induction k with
  | zero => intro n h; have : n = 0 := by simpa using h
            subst this; rw [rdig_zero]; simp
  | succ k ih =>
    intro n h
    rcases Nat.eq_zero_or_pos n with e | e
    · subst e; rw [rdig_zero]; simp
    · rw [rdig_step hr e]
      have : n / r < 2 ^ k := by
        refine Nat.lt_of_le_of_lt (Nat.div_le_div_left hr (by decide)) ?_
        rw [Nat.pow_succ] at h; lia
      have := ih this
      simp; lia
theorem rdig_lt {r : Nat} (hr : 2 ≤ r) (n : Nat) : ∀ d ∈ rdig r n, d < r := by
  induction n using Nat.strongRecOn with
  | ind n ih =>
    rcases Nat.eq_zero_or_pos n with e | e
    · subst e; rw [rdig_zero]; simp
    · rw [rdig_step hr e]
      intro d hd
      rcases List.mem_cons.mp hd with h | h
      · subst h; exact Nat.mod_lt _ (by lia)
      · exact ih _ (Nat.div_lt_self e (by lia)) d h
/-- what figures are worth -/
noncomputable def worthD (r : Nat) (l : List Nat) : Nat := l.foldl (fun a d => a * r + d) 0
theorem foldl_worth (r : Nat) (l : List Nat) (a : Nat) : l.foldl (fun a d => a * r + d) a = a * r ^ l.length + worthD r l := by
  unfold worthD
  induction l generalizing a with
  | nil => simp
  | cons d l ih =>
    rw [List.foldl_cons, List.foldl_cons, ih, ih (0 * r + d), List.length_cons, Nat.pow_succ]
    simp [Nat.add_mul, Nat.mul_assoc, Nat.mul_comm r, Nat.add_assoc]
theorem worth_app (r : Nat) (a b : List Nat) : worthD r (a ++ b) = worthD r a * r ^ b.length + worthD r b := by
  show (a ++ b).foldl _ 0 = _
  rw [List.foldl_append, foldl_worth]; rfl
theorem worth_rdig {r : Nat} (hr : 2 ≤ r) (n : Nat) : worthD r (rdig r n).reverse = n := by
  induction n using Nat.strongRecOn with
  | ind n ih =>
    rcases Nat.eq_zero_or_pos n with e | e
    · subst e; rw [rdig_zero]; rfl
    · rw [rdig_step hr e, List.reverse_cons, worth_app, ih _ (Nat.div_lt_self e (by lia))]
      show n / r * r ^ 1 + (0 * r + n % r) = n
      rw [Nat.pow_one, Nat.zero_mul, Nat.zero_add, Nat.mul_comm]
      exact Nat.div_add_mod n r
/-- the figures, highest first -/
noncomputable def digs (r n : Nat) : List Nat := if n = 0 then [0] else (rdig r n).reverse
/-- a number as written -/
noncomputable def figs (r n : Nat) : List Nat := (digs r n).map fig
theorem digs_lt {r : Nat} (hr : 2 ≤ r) (n : Nat) : ∀ d ∈ digs r n, d < r := by
  unfold digs; split
  · intro d h; rw [List.mem_singleton] at h; lia
  · intro d h; exact rdig_lt hr n d (List.mem_reverse.mp h)
theorem worth_digs {r : Nat} (hr : 2 ≤ r) (n : Nat) : worthD r (digs r n) = n := by
  unfold digs; split
  · rename_i h; subst h; simp [worthD]
  · exact worth_rdig hr n
theorem digs_ne {r : Nat} (hr : 2 ≤ r) (n : Nat) : digs r n ≠ [] := by
  unfold digs; split
  · simp
  · rename_i h; rw [rdig_step hr (by lia)]; simp
theorem digs_len {r n k : Nat} (hr : 2 ≤ r) (hk : 1 ≤ k) (h : n < 2 ^ k) : (digs r n).length ≤ k := by
  unfold digs; split
  · simpa using hk
  · rw [List.length_reverse]; exact rdig_len hr h
theorem digs_last {r n : Nat} (hr : 2 ≤ r) (h : 0 < n) : (digs r n).getLastD 0 = n % r := by
  unfold digs; rw [if_neg (by lia), rdig_step hr h, List.reverse_cons]
  simp
theorem digs_small {r n : Nat} (hr : 2 ≤ r) (h : n < r) : digs r n = [n] := by
  unfold digs; split
  · rename_i e; subst e; rfl
  · rw [rdig_step hr (by lia), Nat.mod_eq_of_lt h, Nat.div_eq_of_lt h, rdig_zero]; rfl
theorem figs_len (r n : Nat) : (figs r n).length = (digs r n).length := by simp [figs]
theorem fig_ten {d : Nat} (h : d < 10) : fig d = 48 + d := by unfold fig; rw [if_pos h]
theorem fig_inj {a b : Nat} (ha : a < 16) (hb : b < 16) (h : fig a = fig b) : a = b := by unfold fig at h; split at h <;> split at h <;> lia
theorem fig_ge (d : Nat) : 48 ≤ fig d := by unfold fig; split <;> lia
theorem fig_lt {d : Nat} (h : d < 16) : fig d < 103 := by unfold fig; split <;> lia
/-- texts of one sign each can be joined -/
theorem ones_ok (l : List Nat) (h : l.length ≤ 4000) : JoinOk (S []) (l.map fun n => S [n]) = true := by
  have g : ∀ (l : List Nat) (a : Nat), (l.map fun n => S [n]).foldl (fun (a : Nat) (x : Str) => a + x.length + (S []).length) a = a + l.length := by
    intro l
    induction l with
    | nil => intro a; rfl
    | cons n l ih => intro a; rw [List.map_cons, List.foldl_cons, ih, List.length_cons]; show a + 1 + 0 + _ = _; lia
  unfold JoinOk
  rw [← Array.foldl_toList]
  show (!Builtin.Str.tooLong ((l.map fun n => S [n]).foldl (fun (a : Nat) (x : Str) => a + x.length + (S []).length) 0)) = true
  rw [g]
  unfold Builtin.Str.tooLong sizeLine
  simp only [Bool.not_eq_true', decide_eq_false_iff_not]
  lia
theorem ones_flat (l : List Nat) : (l.map fun n => [n]).flatten = l := by
  induction l with
  | nil => rfl
  | cons a l ih => rw [List.map_cons, List.flatten_cons, ih]; rfl
theorem join_ones (l : List Nat) : Txt.join (S []) (l.map fun n => S [n]) = S l := by
  have := txtJoin_S (l.map fun n => [n])
  rw [List.map_map, ones_flat] at this
  exact this
end Mine
end
section
-- W7
open PySem PySem.W PyProof.Rows
set_option Elab.async false
set_option linter.all false
set_option maxRecDepth 100000
namespace Mine
theorem figs_at : ∀ d, d < 16 → (Str.ofString "0123456789abcdef").cps[d]? = some (fig d) := by decide +kernel
theorem figs_zero : ∀ r, S (figs r 0) = Str.ofString "0" := fun r => by unfold figs digs; rw [if_pos rfl]; decide +kernel
theorem SameHas.pls {a : Addr} {l l' : List D} : SameHas (.pls a l) (.pls a l') := fun _ => Iff.rfl
theorem WL.forget {c : Cx} {k : Nat} {nl : NL} {ρ ρ' : Names} {μ : Mu} {t : Expr} {body rest : List Stmt} {ks : List (List Stmt)} {o : Out} (w : Weak ρ ρ') (h : WL c k nl ρ' μ t body rest ks o) : WL c k nl ρ μ t body rest ks o := fun a nf q => h (a.weak w) nf q
theorem figures_of_gf {c : Cx} (F : Facts c) (n r : Nat) (hr : 2 ≤ r) (hr2 : r ≤ 16) (hn : n < 2 ^ 3000) : GF c (Str.ofString "figures_of") 1 [.int n, .int r] (.str (S (figs r n))) := by
  refine ⟨_, F.figures_of.name, F.figures_of.keep, ?_⟩
  refine FN.of F.figures_of.fn (okSt 32 (by decide)) rfl (by dsimp only [initEnv, List.cons_append, List.nil_append, List.append_nil]) rfl ?_
  have hlen := rdig_len hr hn
  rcases Nat.eq_zero_or_pos n with h | h
  · subst h
    with_reducible refine' EX.iteT (TR.cmp (EV.name m0) EV.int CmpD.eq) ?_
    with_reducible refine' EX.retOf EV.str ?_
    exact congrArg D.str (figs_zero r).symm
  · with_reducible refine' EX.iteF (TR.of (TR.cmp (EV.name m0) EV.int CmpD.eq) (decide_eq_false (by lia))) ?_
    refine EX.pop ?_
    with_reducible refine' EX.newlist (fun a => p2) (fun a => ?_)
    have hfin : Txt.join (Str.ofString "") ((rdig r n).map fun d => S [fig d]).reverse = S (figs r n) := by
      have e1 : (List.map fig (rdig r n)).map (fun n => S [n]) = (rdig r n).map fun d => S [fig d] := by rw [List.map_map]; rfl
      unfold figs digs
      rw [if_neg (by lia), ← join_ones, List.map_reverse, List.map_reverse, e1]
      rfl
    have hjo : JoinOk (Str.ofString "") ((rdig r n).map fun d => S [fig d]).reverse = true := by
      have e1 : (List.map fig (rdig r n)).map (fun n => S [n]) = (rdig r n).map fun d => S [fig d] := by rw [List.map_map]; rfl
      have := ones_ok ((rdig r n).map fig).reverse (by simp; lia)
      rw [List.map_reverse, e1] at this
      exact this
    refine ⟨.pls a (txts ((rdig r n).map fun d => S [fig d])), ?_⟩
    with_reducible refine' EX.while_ ?_
    generalize hM : ([] : List D) = M
    generalize hT : S (figs r n) = T at *
    generalize hR : rdig r n = R at *
    obtain ⟨L, hL, hLR⟩ : ∃ L : List Nat, M = txts (L.map fun d => S [fig d]) ∧ L ++ rdig r n = R := ⟨[], hM.symm, by simpa using hR⟩
    subst hL
    clear hM hT hR hn h
    induction n using Nat.strongRecOn generalizing L with
    | ind n ih =>
      rcases Nat.eq_zero_or_pos n with h | h
      · subst h
        have e1 : L = R := by rw [← hLR, rdig_zero, List.append_nil]
        subst e1
        with_reducible refine' WL.stop (TR.of (TR.cmp (EV.name m0) EV.int CmpD.gt) (decide_eq_false (by lia))) ?_
        with_reducible refine' EX.retOf (EV.joinRev EV.str m6 F.no_reversed bt_reversed m2 hjo ?_) ?_
        · rw [List.length_map]; unfold sizeLine; lia
        · exact congrArg D.str hfin
      · have hl2 : L.length ≤ sizeLine := by have := congrArg List.length hLR; rw [List.length_append] at this; unfold sizeLine; lia
        have hm : n % r < 16 := Nat.lt_of_lt_of_le (Nat.mod_lt _ (by lia)) hr2
        have hq : (Str.ofString "0123456789abcdef").cps[((n % r : Nat) : Int).toNat]? = some (fig (n % r)) := figs_at _ hm
        have e1 : (D.tup [D.int ((n : Int).fdiv r), D.int ((n : Int).fmod r)]) = .tup [.int (n / r : Nat), .int (n % r : Nat)] := by rw [fdiv_nat, fmod_nat]
        with_reducible refine' WL.go (hh := SameHas.pls) (TR.of (TR.cmp (EV.name m0) EV.int CmpD.gt) (decide_eq_true (by lia))) (EX.assign2 (EV.of (EV.blt m4 F.no_divmod bt_divmod (EVs.cons (EV.name m0) (EVs.cons (EV.name m1) EVs.nil)) (BCall.divmod ?_ ?_)) e1) p0 p3 (EX.append m2 (EV.subS (EV.glo F.g_FIGURES m5) (EV.name m3) hq (by lia)) EX.nil ?_)) ?_
        · lia
        · exact nopyN (y := r) (n := 20) (by lia) (by lia) _
        · unfold txts; rw [List.length_map, List.length_map]; exact hl2
        · with_reducible refine' WL.forget (Weak.keep (Weak.keep (Weak.keep (Weak.drop Weak.nil)))) ?_
          have e2 : txts (List.map (fun d => S [fig d]) (L ++ [n % r])) = txts (List.map (fun d => S [fig d]) L) ++ [D.str ⟨#[fig (n % r)]⟩] := by unfold txts; rw [List.map_append, List.map_append]; rfl
          have hL2 : (L ++ [n % r]) ++ rdig r (n / r) = R := by rw [List.append_assoc]; rw [rdig_step hr h] at hLR; exact hLR
          rw [← e2]
          with_reducible exact ih (n / r) (Nat.div_lt_self h (by lia)) (L ++ [n % r]) hL2
theorem S_str (x : String) : Str.ofString x = S (Str.ofString x).cps.toList := (S_of _).symm
theorem S_nil : Str.ofString "" = S [] := by decide +kernel
theorem S_minus : Str.ofString "-" = S [45] := by decide +kernel
theorem S_slash : Str.ofString "/" = S [47] := by decide +kernel
/-- a whole number as written -/
noncomputable def wholeT (r : Nat) (n : Int) : List Nat := (if n < 0 then [45] else []) ++ figs r n.natAbs
theorem wholeT_len {r : Nat} {n : Int} {k : Nat} (hr : 2 ≤ r) (hk : 1 ≤ k) (h : n.natAbs < 2 ^ k) : (wholeT r n).length ≤ k + 1 := by
  unfold wholeT
  rw [List.length_append, figs_len]
  have := digs_len hr hk h
  split <;> simp <;> lia
theorem figs_le {r n : Nat} (hr : 2 ≤ r) (hn : n < 2 ^ 3000) : (figs r n).length ≤ 3000 := by rw [figs_len]; exact digs_len hr (by decide) hn
theorem whole_text_gf {c : Cx} (F : Facts c) (n : Int) (r : Nat) (hr : 2 ≤ r) (hr2 : r ≤ 16) (hn : n.natAbs < 2 ^ 3000) : GF c (Str.ofString "whole_text") 2 [.int n, .int r] (.str (S (wholeT r n))) := by
  refine ⟨_, F.whole_text.name, F.whole_text.keep, ?_⟩
  refine FN.of F.whole_text.fn (okSt 33 (by decide)) rfl (by dsimp only [initEnv, List.cons_append, List.nil_append, List.append_nil]) rfl ?_
  have hl := figs_le hr hn
  with_reducible refine' EX.retOf (EV.bin (EV.iteS (TR.cmp (EV.name m0) EV.int CmpD.lt) (fun h => EV.str) (fun h => EV.str)) (EV.call m2 (EVs.cons (EV.of (EV.blt m3 F.no_abs bt_abs (EVs.cons (EV.name m0) EVs.nil) BCall.abs) (congrArg D.int (abs_nat n))) (EVs.cons (EV.name m1) EVs.nil)) (figures_of_gf F _ r hr hr2 hn) (by decide)) (BinD.cat ?_)) ?_
  · rw [S_nil, S_minus, S_len]; split <;> rw [S_len] <;> unfold sizeLine <;> simp <;> lia
  · refine congrArg D.str ?_
    unfold wholeT
    rw [S_nil, S_minus]
    by_cases h : n < 0
    · rw [if_pos h, if_pos (decide_eq_true h), S_cat]
    · rw [if_neg h, if_neg (by simpa using h), S_cat]
end Mine
end
section
-- W8
open PySem PySem.W PyProof.Rows
set_option Elab.async false
set_option linter.all false
set_option maxRecDepth 100000
namespace Mine
set_option exponentiation.threshold 4000
noncomputable def exactT (r : Nat) (t : Int) (b : Nat) : List Nat := if b = 1 then wholeT r t else wholeT r t ++ [47] ++ wholeT r b
theorem exact_textI_gf {c : Cx} (F : Facts c) (t : Int) (r : Nat) (hr : 2 ≤ r) (hr2 : r ≤ 16) (ht : t.natAbs < 2 ^ 3000) : GF c (Str.ofString "exact_text") 3 [.int t, .int r] (.str (S (wholeT r t))) := by
  refine ⟨_, F.exact_text.name, F.exact_text.keep, ?_⟩
  refine FN.of F.exact_text.fn (okSt 34 (by decide)) rfl (by dsimp only [initEnv, List.cons_append, List.nil_append, List.append_nil]) rfl ?_
  with_reducible refine' EX.iteF (TR.plain (EV.blt m2 F.no_isinstance bt_isinstance (EVs.cons (EV.name m0) (EVs.cons (EV.glo F.g_Ratio m3) EVs.nil)) (BCall.isn F.notRatio))) ?_
  refine EX.pop ?_
  with_reducible exact EX.ret (EV.call m4 (EVs.cons (EV.name m0) (EVs.cons (EV.name m1) EVs.nil)) (whole_text_gf F t r hr hr2 ht) (by decide))
theorem exact_textR_gf {c : Cx} (F : Facts c) (t : Int) (b r : Nat) (hr : 2 ≤ r) (hr2 : r ≤ 16) (ht : t.natAbs < 2 ^ 3000) (hb : b < 2 ^ 3000) : GF c (Str.ofString "exact_text") 3 [RatioD t b, .int r] (.str (S (wholeT r t ++ [47] ++ wholeT r b))) := by
  refine ⟨_, F.exact_text.name, F.exact_text.keep, ?_⟩
  refine FN.of F.exact_text.fn (okSt 34 (by decide)) rfl (by dsimp only [initEnv, List.cons_append, List.nil_append, List.append_nil]) rfl ?_
  have l1 := wholeT_len hr (by decide) ht
  have l2 := wholeT_len (n := (b : Int)) hr (by decide) hb
  with_reducible refine' EX.iteT (TR.plain (EV.blt m2 F.no_isinstance bt_isinstance (EVs.cons (EV.name m0) (EVs.cons (EV.glo F.g_Ratio m3) EVs.nil)) BCall.isi)) ?_
  with_reducible refine' EX.retOf (EV.bin (EV.bin (EV.call m4 (EVs.cons (EV.attr (EV.name m0) (AttrOk.of F.Ratio F.Ratio_top) f_Ratio_top) (EVs.cons (EV.name m1) EVs.nil)) (whole_text_gf F t r hr hr2 ht) (by decide)) EV.str (BinD.cat ?_)) (EV.call m4 (EVs.cons (EV.attr (EV.name m0) (AttrOk.of F.Ratio F.Ratio_bottom) f_Ratio_bottom) (EVs.cons (EV.name m1) EVs.nil)) (whole_text_gf F (b : Int) r hr hr2 (by rw [Int.natAbs_natCast]; exact hb)) (by decide)) (BinD.cat ?_)) ?_
  · rw [S_slash, S_len, S_len]; unfold sizeLine; simp; lia
  · rw [S_slash, S_cat, S_len, S_len]; unfold sizeLine; simp; lia
  · rw [S_slash, S_cat, S_cat]
theorem exact_text_gf {c : Cx} (F : Facts c) (t : Int) (b r : Nat) (hr : 2 ≤ r) (hr2 : r ≤ 16) (ht : t.natAbs < 2 ^ 3000) (hb : b < 2 ^ 3000) : GF c (Str.ofString "exact_text") 3 [if (b : Int) = 1 then .int t else RatioD t b, .int r] (.str (S (exactT r t b))) := by
  unfold exactT
  by_cases h : b = 1
  · rw [if_pos h, if_pos (by lia)]; exact exact_textI_gf F t r hr hr2 ht
  · rw [if_neg h, if_neg (by lia)]; exact exact_textR_gf F t b r hr hr2 ht hb
theorem without_noughts_gf {c : Cx} (F : Facts c) (L : List Nat) (P : Int) (h : L = [] ∨ L.getLastD 0 ≠ 48) (hl : L.length ≤ 10000) : GF c (Str.ofString "without_noughts") 1 [.str (S L), .int P] (.tup [.str (S L), .int P]) := by
  refine ⟨_, F.without_noughts.name, F.without_noughts.keep, ?_⟩
  refine FN.of F.without_noughts.fn (okSt 39 (by decide)) rfl (by dsimp only [initEnv, List.cons_append, List.nil_append, List.append_nil]) rfl ?_
  have e1 : Txt.rstripChars (S L) (Str.ofString "0") = S L := by
    have := rstrip_S L 48 0 h
    simp only [List.replicate_zero, List.append_nil] at this
    rw [show Str.ofString "0" = S [48] by decide +kernel]; exact this
  with_reducible refine' EX.assign (EV.of (EV.smeth (EV.name m0) GetM.rstrip (EVs.cons EV.str EVs.nil) (SCall.rstrip ?_)) (congrArg D.str e1)) p2 ?_
  · rw [S_len]; unfold sizeLine; lia
  with_reducible refine' EX.retOf (EV.tuple (EVs.cons (EV.name m2) (EVs.cons (EV.bin (EV.bin (EV.name m1) (EV.blt m3 F.no_len bt_len (EVs.cons (EV.name m0) EVs.nil) (BCall.lenS ?_)) BinD.add) (EV.blt m3 F.no_len bt_len (EVs.cons (EV.name m2) EVs.nil) (BCall.lenS ?_)) BinD.sub) EVs.nil))) ?_
  · rw [S_len]; lia
  · rw [S_len]; lia
  · rw [show P + ((S L).length : Int) - ((S L).length : Int) = P by lia]
noncomputable def laidT (L : List Nat) (P : Int) : List Nat :=
  if 0 < L.length + P ∧ L.length + P ≤ 21 then
    (if 0 ≤ P then L ++ List.replicate P.toNat 48 ++ [46, 48] else L.take (L.length + P).toNat ++ [46] ++ L.drop (L.length + P).toNat)
  else if -6 ≤ L.length + P ∧ L.length + P ≤ 0 then [48, 46] ++ List.replicate (-(L.length + P)).toNat 48 ++ L
  else [L.headD 0] ++ (if 1 < L.length then [46] ++ L.drop 1 else []) ++ [101] ++ wholeT 10 (L.length + P - 1)
theorem mul0 {n : Int} (h : n.natAbs ≤ 4000) : MulOk (Str.ofString "0") n := by
  have e : (Str.ofString "0").length = 1 := by decide +kernel
  refine ⟨?_, ?_, ?_⟩
  · rw [Bool.or_eq_false_iff, decide_eq_false_iff_not, decide_eq_false_iff_not]; lia
  · intro h1 _ h2
    rw [e] at h2
    have : (2 ^ 63 - 1) / n ≥ 1 := Int.le_ediv_of_mul_le (by lia) (by lia)
    lia
  · intro h1 _
    rw [e]; unfold Builtin.Str.tooLong sizeLine; rw [decide_eq_false_iff_not]; lia
theorem S_zero : Str.ofString "0" = S [48] := by decide +kernel
theorem S_dotz : Str.ofString ".0" = S [46, 48] := by decide +kernel
theorem S_zdot : Str.ofString "0." = S [48, 46] := by decide +kernel
theorem S_dot : Str.ofString "." = S [46] := by decide +kernel
theorem S_e : Str.ofString "e" = S [101] := by decide +kernel
theorem S_zdz : Str.ofString "0.0" = S [48, 46, 48] := by decide +kernel
theorem S_hi : Str.ofString "#i" = S [35, 105] := by decide +kernel
theorem laid_out_gf {c : Cx} (F : Facts c) (L : List Nat) (P : Int) (h0 : L ≠ []) (hl : L.length ≤ 3000) (hP : P.natAbs ≤ 1000) : GF c (Str.ofString "laid_out") 3 [.str (S L), .int P] (.str (S (laidT L P))) := by
  refine ⟨_, F.laid_out.name, F.laid_out.keep, ?_⟩
  refine FN.of F.laid_out.fn (okSt 40 (by decide)) rfl (by dsimp only [initEnv, List.cons_append, List.nil_append, List.append_nil]) rfl ?_
  have hl63 : (S L).length < 2 ^ 63 := by rw [S_len]; lia
  have hls : (S L).length ≤ sizeLine := by rw [S_len]; unfold sizeLine; lia
  have e0 : ((S L).length : Int) + P = (L.length : Int) + P := by rw [S_len]
  have hpos : 0 < L.length := List.length_pos_iff.mpr h0
  with_reducible refine' EX.assign (EV.of (EV.bin (EV.blt m4 F.no_len bt_len (EVs.cons (EV.name m0) EVs.nil) (BCall.lenS hl63)) (EV.name m1) BinD.add) (congrArg D.int e0)) p2 ?_
  unfold laidT
  have k1 : (decide ((0 : Int) < L.length + P) && decide ((L.length + P : Int) ≤ 21)) = decide (0 < (L.length + P : Int) ∧ (L.length + P : Int) ≤ 21) := by
    rw [Bool.eq_iff_iff]; simp only [Bool.and_eq_true, decide_eq_true_eq]
  have k2 : (decide ((0 : Int) - 6 ≤ L.length + P) && decide ((L.length + P : Int) ≤ 0)) = decide (-6 ≤ (L.length + P : Int) ∧ (L.length + P : Int) ≤ 0) := by
    rw [Bool.eq_iff_iff]; simp only [Bool.and_eq_true, decide_eq_true_eq]; lia
  rcases Decidable.em (0 < (L.length + P : Int) ∧ (L.length + P : Int) ≤ 21) with h | h
  · with_reducible refine' EX.iteT (TR.of (TR.chain EV.int (EV.name m2) CmpD.lt (EV.glo F.g_MBP m5) CmpD.le) (k1.trans (decide_eq_true h))) ?_
    rw [if_pos h]
    rcases Int.lt_or_le P 0 with q | q
    · with_reducible refine' EX.iteF (TR.of (TR.cmp (EV.name m1) EV.int CmpD.ge) (decide_eq_false (by lia))) ?_
      refine EX.pop ?_
      have ej : (((L.length + P).toNat : Nat) : Int) = L.length + P := Int.toNat_of_nonneg (by lia)
      have s1 : Txt.slice (S L) none (some (L.length + P : Int)) = S (L.take (L.length + P).toNat) := by
        have := slice_to L (L.length + P).toNat (by lia); rwa [ej] at this
      have s2 : Txt.slice (S L) (some (L.length + P : Int)) none = S (L.drop (L.length + P).toNat) := by
        have := slice_from L (L.length + P).toNat (by lia); rwa [ej] at this
      with_reducible refine' EX.retOf (EV.bin (EV.bin (EV.of (EV.sliceTo (EV.name m0) (EV.name m2) hls) (congrArg D.str s1)) EV.str (BinD.cat ?_)) (EV.of (EV.sliceFrom (EV.name m0) (EV.name m2) hls) (congrArg D.str s2)) (BinD.cat ?_)) ?_
      · rw [S_dot, S_len, S_len]; unfold sizeLine; simp; lia
      · rw [S_dot, S_cat, S_len, S_len]; unfold sizeLine; simp; lia
      · rw [if_neg (by lia), S_dot, S_cat, S_cat]
    · with_reducible refine' EX.iteT (TR.of (TR.cmp (EV.name m1) EV.int CmpD.ge) (decide_eq_true q)) ?_
      have s1 : Txt.mul (Str.ofString "0") P = S (List.replicate P.toNat 48) := by rw [S_zero, mul_S]
      with_reducible refine' EX.retOf (EV.bin (EV.bin (EV.name m0) (EV.of (EV.bin EV.str (EV.name m1) (BinD.mulS (mul0 ?_))) (congrArg D.str s1)) (BinD.cat ?_)) EV.str (BinD.cat ?_)) ?_
      · lia
      · rw [S_len, S_len]; unfold sizeLine; simp; lia
      · rw [S_dotz, S_cat, S_len, S_len]; unfold sizeLine; simp; lia
      · rw [if_pos q, S_dotz, S_cat, S_cat]
  · with_reducible refine' EX.iteF (TR.of (TR.chain EV.int (EV.name m2) CmpD.lt (EV.glo F.g_MBP m5) CmpD.le) (k1.trans (decide_eq_false h))) ?_
    rw [if_neg h]
    refine EX.pop ?_
    rcases Decidable.em (-6 ≤ (L.length + P : Int) ∧ (L.length + P : Int) ≤ 0) with q | q
    · with_reducible refine' EX.iteT (TR.of (TR.chain (EV.bin EV.int (EV.glo F.g_MNB m6) BinD.sub) (EV.name m2) CmpD.le EV.int CmpD.le) (k2.trans (decide_eq_true q))) ?_
      rw [if_pos q]
      have s1 : Txt.mul (Str.ofString "0") (0 - (L.length + P : Int)) = S (List.replicate (-(L.length + P : Int)).toNat 48) := by rw [S_zero, mul_S, Int.zero_sub]
      with_reducible refine' EX.retOf (EV.bin (EV.bin EV.str (EV.of (EV.bin EV.str (EV.bin EV.int (EV.name m2) BinD.sub) (BinD.mulS (mul0 ?_))) (congrArg D.str s1)) (BinD.cat ?_)) (EV.name m0) (BinD.cat ?_)) ?_
      · lia
      · rw [S_zdot, S_len, S_len]; unfold sizeLine; simp; lia
      · rw [S_zdot, S_cat, S_len, S_len]; unfold sizeLine; simp; lia
      · rw [S_zdot, S_cat, S_cat]
    · with_reducible refine' EX.iteF (TR.of (TR.chain (EV.bin EV.int (EV.glo F.g_MNB m6) BinD.sub) (EV.name m2) CmpD.le EV.int CmpD.le) (k2.trans (decide_eq_false q))) ?_
      rw [if_neg q]
      refine EX.pop ?_
      have s1 : Txt.slice (S L) (some (1 : Int)) none = S (L.drop 1) := slice_from L 1 hpos
      have k3 : decide ((1 : Int) < ((S L).length : Int)) = decide (1 < L.length) := by rw [S_len, Bool.eq_iff_iff, decide_eq_true_eq, decide_eq_true_eq]; lia
      have e3 : (if decide (1 < L.length) = true then Str.ofString "." ++ S (L.drop 1) else Str.ofString "") = S (if 1 < L.length then [46] ++ L.drop 1 else []) := by
        rw [S_dot, S_cat, S_nil]
        by_cases h1 : 1 < L.length
        · rw [if_pos h1, if_pos (decide_eq_true h1)]
        · rw [if_neg h1, if_neg (by simpa using h1)]
      have hx : (S L).cps[(0 : Int).toNat]? = some (L.headD 0) := by
        cases L with
        | nil => exact absurd rfl h0
        | cons a L => rfl
      have hl0 : ((S L).length : Int) < 2 ^ 63 := by lia
      have e4 : (S [L.headD 0] : Str) = ⟨#[L.headD 0]⟩ := rfl
      have hw := wholeT_len (r := 10) (n := (L.length + P - 1 : Int)) (k := 20) (by decide) (by decide) (by lia)
      with_reducible refine' EX.assign (EV.of (EV.iteS (TR.of (TR.cmp (EV.blt m4 F.no_len bt_len (EVs.cons (EV.name m0) EVs.nil) (BCall.lenS hl63)) EV.int CmpD.gt) k3) (fun h => (EV.bin EV.str (EV.of (EV.sliceFrom (EV.name m0) EV.int hls) (congrArg D.str s1)) (BinD.cat ?_))) (fun h => EV.str)) (congrArg D.str e3)) p3 ?_
      · rw [S_dot, S_len, S_len]; unfold sizeLine; simp; lia
      have hb : (if 1 < L.length then [46] ++ L.drop 1 else ([] : List Nat)).length ≤ 3001 := by split <;> simp <;> lia
      with_reducible refine' EX.retOf (EV.bin (EV.bin (EV.bin (EV.of (EV.subS (EV.name m0) EV.int hx (by decide) hl0) (congrArg D.str e4.symm)) (EV.name m3) (BinD.cat ?_)) EV.str (BinD.cat ?_)) (EV.call m7 (EVs.cons (EV.bin (EV.name m2) EV.int BinD.sub) (EVs.cons EV.int EVs.nil)) (whole_text_gf F (L.length + P - 1 : Int) 10 (by decide) (by decide) ?_) (by decide)) (BinD.cat ?_)) ?_
      · rw [S_len, S_len]; unfold sizeLine; simp only [List.length_singleton]; lia
      · rw [S_e, S_cat, S_len, S_len, List.length_append]; unfold sizeLine; simp only [List.length_singleton]; lia
      · exact Nat.lt_of_lt_of_le (show (L.length + P - 1 : Int).natAbs < 2 ^ 20 by lia) (Nat.pow_le_pow_right (by decide) (by decide))
      · rw [S_e, S_cat, S_cat, S_len, S_len, List.length_append, List.length_append]; unfold sizeLine; simp only [List.length_singleton]; lia
      · rw [S_e, S_cat, S_cat, S_cat]
/-- the text of a real, radix ten -/
noncomputable def decT (s : Int) (f : Nat) (P : Int) : List Nat := (if s < 0 then [45] else []) ++ laidT (figs 10 f) P
theorem laidT_len (L : List Nat) (P : Int) (h0 : L ≠ []) (hl : L.length ≤ 3000) (hP : P.natAbs ≤ 1000) : (laidT L P).length ≤ 9000 := by
  have hpos : 0 < L.length := List.length_pos_iff.mpr h0
  have hw := wholeT_len (r := 10) (n := (L.length + P - 1 : Int)) (k := 20) (by decide) (by decide) (by lia)
  unfold laidT
  split
  · split <;> simp <;> lia
  · split
    · simp; lia
    · simp only [List.length_append, List.length_singleton]; split <;> simp <;> lia
theorem figs_last {f : Nat} (hf : f % 10 ≠ 0) : figs 10 f = [] ∨ (figs 10 f).getLastD 0 ≠ 48 := by
  right
  unfold figs
  have e := digs_last (r := 10) (by decide) (show 0 < f by lia)
  have hne := digs_ne (r := 10) (by decide) f
  rw [List.getLastD_eq_getLast?, List.getLast?_eq_some_getLast hne] at e
  rw [List.getLastD_eq_getLast?, List.getLast?_map, List.getLast?_eq_some_getLast hne]
  simp only [Option.getD_some, Option.map_some] at e ⊢
  rw [e, fig_ten (Nat.mod_lt _ (by decide))]; lia
theorem sign_neg (s : Int) (hs : s = 1 ∨ s = -1) {M : Nat} (hM : 0 < M) : (s * (M : Int)).sign = s ∧ (s * (M : Int)).natAbs = M := by
  rcases hs with h | h <;> subst h
  · rw [Int.one_mul]; exact ⟨Int.sign_natCast_of_ne_zero (by lia), Int.natAbs_natCast M⟩
  · rw [Int.neg_one_mul, Int.sign_neg, Int.natAbs_neg]; exact ⟨by rw [Int.sign_natCast_of_ne_zero (by lia)], Int.natAbs_natCast M⟩
theorem decimal_text_gf {c : Cx} (F : Facts c) (p : Nat) (s : Int) (hs : s = 1 ∨ s = -1) (M : Nat) (hM : 0 < M) (e : Int) (f : Nat) (P : Int) (hg : GF c (Str.ofString "shortest_figures") 5 [.int p, RealD M e] (.tup [.int f, .int P]))
    (h10 : f % 10 ≠ 0) (hf : f < 2 ^ 2000) (hP : P.natAbs ≤ 1000) : GF c (Str.ofString "decimal_text") 6 [.int p, RealD (s * M) e] (.str (S (decT s f P))) := by
  refine ⟨_, F.decimal_text.name, F.decimal_text.keep, ?_⟩
  refine FN.of F.decimal_text.fn (okSt 41 (by decide)) rfl (by dsimp only [initEnv, List.cons_append, List.nil_append, List.append_nil]) rfl ?_
  obtain ⟨q1, q2⟩ := sign_neg s hs hM
  have hm : GF c (Str.ofString "magnitude") 3 [RealD (s * M) e] (RealD M e) := by have := magnitude_gf F (s * M) e; rwa [q2] at this
  have hsg : GF c (Str.ofString "sign_of") 2 [RealD (s * M) e] (.int s) := by have := sign_of_gf F (s * M) e; rwa [q1] at this
  have hf3 : f < 2 ^ 3000 := Nat.lt_trans hf (pow_lt (by decide))
  have hl := figs_le (r := 10) (by decide) hf3
  have hne : figs 10 f ≠ [] := by unfold figs; intro h; exact digs_ne (by decide) f (List.map_eq_nil_iff.mp h)
  have hll := laidT_len (figs 10 f) P hne hl hP
  have hs0 : ¬ s = 0 := by lia
  with_reducible refine' EX.iteF (TR.of (TR.cmp (EV.call m5 (EVs.cons (EV.name m1) EVs.nil) hsg (by decide)) EV.int CmpD.eq) (decide_eq_false hs0)) ?_
  refine EX.pop ?_
  with_reducible refine' EX.assign2 (EV.call m6 (EVs.cons (EV.name m0) (EVs.cons (EV.call m7 (EVs.cons (EV.name m1) EVs.nil) hm (by decide)) EVs.nil)) hg (by decide)) p2 p3 ?_
  with_reducible refine' EX.assign2 (EV.call m8 (EVs.cons (EV.call m9 (EVs.cons (EV.name m2) (EVs.cons EV.int EVs.nil)) (figures_of_gf F f 10 (by decide) (by decide) hf3) (by decide)) (EVs.cons (EV.name m3) EVs.nil)) (without_noughts_gf F _ _ (figs_last h10) (by lia)) (by decide)) p4 p3 ?_
  with_reducible refine' EX.retOf (EV.bin (EV.iteS (TR.cmp (EV.call m5 (EVs.cons (EV.name m1) EVs.nil) hsg (by decide)) EV.int CmpD.lt) (fun h => EV.str) (fun h => EV.str)) (EV.call m10 (EVs.cons (EV.name m4) (EVs.cons (EV.name m3) EVs.nil)) (laid_out_gf F _ _ hne hl hP) (by decide)) (BinD.cat ?_)) ?_
  · rw [S_nil, S_minus, S_len]; split <;> rw [S_len] <;> unfold sizeLine <;> simp <;> lia
  · refine congrArg D.str ?_
    unfold decT
    rw [S_nil, S_minus]
    by_cases h : s < 0
    · rw [if_pos h, if_pos (decide_eq_true h), S_cat]
    · rw [if_neg h, if_neg (by simpa using h), S_cat]
theorem decimal_zero_gf {c : Cx} (F : Facts c) (p : Nat) : GF c (Str.ofString "decimal_text") 6 [.int p, RealD 0 0] (.str (S [48, 46, 48])) := by
  refine ⟨_, F.decimal_text.name, F.decimal_text.keep, ?_⟩
  refine FN.of F.decimal_text.fn (okSt 41 (by decide)) rfl (by dsimp only [initEnv, List.cons_append, List.nil_append, List.append_nil]) rfl ?_
  with_reducible refine' EX.iteT (TR.of (TR.cmp (EV.call m5 (EVs.cons (EV.name m1) EVs.nil) (sign_of_gf F 0 0) (by decide)) EV.int CmpD.eq) (by decide)) ?_
  with_reducible refine' EX.retOf EV.str ?_
  exact congrArg D.str S_zdz
/-- number_text, radix ten -/
theorem number_text_fn {c : Cx} (F : Facts c) (p : Nat) (m e : Int) (T : Str) {ds : List D} {dd : List D} (hf : FnSt c 342 (st 42) dd) (hdd : ds ++ dd = [.int p, RealD m e, .int 10]) (hl : ds.length + dd.length = 3) (hg : GF c (Str.ofString "decimal_text") 6 [.int p, RealD m e] (.str T)) : FN c 7 (.ref 342) ds (.str T) := by
  refine FN.of hf (okSt 42 (by decide)) rfl (by rewrite [hdd]; dsimp only [initEnv, List.cons_append, List.nil_append, List.append_nil]) hl ?_
  with_reducible refine' EX.iteF (TR.of (TR.not (TR.plain (EV.call m5 (EVs.cons (EV.name m1) EVs.nil) (is_real_gf F ..) (by decide)))) (by decide)) ?_
  refine EX.pop ?_
  with_reducible refine' EX.iteT (TR.of (TR.cmp (EV.name m2) EV.int CmpD.eq) (by decide)) ?_
  with_reducible exact EX.ret (EV.call m7 (EVs.cons (EV.name m0) (EVs.cons (EV.name m1) EVs.nil)) hg (by decide))
theorem number_text2_gf {c : Cx} (F : Facts c) (p : Nat) (m e : Int) (T : Str) (hg : GF c (Str.ofString "decimal_text") 6 [.int p, RealD m e] (.str T)) : GF c (Str.ofString "number_text") 7 [.int p, RealD m e] (.str T) :=
  ⟨_, F.number_text.name, F.number_text.keep, number_text_fn F p m e T F.number_text_d rfl rfl hg⟩
theorem number_text3_gf {c : Cx} (F : Facts c) (p : Nat) (m e : Int) (T : Str) (hg : GF c (Str.ofString "decimal_text") 6 [.int p, RealD m e] (.str T)) : GF c (Str.ofString "number_text") 7 [.int p, RealD m e, .int 10] (.str T) :=
  ⟨_, F.number_text.name, F.number_text.keep, number_text_fn F p m e T F.number_text.fn rfl rfl hg⟩
/-- number_text, another radix -/
theorem number_textR_gf {c : Cx} (F : Facts c) (p : Nat) (m e : Int) (r : Nat) (hr : 2 ≤ r) (hr2 : r ≤ 16) (h10 : r ≠ 10) (hm : m.natAbs < 2 ^ 1000) (he : e.natAbs ≤ 1000) (hg : Nat.gcd (m * 2 ^ e.toNat).natAbs (2 ^ (-e).toNat) = 1) :
    GF c (Str.ofString "number_text") 7 [.int p, RealD m e, .int r] (.str (S ([35, 105] ++ exactT r (m * 2 ^ e.toNat) (2 ^ (-e).toNat)))) := by
  refine ⟨_, F.number_text.name, F.number_text.keep, ?_⟩
  refine FN.of F.number_text.fn (okSt 42 (by decide)) rfl (by dsimp only [initEnv, List.cons_append, List.nil_append, List.append_nil]) rfl ?_
  have t1 : (m * 2 ^ e.toNat).natAbs < 2 ^ 3000 := by
    rw [Int.natAbs_mul, Int.natAbs_pow]
    have h2 : 2 ^ e.toNat < 2 ^ 1001 := pow_lt (by lia)
    have h3 := Nat.mul_lt_mul'' hm h2
    rw [← Nat.pow_add] at h3
    exact Nat.lt_trans h3 (pow_lt (by decide))
  have b1 : 2 ^ (-e).toNat < 2 ^ 3000 := pow_lt (by lia)
  with_reducible refine' EX.iteF (TR.of (TR.not (TR.plain (EV.call m5 (EVs.cons (EV.name m1) EVs.nil) (is_real_gf F ..) (by decide)))) (by decide)) ?_
  refine EX.pop ?_
  with_reducible refine' EX.iteF (TR.of (TR.cmp (EV.name m2) EV.int CmpD.eq) (decide_eq_false (by lia))) ?_
  refine EX.pop ?_
  with_reducible refine' EX.assign2 (EV.call m8 (EVs.cons (EV.name m1) EVs.nil) (exact_parts_gf F m e hm he) (by decide)) p3 p4 ?_
  with_reducible refine' EX.retOf (EV.bin EV.str (EV.call m6 (EVs.cons (EV.call m9 (EVs.cons (EV.name m3) (EVs.cons (EV.of (EV.name m4) (congrArg D.int (pow2_cast _))) EVs.nil)) (ratio_of_gf F _ _ (Nat.two_pow_pos _) hg) (by decide)) (EVs.cons (EV.name m2) EVs.nil)) (exact_text_gf F _ _ _ hr hr2 t1 b1) (by decide)) (BinD.cat ?_)) ?_
  · rw [S_hi, S_len, S_len]
    have l1 := wholeT_len hr (by decide) t1
    have l2 := wholeT_len (n := ((2 ^ (-e).toNat : Nat) : Int)) hr (by decide) b1
    unfold exactT sizeLine; split <;> simp only [List.length_append, List.length_cons, List.length_nil] <;> lia
  · rw [S_hi, S_cat]
end Mine
end
section
-- A14
open PySem PySem.W PyProof.Rows
set_option Elab.async false
set_option linter.all false
set_option maxRecDepth 100000
namespace Mine
section
variable {c : Cx} {k : Nat} {nl : NL} {ρ ρ' ρ'' ρ3 : Names} {μ μ' : Mu}
/-- a change at addresses that are nobody's -/
theorem At.kpW {A : Around} {env : Env} {S W : Addr → Prop} {s s' : Shared} (a : At c k nl ρ μ A env S s) (hI : ∀ b, W b → S b) (n1 : ¬ W env.locals) (n2 : ∀ x b, env.cells.lookup x = some b → ¬ W b) (n3 : ∀ b, μ.has b → ¬ W b) (q : Kp W s s') (hs : ∀ b, W b → (s'.heap.get? b).isSome = true) : At c k nl ρ μ A env S s' :=
  { room := a.room
    scope := a.scope
    glob := a.glob
    blt := a.blt
    kind := a.kind
    names := a.names
    dbg := a.dbg
    live := a.live.kp a.inn q (fun b hb _ => hs b hb)
    inn := a.inn.kp a.live hI q
    ns := by
      obtain ⟨m, o, es, ep, e, r⟩ := a.ns
      exact ⟨m, o, es, ep, q.keep _ _ n1 a.locb e, r⟩
    loc := a.loc
    locb := a.locb
    cells := fun x b e => by
      obtain ⟨h1, h2, h3, v, o, h4, h5⟩ := a.cells x b e
      exact ⟨h1, h2, h3, v, o, q.keep _ _ (n2 x b e) h2 h4, h5⟩
    cellOne := a.cellOne
    cellHas := a.cellHas
    nodup := a.nodup
    kinds := a.kinds
    rep := fun x d h => by
      obtain ⟨v, st, r⟩ := a.rep x d h
      refine ⟨v, ?_, r.kp a.live.blt hI q⟩
      rcases st with ⟨h1, m, ⟨o, es, ep, e, r⟩, h3⟩ | ⟨h1, b, h2, o, h3, h4⟩
      · exact .inl ⟨h1, m, ⟨o, es, ep, q.keep _ _ n1 a.locb e, r⟩, h3⟩
      · exact .inr ⟨h1, b, h2, o, q.keep _ _ (n2 x b h2) (a.cells x b h2).2.1 h3, h4⟩
    mu := a.mu.mono (fun b o hb e => q.keep b o (n3 b hb) (a.muS b hb).2.1 e) (fun b o n e => q.keep b o (fun h => n (hI b h)) (fun z => n (z ▸ a.live.blt)) e) fun _ n _ => n
    muS := a.muS }
/-- new addresses more may change -/
theorem At.growW {A : Around} {env : Env} {S S' W : Addr → Prop} {s0 s : Shared} (a0 : At c k nl ρ μ A env S s0) (kp : Kp No s0 s) (hS : ∀ b, S' b ↔ S b ∨ W b) (hn : ∀ b, W b → s0.heap.get? b = none) (hs : ∀ b, W b → (s.heap.get? b).isSome = true) : At c k nl ρ μ A env S' s := by
  have a := a0.kp kp
  have nS : ∀ b, ¬ S b → (s0.heap.get? b).isSome = true → ¬ S' b := fun b hb h => by
    intro h'
    rcases (hS b).mp h' with h' | h'
    · exact hb h'
    · rw [hn b h'] at h; cases h
  exact {
    room := a.room
    scope := a.scope
    kind := a.kind
    glob := a.glob
    blt := a.blt
    names := a.names
    dbg := a.dbg
    live := ⟨(hS _).mpr (.inl a.live.blt), fun b hb => by
      rcases (hS b).mp hb with hb | hb
      · exact a.live.all b hb
      · obtain ⟨n1, n2, n3, n4⟩ := newAddr a0.inn (hn b hb)
        exact ⟨hs b hb, n1, n2, n3⟩⟩
    inn := a.inn
    ns := a.ns
    loc := (hS _).mpr (.inl a.loc)
    locb := a.locb
    cells := fun x b e => let ⟨h1, h2⟩ := a.cells x b e; ⟨(hS _).mpr (.inl h1), h2⟩
    cellOne := a.cellOne
    cellHas := a.cellHas
    nodup := a.nodup
    kinds := a.kinds
    rep := fun x d h => by
      obtain ⟨v, st, r⟩ := a0.rep x d h
      refine ⟨v, ?_, r.mono (fun b o n e => kp.keep b o id (fun q => n (q ▸ a0.live.blt)) e) nS⟩
      rcases st with ⟨h1, m, ⟨o, es, ep, e, r⟩, h3⟩ | ⟨h1, b, h2, o, h3, h4⟩
      · exact .inl ⟨h1, m, ⟨o, es, ep, kp.keep _ _ id a0.locb e, r⟩, h3⟩
      · exact .inr ⟨h1, b, h2, o, kp.keep _ _ id (a0.cells x b h2).2.1 h3, h4⟩
    mu := a0.mu.mono (fun b o hb e => kp.keep b o id (a0.muS b hb).2.1 e) (fun b o n e => kp.keep b o id (fun z => n (z ▸ a0.live.blt)) e) nS
    muS := fun b hb => let ⟨h1, h2⟩ := a.muS b hb; ⟨(hS _).mpr (.inl h1), h2⟩ }
/-- the addresses are let go, whatever becomes of them -/
theorem At.dropW {A : Around} {env : Env} {S S' W : Addr → Prop} {s s' : Shared} (a : At c k nl ρ μ A env S' s) (hS : ∀ b, S' b ↔ S b ∨ W b) (h1 : S builtinsNs) (h2 : S env.locals) (h3 : ∀ x b, env.cells.lookup x = some b → S b) (h4 : ∀ b, μ.has b → S b) (nI : ∀ b, W b → ¬ S b) (q : Kp W s s') : At c k nl ρ μ A env S s' := by
  have ne : ∀ b, S b → ¬ W b := fun b hb e => nI b e hb
  have i' : c.In s'.heap := a.inn.kp a.live (fun b hb => (hS b).mpr (.inr hb)) q
  have nn : ∀ {b}, ¬ S' b → ¬ W b := fun n z => n ((hS _).mpr (.inr z))
  have nb : ∀ {b}, ¬ S' b → b ≠ builtinsNs := fun n z => n (z ▸ (hS _).mpr (.inl h1))
  have ns : ∀ {b}, ¬ S' b → ¬ S b := fun n z => n ((hS _).mpr (.inl z))
  exact {
    room := a.room
    scope := a.scope
    glob := a.glob
    blt := a.blt
    kind := a.kind
    names := a.names
    dbg := a.dbg
    live := ⟨h1, fun b hb => by
      obtain ⟨e1, e2⟩ := a.live.all b ((hS b).mpr (.inl hb))
      refine ⟨?_, e2⟩
      by_cases hbb : b = builtinsNs
      · subst hbb; obtain ⟨o, _, _, e, _⟩ := i'.b; rw [e]; rfl
      · obtain ⟨o, e⟩ := Option.isSome_iff_exists.mp e1; rw [q.keep b o (ne b hb) hbb e]; rfl⟩
    inn := i'
    ns := by
      obtain ⟨m, o, es, ep, e, r⟩ := a.ns
      exact ⟨m, o, es, ep, q.keep _ _ (ne _ h2) a.locb e, r⟩
    loc := h2
    locb := a.locb
    cells := fun x b e => by
      obtain ⟨_, e2, e3, v, o, h4, h5⟩ := a.cells x b e
      exact ⟨h3 x b e, e2, e3, v, o, q.keep _ _ (ne _ (h3 x b e)) e2 h4, h5⟩
    cellOne := a.cellOne
    cellHas := a.cellHas
    nodup := a.nodup
    kinds := a.kinds
    rep := fun x d h => by
      obtain ⟨v, st, r⟩ := a.rep x d h
      refine ⟨v, ?_, r.mono (fun b o n e => q.keep b o (nn n) (nb n) e) fun b n _ h => n ((hS b).mpr (.inl h))⟩
      rcases st with ⟨e1, m, ⟨o, es, ep, e, r⟩, e3⟩ | ⟨e1, b, e2, o, e3, e4⟩
      · exact .inl ⟨e1, m, ⟨o, es, ep, q.keep _ _ (ne _ h2) a.locb e, r⟩, e3⟩
      · exact .inr ⟨e1, b, e2, o, q.keep _ _ (ne _ (h3 x b e2)) (a.cells x b e2).2.1 e3, e4⟩
    mu := a.mu.mono (fun b o hb e => q.keep b o (ne _ (h4 b hb)) (a.muS b hb).2.1 e) (fun b o n e => q.keep b o (nn n) (nb n) e) fun b n _ h => n ((hS b).mpr (.inl h))
    muS := fun b hb => let ⟨_, h⟩ := a.muS b hb; ⟨h4 b hb, h⟩ }
theorem Kp.dropW {X W : Addr → Prop} {s0 s s' : Shared} (k0 : Kp X s0 s) (hn : ∀ b, W b → s0.heap.get? b = none) (k1 : Kp (fun b => X b ∨ W b) s s') : Kp X s0 s' :=
  ⟨by obtain ⟨h, t, e⟩ := k0.same; obtain ⟨h', t', e'⟩ := k1.same; exact ⟨h', t', by rw [e', e]⟩, fun b o n e => k1.keep0 b o (fun q => by rcases q with q | q; exact n q; rw [hn b q] at e; cases e) (k0.keep0 b o n e), fun m e => k1.blt m (k0.blt m e)⟩
/-- a target takes the datum -/
noncomputable def TB (c : Cx) (k : Nat) (nl : NL) (t : Expr) (d : D) (ρ ρ' : Names) : Prop := ∀ {μ : Mu} {A : Around} {env : Env} {S : Addr → Prop} {s : Shared} {v : Value} {Q : Unit → Shared → Prop} {E : Value → Shared → Prop},
  At c k nl ρ μ A env S s → Rep S s.heap d v → (∀ s', Kp (fun b => b = env.locals) s s' → At c k nl ρ' μ A env S s' → Q () s') → wpAny (model c.prog c.w) A (PySem.assign t env v) Q E s
theorem TB.name {x : Str} {p : Pos} {d : D} (h : (x, NameKind.local) ∈ nl) (P : Put x d ρ ρ') : TB c k nl (.Name x p) d ρ ρ' := fun a r q =>
  wpAny_assign_Name (a.storeL (a.local_ h) P r q)
theorem TB.pair {x y : Str} {p1 p2 tp : Pos} {n : Nat} {d1 d2 : D} (h1 : (x, NameKind.local) ∈ nl) (h2 : (y, NameKind.local) ∈ nl) (P1 : Put x d1 ρ ρ') (P2 : Put y d2 ρ' ρ'') : TB c k nl (.Tuple [.Name x p1, .Name y p2] n tp) (.tup [d1, d2]) ρ ρ'' := fun {μ A env S s v Q E} a r q => by
  obtain ⟨t, u, w, rfl, ht, r1, r2⟩ := r.tup2
  refine wpAny_assign_Tuple a.room.handled ht rfl rfl fun h' he => ?_
  have k2 : Kp No s { s with heap := h' } := Kp.heap (t := s.toks) fun b o e => he b o (Nat.ne_of_lt (Heap.lt_size e)) e
  have a2 := a.kp k2
  have r1' := r1.kp a.live.blt (fun _ q => q.elim) k2
  have r2' := r2.kp a.live.blt (fun _ q => q.elim) k2
  refine assignNames (a2.storeL (a.local_ h1) P1 r1' fun s3 k3 a3 => assignNames (a3.storeL (a.local_ h2) P2 (r2'.kp a2.live.blt (fun b hb => by rw [hb]; exact a2.loc) k3) fun s4 k4 a4 => assignDone (ts := []) (q s4 (k2.of_no.trans (k3.trans k4)) a4)))
/-- an iterator whose turns may write at W -/
structure IterT (c : Cx) (S : Addr → Prop) (A : Around) (t : Expr) (I : Addr) (W : Addr → Prop) (ds : List D) (St : Nat → Heap → Prop) : Prop where
  keep : ∀ i {h h' : Heap}, St i h → (∀ b o, (¬ S b ∨ W b) → h.get? b = some o → h'.get? b = some o) → St i h'
  some_ : ∀ i h, St i h → ∀ b, W b → (h.get? b).isSome = true
  item : ∀ i (s : Shared) (d : D) (Q : Value → Shared → Prop) (E : Value → Shared → Prop), ds[i]? = some d → St i s.heap → (∀ b, S b → (s.heap.get? b).isSome = true) → (∀ v s', Rep S s'.heap d v → St (i + 1) s'.heap → Kp W s s' → Q v s') →
    wpAny (model c.prog c.w) A (pyNext (.ref I)) (fun r s1 => match r with | none => False | some v => ∀ E', wpAny (model c.prog c.w) A (letOwnedTupleGo t (.ref I) v) (fun _ s2 => Q v s2) E' s1) E s
  self : ∀ i (s : Shared) (Q : Value → Shared → Prop) (E : Value → Shared → Prop), St i s.heap → Q (.ref I) s → wpAny (model c.prog c.w) A (pyIter (.ref I)) Q E s
  done : ∀ (s : Shared) (Q : Option Value → Shared → Prop) (E : Value → Shared → Prop), St ds.length s.heap → (∀ s', Kp W s s' → Q none s') → wpAny (model c.prog c.w) A (pyNext (.ref I)) Q E s
noncomputable def HasIterT (c : Cx) (S : Addr → Prop) (A : Around) (t : Expr) (I : Addr) (ds : List D) (s s' : Shared) : Prop :=
  ∃ W : Addr → Prop, W I ∧ (∀ b, W b → s.heap.get? b = none ∧ (s'.heap.get? b).isSome = true) ∧ ∀ X : Addr → Prop, (∀ b, X b → s.heap.get? b = none) → ∃ St, IterT c (fun b => S b ∨ W b ∨ X b) A t I W ds St ∧ St 0 s'.heap
noncomputable def IterET (c : Cx) (k : Nat) (nl : NL) (ρ : Names) (μ : Mu) (t e : Expr) (ds : List D) : Prop :=
  ∀ {A : Around} {env : Env} {S : Addr → Prop} {s : Shared} {Q : Value → Shared → Prop} {E : Value → Shared → Prop}, At c k nl ρ μ A env S s →
    (∀ I s1 s2, Kp No s s1 → Kp No s1 s2 → HasIterT c S A t I ds s1 s2 → Q (.ref I) s2) →
    wpAny (model c.prog c.w) A (eval e env) (fun v s1 => wpAny (model c.prog c.w) A (pyIter v) Q E s1) E s
theorem Iter.toT {S : Addr → Prop} {A : Around} {t : Expr} {I : Addr} {ds : List D} {St : Nat → Heap → Prop} (it : Iter c S A I ds St) (ht : ∀ v, letOwnedTupleGo t (.ref I) v = pure ()) : IterT c S A t I (fun b => b = I) ds St where
  keep := it.keep
  some_ := fun i h st b hb => by rw [show b = I from hb]; exact it.some_ i h st
  item := fun i s d Q E hd st _ q => it.item i s d _ E hd st fun v s' r st' kp E' => by rw [ht]; exact wpAny_pure (q v s' r st' kp)
  self := it.self
  done := it.done
theorem IterET.of {x : Str} {px : Pos} {e : Expr} {ds : List D} (h : IterE c k nl ρ μ e ds) : IterET c k nl ρ μ (.Name x px) e ds := fun {A env S s Q E} a q =>
  h a fun I s1 s2 k1 k2 hn hs hit => q I s1 s2 k1 k2 ⟨fun b => b = I, rfl, fun b hb => by rw [show b = I from hb]; exact ⟨hn, hs⟩, fun X hX => by
    obtain ⟨St, it, st⟩ := hit X hX
    exact ⟨St, it.toT fun v => rfl, st⟩⟩
/-- what stands in a clause behind its tests -/
noncomputable def emitG (e elt : Expr) (gens : List Comprehension) (d : Nat) (acc : Value) (env : Env) : Sem Unit :=
  match gens[d + 1]? with
  | some g' => do
      let x ← eval g'.iter env
      standAt g'.iter.pos
      let x ← if g'.is_async != 0 then foldedIterable g'.iter x else foldedSetIterable g'.iter env x
      let _ ← runOwn (.compStart e (d + 1) (← holding [x] (if g'.is_async != 0 then asyncIter x else pyIter x)) acc env) env
  | none => do let _ ← call (.builtin "list.append") [acc, ← eval elt env]
theorem compTurn_G {elt target iter : Expr} {ifs : List Expr} {gens : List Comprehension} {d : Nat} {scope : Scope} {pos : Pos} {it acc : Value} {env : Env} (hg : gens[d]? = some ⟨target, iter, ifs, 0⟩) (ha : ∀ g, gens[d + 1]? = some g → g.is_async = 0) :
    compTurn (.ListComp elt gens scope pos) d it acc env = (do
      standAt iter.pos
      match ← pyNext it with
      | none => pure (.done .next)
      | some v =>
        letOwnedTupleGo target it v
        PySem.assign target env v
        let mut ok := true
        for c in ifs do
          if ok then ok ← isTrue c env (eval c env)
        if ok then emitG (.ListComp elt gens scope pos) elt gens d acc env
        again (.compLoop (.ListComp elt gens scope pos) d it acc env)) := by
  cases hn : gens[d + 1]? with
  | none =>
    unfold compTurn emitG
    simp only [hg, hn]
    rfl
  | some g' =>
    obtain ⟨t', i', f', z⟩ := g'
    have hz := ha _ hn
    simp only at hz
    subst hz
    unfold compTurn emitG
    simp only [hg, hn, bne_self_eq_false, Bool.false_eq_true, if_false, bind_assoc]
    try rfl
theorem compTurnG_ {A : Around} {env : Env} {s : Shared} {I : Addr} {elt target iter : Expr} {ifs : List Expr} {gens : List Comprehension} {d : Nat} {scope : Scope} {pos : Pos} {acc : Value} {R : Result → Shared → Prop} (hg : gens[d]? = some ⟨target, iter, ifs, 0⟩) (ha : ∀ g, gens[d + 1]? = some g → g.is_async = 0)
    (h : wpAny (model c.prog c.w) A (pyNext (.ref I)) (fun r s₁ => match r with
      | none => R (.ok .next) s₁
      | some v => ∀ E, wpAny (model c.prog c.w) A (letOwnedTupleGo target (.ref I) v) (fun _ s₀ => wpAny (model c.prog c.w) A (PySem.assign target env v) (fun _ s₂ => wpAny (model c.prog c.w) A (forIn ifs true fun c r => if r = true then do let ok ← isTrue c env (eval c env); pure (ForInStep.yield ok) else pure (ForInStep.yield r)) (fun ok s₃ =>
          if ok = true then wpAny (model c.prog c.w) A (emitG (.ListComp elt gens scope pos) elt gens d acc env) (fun _ s₅ => codeAny (model c.prog c.w) A (.compLoop (.ListComp elt gens scope pos) d (.ref I) acc env) R s₅) E s₃
          else codeAny (model c.prog c.w) A (.compLoop (.ListComp elt gens scope pos) d (.ref I) acc env) R s₃) E s₂) E s₀) E s₁) (fun _ _ => False) s) :
    codeAny (model c.prog c.w) A (.compLoop (.ListComp elt gens scope pos) d (.ref I) acc env) R s := by
  refine codeAny_of_tree ?_
  show wpAny _ A ((compTurn (.ListComp elt gens scope pos) d (.ref I) acc env).onRaise (fun x => do noteFrame x env; theTreesLotGoes x)) _ _ s
  refine wpAny_noted ?_
  rw [compTurn_G hg ha]
  refine wpAny_bind (wpAny_standAt (wpAny_bind (wpAny_mono h (fun r s₁ h₁ => ?_) fun _ _ h' => h'.elim)))
  cases r with
  | none => exact wpAny_pure h₁
  | some v =>
    refine wpAny_bind (wpAny_mono (h₁ _) (fun _ s₀ h₀ => ?_) fun _ _ h' => h')
    refine wpAny_bind (wpAny_mono h₀ (fun _ s₂ h₂ => wpAny_bind (wpAny_mono h₂ (fun ok s₃ h₃ => ?_) fun _ _ h' => h')) fun _ _ h' => h')
    cases ok with
    | false => exact wpAny_pure ⟨rfl, h₃⟩
    | true => exact wpAny_bind (wpAny_mono h₃ (fun x s₄ h₄ => wpAny_pure ⟨rfl, h₄⟩) fun _ _ h' => h')
theorem compStartG_ {A : Around} {env : Env} {s : Shared} {it acc : Value} {elt target iter : Expr} {ifs : List Expr} {gens : List Comprehension} {d : Nat} {scope : Scope} {pos : Pos} {R : Result → Shared → Prop} (hg : gens[d]? = some ⟨target, iter, ifs, 0⟩)
    (h0 : codeAny (model c.prog c.w) A (.compLoop (.ListComp elt gens scope pos) d it acc env) R s)
    (h : ∀ E, wpAny (model c.prog c.w) A (pyIter it) (fun it' s' => codeAny (model c.prog c.w) A (.compLoop (.ListComp elt gens scope pos) d it' acc env) R s') E s) :
    codeAny (model c.prog c.w) A (.compStart (.ListComp elt gens scope pos) d it acc env) R s := by
  refine codeAny_of_tree ?_
  show wpAny _ _ ((compStart (.ListComp elt gens scope pos) d it acc env).onRaise (fun x => do noteFrame x env; standAt theWindowsPlace)) _ _ s
  refine wpAny_notedAt ?_
  have e : compStart (.ListComp elt gens scope pos) d it acc env = (do
      if (← ask).params.followText "comprehension-iter-twice" then return ← again (.compLoop (.ListComp elt gens scope pos) d it acc env)
      rule "comprehension.iter-twice"
      standAt iter.pos
      again (.compLoop (.ListComp elt gens scope pos) d (← pyIter it) acc env)) := by
    unfold compStart
    rw [show clausesOf (.ListComp elt gens scope pos) = gens from rfl]
    simp only [hg]
    rfl
  rw [e]
  show wpAny _ _ (ask >>= _) _ _ s
  refine wpAny_bind (wpAny_askSetting (wpAny_ite ?_))
  split
  · first
      | exact wpAny_bind (wpAny_pure (wpAny_pure (And.intro rfl h0)))
      | exact wpAny_pure (And.intro rfl h0)
  · first
      | exact wpAny_bind (wpAny_rule (wpAny_bind (wpAny_standAt (wpAny_bind (wpAny_mono (h _) (fun it' s' h' => wpAny_pure (And.intro rfl h')) fun _ _ x => x)))))
      | (refine wpAny_bind (wpAny_rule ?_); show wpAny _ _ (standAt iter.pos >>= _) _ _ s; exact wpAny_bind (wpAny_standAt (wpAny_bind (wpAny_mono (h _) (fun it' s' h' => wpAny_pure (And.intro rfl h')) fun _ _ x => x))))
end
end Mine
end
section
-- A15
open PySem PySem.W PyProof.Rows
set_option Elab.async false
set_option linter.all false
set_option maxRecDepth 100000
namespace Mine
section
variable {c : Cx} {k : Nat} {nl : NL} {ρ ρ' ρ'' ρ3 : Names} {μ μ' : Mu}
/-- a clause's inside: l more items -/
noncomputable def EmitOk (c : Cx) (k : Nat) (nl : NL) (comp elt : Expr) (gens : List Comprehension) (d : Nat) (ρ : Names) (l : List D) : Prop :=
  ∀ {A : Around} {env : Env} {S : Addr → Prop} {s : Shared} {D₀ : Addr} {acc : List D} {Q : Unit → Shared → Prop} {E : Value → Shared → Prop}, NoFree env → At c k nl ρ (.pls D₀ acc) A env S s → acc.length + l.length ≤ sizeLine →
    (∀ s', Kp (fun b => b = D₀ ∨ b = env.locals) s s' → At c k nl ρ (.pls D₀ (acc ++ l)) A env S s' → Q () s') → wpAny (model c.prog c.w) A (emitG comp elt gens d (.ref D₀) env) Q E s
theorem EmitOk.elt {comp elt : Expr} {gens : List Comprehension} {d : Nat} {e : D} (hn : gens[d + 1]? = .none) (h : ∀ μ, EV c k nl ρ μ elt e) : EmitOk c k nl comp elt gens d ρ [e] := fun {A env S s D₀ acc Q E} nf a hz q => by
  unfold emitG
  rw [hn]
  show wpAny _ A (eval elt env >>= fun x => call (.builtin "list.append") [.ref D₀, x] >>= fun _ => pure ()) Q E s
  refine wpAny_bind (h _ a fun y s4 k4 ry => wpAny_bind ((a.kp k4).appendK ry (by simp at hz; lia) fun s5 k5 a5 => wpAny_pure (q s5 (k4.of_no.trans (k5.weak fun b h => .inl h)) a5)))
/-- what a comprehension's clause makes of the data -/
inductive CLG (c : Cx) (k : Nat) (nl : NL) (comp elt : Expr) (gens : List Comprehension) (d : Nat) (t : Expr) (ρ0 : Names) (ifs : List Expr) : List D → List D → Prop
  | nil : CLG c k nl comp elt gens d t ρ0 ifs [] []
  | skip {ρ' : Names} {x : D} {ds es : List D} : TB c k nl t x ρ0 ρ' → Weak ρ' ρ0 → (∀ μ, TRs c k nl ρ' μ ifs false) → CLG c k nl comp elt gens d t ρ0 ifs ds es → CLG c k nl comp elt gens d t ρ0 ifs (x :: ds) es
  | take {ρ' : Names} {x : D} {ds l es : List D} : TB c k nl t x ρ0 ρ' → Weak ρ' ρ0 → (∀ μ, TRs c k nl ρ' μ ifs true) → EmitOk c k nl comp elt gens d ρ' l → CLG c k nl comp elt gens d t ρ0 ifs ds es → CLG c k nl comp elt gens d t ρ0 ifs (x :: ds) (l ++ es)
theorem CLG.run {elt t iter : Expr} {ifs : List Expr} {gens : List Comprehension} {d : Nat} {sc : Scope} {pos : Pos} {ρ0 : Names} {A : Around} {env : Env} {S W : Addr → Prop} {s0 : Shared} {I D₀ : Addr} {St : Nat → Heap → Prop} {ds₀ : List D} {R : Result → Shared → Prop}
    (hg : gens[d]? = some ⟨t, iter, ifs, 0⟩) (ha : ∀ g, gens[d + 1]? = some g → g.is_async = 0) (nf : NoFree env) (hW : ∀ b, W b → S b) (n1 : ¬ W env.locals) (n2 : ∀ y b, env.cells.lookup y = some b → ¬ W b) (n3 : ¬ W D₀) (nb : ¬ W builtinsNs) (it : IterT c S A t I W ds₀ St)
    {es₀ : List D} (hz : es₀.length ≤ sizeLine) (fin : ∀ s', At c k nl ρ0 (.pls D₀ es₀) A env S s' → Kp (fun b => W b ∨ b = D₀ ∨ b = env.locals) s0 s' → ∀ s'', Kp W s' s'' → R (.ok .next) s'') :
    ∀ {ds es : List D}, CLG c k nl (.ListComp elt gens sc pos) elt gens d t ρ0 ifs ds es → ∀ {pre acc : List D} {s : Shared}, ds₀ = pre ++ ds → es₀ = acc ++ es → At c k nl ρ0 (.pls D₀ acc) A env S s → St pre.length s.heap → Kp (fun b => W b ∨ b = D₀ ∨ b = env.locals) s0 s →
    codeAny (model c.prog c.w) A (.compLoop (.ListComp elt gens sc pos) d (.ref I) (.ref D₀) env) R s := by
  intro ds es cl
  induction cl with
  | nil =>
    intro pre acc s hd he a st kp
    rw [List.append_nil] at hd he
    subst hd; subst he
    exact compTurnG_ hg ha (it.done s _ _ st fun s' k1 => fin s a kp s' k1)
  | @skip ρ' x ds es tb wk ht hc ih =>
    intro pre acc s hd he a st kp
    refine compTurnG_ hg ha (wpAny_mono (it.item pre.length s x (fun v s2 => ∀ E, wpAny (model c.prog c.w) A (PySem.assign t env v) _ E s2) (fun _ _ => False) (by rw [hd]; simp) st (fun b hb => (a.live.all b hb).1) fun v s1 rv st1 k1 E => ?_) (fun r s1 h1 => by
      cases r with
      | none => exact h1.elim
      | some v => exact fun E => wpAny_mono (h1 E) (fun _ s2 h2 => h2 E) fun _ _ e => e) fun _ _ e => e)
    have a1 := a.kpW hW n1 n2 (fun b hb => by rw [show b = D₀ from hb]; exact n3) k1 (it.some_ _ _ st1)
    refine tb a1 rv fun s2 k2 a2 => (ht _).run a2 fun s3 k3 => ?_
    rw [if_neg (by decide)]
    refine ih (pre := pre ++ [x]) (by rw [hd]; simp) he ((a2.kp k3).weak wk) ?_ ((kp.trans (k1.weak fun b h => .inl h)).trans ((k2.weak fun b h => .inr (.inr h)).trans k3.of_no))
    rw [List.length_append]
    have nbb : ∀ b, (¬ S b ∨ W b) → b ≠ builtinsNs := fun b hb q => by subst q; rcases hb with hb | hb; exact hb a1.live.blt; exact nb hb
    exact it.keep _ st1 fun b o hb e => k3.keep b o id (nbb b hb) (k2.keep b o (fun q => by rcases hb with hb | hb; exact hb (q ▸ a1.loc); exact n1 (q ▸ hb)) (nbb b hb) e)
  | @take ρ' x ds l es tb wk ht he' hc ih =>
    intro pre acc s hd he a st kp
    refine compTurnG_ hg ha (wpAny_mono (it.item pre.length s x (fun v s2 => ∀ E, wpAny (model c.prog c.w) A (PySem.assign t env v) _ E s2) (fun _ _ => False) (by rw [hd]; simp) st (fun b hb => (a.live.all b hb).1) fun v s1 rv st1 k1 E => ?_) (fun r s1 h1 => by
      cases r with
      | none => exact h1.elim
      | some v => exact fun E => wpAny_mono (h1 E) (fun _ s2 h2 => h2 E) fun _ _ e => e) fun _ _ e => e)
    have a1 := a.kpW hW n1 n2 (fun b hb => by rw [show b = D₀ from hb]; exact n3) k1 (it.some_ _ _ st1)
    refine tb a1 rv fun s2 k2 a2 => (ht _).run a2 fun s3 k3 => ?_
    rw [if_pos rfl]
    have a3 := a2.kp k3
    have hz' : acc.length + l.length ≤ sizeLine := by rw [he, List.length_append, List.length_append] at hz; lia
    refine he' nf a3 hz' fun s5 k5 a5 => ?_
    refine ih (pre := pre ++ [x]) (acc := acc ++ l) (by rw [hd]; simp) (by rw [he]; simp) (a5.weak wk) ?_ ((kp.trans (k1.weak fun b h => .inl h)).trans (((k2.weak fun b h => .inr (.inr h)).trans k3.of_no).trans (k5.weak fun b h => .inr h)))
    rw [List.length_append]
    have nbb : ∀ b, (¬ S b ∨ W b) → b ≠ builtinsNs := fun b hb q => by subst q; rcases hb with hb | hb; exact hb a1.live.blt; exact nb hb
    have nlo : ∀ b, (¬ S b ∨ W b) → b ≠ env.locals := fun b hb q => by rcases hb with hb | hb; exact hb (q ▸ a1.loc); exact n1 (q ▸ hb)
    exact it.keep _ st1 fun b o hb e => k5.keep b o (fun q => by
      rcases q with q | q
      · rcases hb with hb | hb; exact hb (q ▸ (a3.muS D₀ rfl).1); exact n3 (q ▸ hb)
      · exact nlo b hb q) (nbb b hb) (k3.keep b o id (nbb b hb) (k2.keep b o (nlo b hb) (nbb b hb) e))
end
end Mine
end
section
-- A16
open PySem PySem.W PyProof.Rows
set_option Elab.async false
set_option linter.all false
set_option maxRecDepth 100000
namespace Mine
section
variable {c : Cx} {k : Nat} {nl : NL} {ρ ρ' ρ'' ρ3 : Names} {μ μ' : Mu}
noncomputable def compOkG (sc : Scope) (nl : NL) (xs : List Str) (fr : List Str) : Bool :=
  sc.kind == .function && allFresh (Str.ofString "__debug__" :: Str.ofString "__name__" :: sc.names.map (·.1)) && sc.names.all (fun p => match p.2 with | .cell => false | .free => nl.any fun q => sq q.1 p.1 && (match q.2 with | .cell => true | _ => false) | _ => true) &&
    xs.all (fun x => sc.names.any fun p => sq p.1 x && (match p.2 with | .local => true | _ => false)) && fr.all (fun y => sc.names.any fun p => sq p.1 y && (match p.2 with | .free => true | _ => false)) && allFresh (xs ++ fr)
theorem compRunG {elt tgt iter : Expr} {gs : List Comprehension} {xs : List Str} {pos pos' : Pos} {ifs : List Expr} {sc : Scope} {fr : Names} {ds es : List D} {A : Around} {env : Env} {S : Addr → Prop} {s : Shared} {Q : Value → Shared → Prop} {E : Value → Shared → Prop} {use : Option (Value → Sem Unit)}
    (ok : compOkG sc nl xs (fr.map (·.1)) = true) (ha : ∀ g, gs[0]? = some g → g.is_async = 0) (hfr : ∀ p ∈ fr, ∃ d, p.2 = some d ∧ p ∈ ρ) (hit : IterET c k nl ρ μ tgt iter ds) (cl : CLG c k (inBlock sc.names) (.ListComp elt (⟨tgt, iter, ifs, 0⟩ :: gs) sc pos) elt (⟨tgt, iter, ifs, 0⟩ :: gs) 0 tgt (xs.map (fun x => (x, Option.none)) ++ fr) ifs ds es) (hz : es.length ≤ sizeLine) (a : At c k nl ρ μ A env S s)
    (fin : ∀ D C s', s.heap.get? D = none → s.heap.get? C = none → D ≠ C → At c k nl ρ μ A env (fun b => S b ∨ b = C) s' → Kp No s s' → (∃ m, s'.heap.Ns C m) → (∃ vs, s'.heap.IsList D (List.toArray vs) ∧ Reps (fun b => S b ∨ b = C) s'.heap es vs) →
      compPost (model c.prog c.w) A E use Q (.ref D) C (.ok .next) s')
    (hs : ∀ x, foldedSetIterable iter env x = pure x) :
    wpAny (model c.prog c.w) A (comprehension (.ListComp elt (⟨tgt, iter, ifs, 0⟩ :: gs) sc pos) sc env pos' (newList []) false (eval iter env) use) Q E s := by
  simp only [compOkG, Bool.and_eq_true, beq_iff_eq] at ok
  obtain ⟨⟨⟨⟨⟨ok1, ok2⟩, ok3⟩, ok4⟩, ok5⟩, ok6⟩ := ok
  have nd2 := allFresh_nodup ok2
  simp only [List.nodup_cons, List.mem_cons, not_or] at nd2
  obtain ⟨⟨_, ndD⟩, ndN, nd0⟩ := nd2
  have frees : ∀ n, (n, NameKind.free) ∈ sc.names → (n, NameKind.cell) ∈ nl := fun n hn => by
    have := List.all_eq_true.mp ok3 _ hn
    simp only at this
    obtain ⟨kd, hm, hk⟩ := any_kind (g := fun kd => match kd with | .cell => true | _ => false) this
    cases kd <;> first | exact hm | cases hk
  have noCell : ∀ y ∈ sc.names, y.2 ≠ .cell := fun y hy e => by
    have := List.all_eq_true.mp ok3 _ hy
    obtain ⟨n, kd⟩ := y
    simp only at e this
    subst e
    cases this
  have hx : ∀ x ∈ xs, (x, NameKind.local) ∈ sc.names := fun x hx => by
    obtain ⟨kd, hm, hk⟩ := any_kind (g := fun kd => match kd with | .local => true | _ => false) (List.all_eq_true.mp ok4 x hx)
    cases kd <;> first | exact hm | cases hk
  have hfrk : ∀ p ∈ fr, (p.1, NameKind.free) ∈ sc.names := fun p hp => by
    have := List.all_eq_true.mp ok5 p.1 (List.mem_map.mpr ⟨p, hp, rfl⟩)
    obtain ⟨kd, hm, hk⟩ := any_kind (g := fun kd => match kd with | .free => true | _ => false) this
    cases kd <;> first | exact hm | cases hk
  have kcell : ∀ n, (n, NameKind.free) ∈ sc.names → env.kindOf n = some .cell := fun n hn => by
    show env.scope.names.lookup n = _; rw [a.scope]; exact lookup_of_mem a.names (frees n hn)
  obtain ⟨cls, hcl, hcl1, hcl2⟩ := closureFor_ex (scope := sc) (env := env) fun n hn => a.cellHas n (kcell n hn)
  refine wpAny_comprehension_free rfl hs hcl ok1 (fun y hy hl => lookup_of_mem nd0 (by rw [← hl]; exact hy)) ?_
  refine hit a fun I s1 s2 k1 k2 hI => ?_
  obtain ⟨W, hWI, hWn, hWX⟩ := hI
  -- the accumulator, the block's own dict
  refine wpAny_newObj_type (wpAny_newFunctionEnv noCell (by intro y hy; cases hy) (fun h4 hns4 hsb4 => ?_) ok1) (by show (#[] : Array Value).size ≤ sizeLine; decide)
  have k12 : Kp No s s2 := k1.trans k2
  let H3 : Heap := s2.heap.push { cls := .type "list", data := .seq (List.toArray []) }
  have hD0 := none_of_size (Nat.le_refl s2.heap.objs.size)
  have hC3 : H3.objs.size = s2.heap.objs.size + 1 := Heap.size_push ..
  have hC2 : s2.heap.get? H3.objs.size = none := none_of_size (by rw [hC3]; exact Nat.le_succ _)
  have hDC : s2.heap.objs.size ≠ H3.objs.size := by rw [hC3]; exact Nat.ne_of_lt (Nat.lt_succ_self _)
  have up : ∀ b o, s2.heap.get? b = some o → h4.get? b = some o := fun b o e => by
    refine (hsb4.2 b ?_).trans (Heap.get?_push_of_some _ (Heap.get?_push_of_some _ e))
    intro q; rw [q] at e; exact absurd (hC2.symm.trans e) (by simp)
  have none_s : ∀ b, s2.heap.get? b = none → s.heap.get? b = none := fun b e => by
    by_cases hb : b = builtinsNs
    · subst hb; obtain ⟨o, _, _, g, _⟩ := (a.kp k12).inn.b; rw [e] at g; cases g
    · cases e' : s.heap.get? b with
      | none => rfl
      | some o => rw [k12.keep b o id hb e'] at e; cases e
  have hIs1 : ∀ b, W b → s.heap.get? b = none := fun b hWb => by
    have hn := (hWn b hWb).1
    by_cases hb : b = builtinsNs
    · subst hb; obtain ⟨o, _, _, g, _⟩ := (a.kp k1).inn.b; rw [hn] at g; cases g
    · cases e' : s.heap.get? b with
      | none => rfl
      | some o => rw [k1.keep b o id hb e'] at hn; cases hn
  have hDs := none_s _ hD0
  have hCs := none_s _ hC2
  have hne : ∀ b, (s.heap.get? b).isSome = true → ¬ W b ∧ b ≠ s2.heap.objs.size ∧ b ≠ H3.objs.size := fun b e => by
    refine ⟨?_, ?_, ?_⟩
    · intro h; rw [hIs1 b h] at e; cases e
    · rintro rfl; rw [hDs] at e; cases e
    · rintro rfl; rw [hCs] at e; cases e
  have nID : ¬ W s2.heap.objs.size := fun e => by have := (hWn _ e).2; rw [hD0] at this; cases this
  have nIC : ¬ W H3.objs.size := fun e => by have := (hWn _ e).2; rw [hC2] at this; cases this
  have i4 : ¬ W builtinsNs := fun e => (newAddr a.inn (hIs1 _ e)).2.2.2 rfl
  obtain ⟨d1, d2, d3, d4⟩ := newAddr a.inn hDs
  obtain ⟨c1, c2, c3, c4⟩ := newAddr a.inn hCs
  let s4 : Shared := { s2 with heap := h4, toks := s2.toks + ([] : List (Str × Value)).length }
  have k24 : Kp No s2 s4 := Kp.heap up
  have k4 : Kp No s s4 := k12.trans k24
  have hD4 : h4.get? s2.heap.objs.size = some { cls := .type "list", data := .seq (List.toArray []) } := (hsb4.2 _ hDC).trans (Heap.get?_push_of_some _ (Heap.get?_push_size _ rfl))
  have hI4 : ∀ b, W b → (h4.get? b).isSome = true := fun b hb => by obtain ⟨o, e⟩ := Option.isSome_iff_exists.mp (hWn b hb).2; rw [up _ _ e]; rfl
  have none_s1 : ∀ b, s2.heap.get? b = none → s1.heap.get? b = none := fun b e => by
    by_cases hb : b = builtinsNs
    · subst hb; obtain ⟨o, _, _, g, _⟩ := (a.kp k12).inn.b; rw [e] at g; cases g
    · cases e' : s1.heap.get? b with
      | none => rfl
      | some o => rw [k2.keep b o id hb e'] at e; cases e
  let S' : Addr → Prop := fun b => S b ∨ W b ∨ (b = s2.heap.objs.size ∨ b = H3.objs.size)
  obtain ⟨St, itr, st2⟩ := hWX (fun b => b = s2.heap.objs.size ∨ b = H3.objs.size) fun b hb => none_s1 b (by rcases hb with rfl | rfl; exact hD0; exact hC2)
  have a4 := a.kp k4
  have notS' : ∀ b, ¬ S b → (s.heap.get? b).isSome = true → ¬ S' b := fun b hb e h => by
    obtain ⟨e1, e2, e3⟩ := hne b e
    rcases h with h | h | h | h
    · exact hb h
    · exact e1 h
    · exact e2 h
    · exact e3 h
  have hks : (compEnvC sc cls H3.objs.size env).scope.names = inBlock sc.names := by
    show (sc.names.map _) = _
    unfold inBlock
    refine List.map_congr_left fun p hp => ?_
    obtain ⟨n, kd⟩ := p
    dsimp only
    cases kd with
    | free => rw [a.kind, kcell n hp]; rfl
    | _ => rfl
  have ndB : ((inBlock sc.names).map (·.1)).Nodup := by rw [inBlock_keys]; exact nd0
  have ko : ∀ y kd, (y, kd) ∈ inBlock sc.names → (compEnvC sc cls H3.objs.size env).kindOf y = some kd := fun y kd hy => by
    show (compEnvC sc cls H3.objs.size env).scope.names.lookup y = _; rw [hks]; exact lookup_of_mem ndB hy
  have frB : ∀ y, (y, NameKind.free) ∈ sc.names → (y, NameKind.cell) ∈ inBlock sc.names := fun y hy => List.mem_map.mpr ⟨_, hy, rfl⟩
  have xB : ∀ x ∈ xs, (x, NameKind.local) ∈ inBlock sc.names := fun x h => List.mem_map.mpr ⟨_, hx x h, rfl⟩
  have atC : At c k (inBlock sc.names) (xs.map (fun x => (x, Option.none)) ++ fr) (.pls s2.heap.objs.size []) A (compEnvC sc cls H3.objs.size env) S' s4 := {
    room := a.room
    scope := hks
    kind := ok1
    glob := a.glob
    blt := a.blt
    names := ndB
    dbg := fun p hp => by
      have hp' : p.1 ∈ sc.names.map (·.1) := by rw [← inBlock_keys]; exact List.mem_map.mpr ⟨p, hp, rfl⟩
      exact ⟨beq_eq_false_iff_ne.mpr fun e => ndD (e ▸ hp'), fun e => ndN (e ▸ hp')⟩
    live := ⟨.inl a.live.blt, fun b hb => by
      rcases hb with hb | hb | rfl | rfl
      · exact a4.live.all b hb
      · obtain ⟨i1, i2, i3, i4⟩ := newAddr a.inn (hIs1 b hb)
        exact ⟨hI4 b hb, i1, i2, i3⟩
      · exact ⟨by show (h4.get? _).isSome = true; rw [hD4]; rfl, d1, d2, d3⟩
      · exact ⟨by obtain ⟨o, _, _, e, _⟩ := hns4; show (h4.get? _).isSome = true; rw [show h4.get? H3.objs.size = some o from e]; rfl, c1, c2, c3⟩⟩
    inn := a4.inn
    ns := ⟨_, hns4⟩
    loc := .inr (.inr (.inr rfl))
    locb := c4
    cells := fun y b e => by
      obtain ⟨e1, e2, e3, v, o, g, g'⟩ := a.cells y b (hcl1 y b e).2
      exact ⟨.inl e1, e2, (hne b (by rw [g]; rfl)).2.2, v, o, k4.keep _ _ id e2 g, g'⟩
    cellOne := fun y z b e e' => a.cellOne y z b (hcl1 y b e).2 (hcl1 z b e').2
    cellHas := fun y e => by
      have hm : (y, NameKind.cell) ∈ inBlock sc.names := by
        have := mem_of_lookup (l := (compEnvC sc cls H3.objs.size env).scope.names) e
        rwa [hks] at this
      rcases inBlock_mem hm with ⟨h, _⟩ | ⟨_, h⟩
      · exact absurd rfl (noCell _ h)
      · exact hcl2 y h
    nodup := by have := allFresh_nodup ok6; simpa [Function.comp_def] using this
    kinds := fun p hp => by
      rcases List.mem_append.mp hp with hp | hp
      · obtain ⟨x, hx', rfl⟩ := List.mem_map.mp hp
        exact .inl (ko _ _ (xB x hx'))
      · exact .inr (.inl (ko _ _ (frB _ (hfrk p hp))))
    rep := fun y d hy => by
      rcases List.mem_append.mp hy with hy | hy
      · obtain ⟨x, _, e⟩ := List.mem_map.mp hy; cases e
      · obtain ⟨d', e, hρ⟩ := hfr _ hy
        obtain ⟨v, stt, rv⟩ := a.rep y d hρ
        refine ⟨v, ?_, rv.mono (fun b o n e => k4.keep b o id (fun q => n (q ▸ a.live.blt)) e) notS'⟩
        have hk := kcell y (hfrk _ hy)
        rcases stt with ⟨h1, _⟩ | ⟨h1, b, h2, o, h3, h4'⟩
        · rw [h1] at hk; cases hk
        · obtain ⟨b', hb'⟩ := hcl2 y (hfrk _ hy)
          have := (hcl1 y b' hb').2
          rw [h2] at this; cases this
          exact .inr ⟨.inl (ko _ _ (frB _ (hfrk _ hy))), b, hb', o, k4.keep _ _ id (a.cells y b h2).2.1 h3, h4'⟩
    mu := ⟨[], ⟨0, hD4⟩, by simp [Reps]⟩
    muS := fun b hb => by
      rw [show b = s2.heap.objs.size from hb]
      refine ⟨.inr (.inr (.inl rfl)), d4, hDC, fun y e => ?_⟩
      obtain ⟨_, _, _, v, o, g, _⟩ := a.cells y _ (hcl1 y _ e).2
      rw [hDs] at g; cases g }
  have nfC : NoFree (compEnvC sc cls H3.objs.size env) := fun y e => by
    have hm : (y, NameKind.free) ∈ inBlock sc.names := by
      have := mem_of_lookup (l := (compEnvC sc cls H3.objs.size env).scope.names) e
      rwa [hks] at this
    rcases inBlock_mem hm with ⟨_, h⟩ | ⟨h, _⟩
    · exact h rfl
    · cases h
  have st4 : St 0 s4.heap := itr.keep 0 st2 fun b o _ e => up b o e
  have loop : codeAny (model c.prog c.w) A (.compLoop (.ListComp elt (⟨tgt, iter, ifs, 0⟩ :: gs) sc pos) 0 (.ref I) (.ref s2.heap.objs.size) (compEnvC sc cls H3.objs.size env)) (compPost (model c.prog c.w) A E use Q (.ref s2.heap.objs.size) H3.objs.size) s4 := by
    refine CLG.run rfl ha nfC (fun b hb => .inr (.inl hb)) nIC (fun y b e h => (hne b (by obtain ⟨_, _, _, v, o, g, _⟩ := a.cells y b (hcl1 y b e).2; rw [g]; rfl)).1 h) nID i4 itr hz (fun s' at' kp s'' kI => ?_) cl (pre := []) (acc := []) rfl rfl atC st4 Kp.refl
    have kAll : Kp No s s'' := by
      have kk := (k4.of_no.trans kp).trans (kI.weak (Y := fun b => W b ∨ b = s2.heap.objs.size ∨ b = H3.objs.size) fun b h => .inl h)
      exact ⟨kk.same, fun b o _ e => kk.keep0 b o (fun q => by
        obtain ⟨e1, e2, e3⟩ := hne b (by rw [e]; rfl)
        rcases q with q | q | q
        · exact e1 q
        · exact e2 q
        · exact e3 q) e, kk.blt⟩
    obtain ⟨m', o', es', ep', g', r'⟩ := at'.ns
    obtain ⟨vs, ⟨n, gl⟩, rs⟩ := at'.mu
    have gC : s''.heap.get? H3.objs.size = some o' := kI.keep _ _ nIC c4 g'
    have gD : s''.heap.get? s2.heap.objs.size = some _ := kI.keep _ _ nID d4 gl
    refine fin _ _ s'' hDs hCs hDC (a.grow kAll hCs (by rw [gC]; rfl)) kAll ⟨m', o', es', ep', gC, r'⟩ ⟨vs, ⟨_, gD, rfl, n, rfl⟩, ?_⟩
    refine rs.mono (fun b o nb e => kI.keep b o (fun q => nb (.inr (.inl q))) (fun q => nb (.inl (q ▸ a.live.blt))) e) fun b nb _ h => ?_
    rcases h with h | h
    · exact nb (.inl h)
    · exact nb (.inr (.inr (.inr h)))
  exact compStartG_ rfl loop fun E => itr.self 0 s4 _ _ st4 loop
theorem EV.compG {elt tgt iter : Expr} {gs : List Comprehension} {xs : List Str} {pos : Pos} {ifs : List Expr} {sc : Scope} {fr : Names} {ds es : List D} (ok : compOkG sc nl xs (fr.map (·.1)) = true) (hfr : ∀ p ∈ fr, ∃ d, p.2 = some d ∧ p ∈ ρ) (hit : IterET c k nl ρ μ tgt iter ds) (cl : CLG c k (inBlock sc.names) (.ListComp elt (⟨tgt, iter, ifs, 0⟩ :: gs) sc pos) elt (⟨tgt, iter, ifs, 0⟩ :: gs) 0 tgt (xs.map (fun x => (x, Option.none)) ++ fr) ifs ds es) (hz : es.length ≤ sizeLine)
    (ha : ∀ g, gs[0]? = some g → g.is_async = 0)
    (hs : ∀ env x, foldedSetIterable iter env x = pure x := by with_unfolding_all (intro _ _; rfl)) : EV c k nl ρ μ (.ListComp elt (⟨tgt, iter, ifs, 0⟩ :: gs) sc pos) (.lst es) := fun {A env S s Q E} a q => by
  rw [eval_ListComp]
  refine compRunG (use := .none) ok ha hfr hit cl hz a (fun D C s' hD hC hne at' kp hns ⟨vs, hl, rs⟩ => ?_) (hs env)
  obtain ⟨m, hns⟩ := hns
  refine ⟨m, hns, fun h' hsb => ?_⟩
  have nC := (newAddr a.inn hC).2.2.2
  have nSC : ¬ S C := fun h => by have := (a.live.all C h).1; rw [hC] at this; cases this
  have nSD : ¬ S D := fun h => by have := (a.live.all D h).1; rw [hD] at this; cases this
  refine q _ _ (kp.of_no.trans (Kp.two (X := fun b => b = C) (tk := s'.toks) rfl nC hsb) |> fun k => ⟨k.same, fun b o _ e => k.keep0 b o (fun z => by rw [show b = C from z, hC] at e; cases e) e, k.blt⟩) ?_
  simp only [Rep]
  obtain ⟨o, g, g'⟩ := hl
  exact ⟨D, vs, rfl, nSD, ⟨o, (hsb.2 D hne).trans g, g'⟩, rs.mono (fun b o nb e => (hsb.2 b fun z => nb (.inr z)).trans e) fun b nb _ h => nb (.inl h)⟩
/-- a comprehension's list given a name -/
theorem EX.assignCompG {elt tgt iter : Expr} {gs : List Comprehension} {xs : List Str} {y : Str} {py pos spos : Pos} {ifs : List Expr} {sc : Scope} {fr : Names} {ds es : List D} {rest : List Stmt} {ks : List (List Stmt)} {o : Out} (ok : compOkG sc nl xs (fr.map (·.1)) = true) (hfr : ∀ p ∈ fr, ∃ d, p.2 = some d ∧ p ∈ ρ) (hit : IterET c k nl ρ μ tgt iter ds)
    (cl : CLG c k (inBlock sc.names) (.ListComp elt (⟨tgt, iter, ifs, 0⟩ :: gs) sc pos) elt (⟨tgt, iter, ifs, 0⟩ :: gs) 0 tgt (xs.map (fun x => (x, Option.none)) ++ fr) ifs ds es) (P : Put y (.lst es) ρ ρ') (n : EX c k nl ρ' μ rest ks o) (hz : es.length ≤ sizeLine) (hy : (y, NameKind.local) ∈ nl) (hl : py.line = pos.line) (hyn : (sc.names.any fun p => sq p.1 y && (match p.2 with | .local => true | .cell => true | _ => false)) = false)
    (ha : ∀ g, gs[0]? = some g → g.is_async = 0)
    (hs : ∀ env x, foldedSetIterable iter env x = pure x := by with_unfolding_all (intro _ _; rfl)) : EX c k nl ρ μ (.Assign [.Name y py] (.ListComp elt (⟨tgt, iter, ifs, 0⟩ :: gs) sc pos) spos :: rest) ks o := fun {A env S s Q E} a nf q => by
  have hky := a.local_ hy
  have hb : env.blockKind = .function := by unfold Env.blockKind; rw [a.kind]; rfl
  have hsw : swapsWith (.ListComp elt (⟨tgt, iter, ifs, 0⟩ :: gs) sc pos) (some (.Name y py)) spos.line env = pure true := by
    show (pure (env.blockKind == .function && env.kindOf y == some .local && py.line == pos.line && !(sc.names.any fun (n, k) => n == y && (k == .local || k == .cell))) : Sem Bool) = _
    have e : (sc.names.any fun (n, k) => n == y && (k == .local || k == .cell)) = false := by
      rw [List.any_eq_false] at hyn ⊢
      intro p hp
      have := hyn p hp
      obtain ⟨n, kd⟩ := p
      rw [sq_beq] at this
      cases kd <;> simp_all
    rw [hb, hky, hl, e]; simp
  refine wpAny_execs_cons ?_
  rw [exec_Assign_Name_used _ _ _ _ hsw]
  refine wpAny_bind (wpAny_standAt (wpAny_bind ?_))
  show wpAny _ A (do let _ ← comprehension (.ListComp elt (⟨tgt, iter, ifs, 0⟩ :: gs) sc pos) sc env _ (newList []) false (eval iter env) (some (PySem.assign (.Name y py) env))) _ _ s
  refine wpAny_bind (compRunG (use := some (PySem.assign (.Name y py) env)) ok ha hfr hit cl hz a (fun D C s' hD hC hne at' kp hns ⟨vs, hlD, rs⟩ => ?_) (hs env))
  obtain ⟨m, hns⟩ := hns
  have nC := (newAddr a.inn hC).2.2.2
  have nSC : ¬ S C := fun h => by have := (a.live.all C h).1; rw [hC] at this; cases this
  have nSD : ¬ S D := fun h => by have := (a.live.all D h).1; rw [hD] at this; cases this
  have nLC : C ≠ env.locals := fun e => nSC (e ▸ a.loc)
  show wpAny _ A (PySem.assign (.Name y py) env (.ref D)) _ _ _
  refine wpAny_assign_Name (at'.storeL hky P (by simp only [Rep]; exact ⟨D, vs, rfl, fun h => by rcases h with h | h; exact nSD h; exact hne h, hlD, rs⟩) fun s2 k2 a2 => ?_)
  have hns2 : s2.heap.Ns C m := by obtain ⟨o, es, ep, g, r⟩ := hns; exact ⟨o, es, ep, k2.keep _ _ nLC nC g, r⟩
  refine ⟨m, hns2, fun h' hsb => wpAny_pure (wpAny_pure ?_)⟩
  have k3 : Kp (fun b => b = C) s2 { s2 with heap := h' } := Kp.two (tk := s2.toks) rfl nC hsb
  have a3 := a2.dropI a.live.blt a.loc (fun x b e => (a.cells x b e).1) (fun b hb => (a.muS b hb).1) nSC k3
  have kk := ((kp.of_no.trans k2).weak (Y := fun b => b = env.locals ∨ b = C) (fun b h => .inl h)).trans (k3.weak fun b h => .inr h)
  have kk' : Kp (Own env μ) s { s2 with heap := h' } := ⟨kk.same, fun b o nb e => kk.keep0 b o (fun z => by
    rcases z with z | z
    · exact nb (.inl z)
    · rw [z, hC] at e; cases e) e, kk.blt⟩
  refine n a3 nf (q.on kk' (fun b hb e => ?_))
  exact (a3.live.all b (Own.sub a b hb)).1
end
end Mine
end
section
-- A17
open PySem PySem.W PyProof.Rows
set_option Elab.async false
set_option linter.all false
set_option maxRecDepth 100000
namespace Mine
section
variable {c : Cx} {k : Nat} {nl : NL} {ρ ρ' ρ'' ρ3 : Names} {μ μ' : Mu}
theorem Weak.refl : ∀ {r : Names}, Weak r r
  | [] => .nil
  | _ :: _ => .keep Weak.refl
theorem CL.toG {comp elt : Expr} {gens : List Comprehension} {x : Str} {px : Pos} {fr : Names} {ifs : List Expr} {ds es : List D} (hn : gens[0 + 1]? = .none) (hx : (x, NameKind.local) ∈ nl) (h : CL c k nl fr x ifs elt ds es) : CLG c k nl comp elt gens 0 (.Name x px) ((x, .none) :: fr) ifs ds es := by
  induction h with
  | nil => exact .nil
  | skip t _ ih => exact .skip (TB.name hx p0) (.drop Weak.refl) t ih
  | take t e _ ih => exact CLG.take (l := [_]) (TB.name hx p0) (.drop Weak.refl) t (EmitOk.elt hn e) ih
theorem compOk_G {sc : Scope} {x : Str} {fr : List Str} (h : compOk sc nl x fr = true) : compOkG sc nl [x] fr = true ∧ (x, NameKind.local) ∈ inBlock sc.names := by
  simp only [compOk, Bool.and_eq_true] at h
  obtain ⟨⟨⟨h1, h2⟩, h3⟩, h4⟩ := h
  obtain ⟨kd, m1, m2⟩ := any_kind (g := fun kd => match kd with | .local => true | _ => false) h2
  refine ⟨?_, ?_⟩
  · simp only [compOkG, Bool.and_eq_true]
    exact ⟨⟨⟨h1, by rw [List.all_cons]; exact (Bool.and_true _).trans h2⟩, h3⟩, h4⟩
  · have : kd = .local := by cases kd <;> first | rfl | cases m2
    subst this
    exact List.mem_map.mpr ⟨_, m1, rfl⟩
theorem EV.comp {elt iter : Expr} {x : Str} {px pos : Pos} {ifs : List Expr} {sc : Scope} {fr : Names} {ds es : List D} (ok : compOk sc nl x (fr.map (·.1)) = true) (hfr : ∀ p ∈ fr, ∃ d, p.2 = some d ∧ p ∈ ρ) (hit : IterE c k nl ρ μ iter ds) (cl : CL c k (inBlock sc.names) fr x ifs elt ds es) (hz : ds.length ≤ sizeLine)
    (hs : ∀ env x, foldedSetIterable iter env x = pure x := by with_unfolding_all (intro _ _; rfl)) : EV c k nl ρ μ (.ListComp elt [⟨.Name x px, iter, ifs, 0⟩] sc pos) (.lst es) :=
  EV.compG (gs := []) (xs := [x]) (compOk_G ok).1 hfr (IterET.of hit) (cl.toG rfl (compOk_G ok).2) (Nat.le_trans cl.len hz) (fun g hg => by cases hg) hs
/-- a comprehension's list given a name -/
theorem EX.assignComp {elt iter : Expr} {x y : Str} {px py pos spos : Pos} {ifs : List Expr} {sc : Scope} {fr : Names} {ds es : List D} {rest : List Stmt} {ks : List (List Stmt)} {o : Out} (ok : compOk sc nl x (fr.map (·.1)) = true) (hfr : ∀ p ∈ fr, ∃ d, p.2 = some d ∧ p ∈ ρ) (hit : IterE c k nl ρ μ iter ds)
    (cl : CL c k (inBlock sc.names) fr x ifs elt ds es) (P : Put y (.lst es) ρ ρ') (n : EX c k nl ρ' μ rest ks o) (hz : ds.length ≤ sizeLine) (hy : (y, NameKind.local) ∈ nl) (hl : py.line = pos.line) (hyn : (sc.names.any fun p => sq p.1 y && (match p.2 with | .local => true | .cell => true | _ => false)) = false)
    (hs : ∀ env x, foldedSetIterable iter env x = pure x := by with_unfolding_all (intro _ _; rfl)) : EX c k nl ρ μ (.Assign [.Name y py] (.ListComp elt [⟨.Name x px, iter, ifs, 0⟩] sc pos) spos :: rest) ks o :=
  EX.assignCompG (gs := []) (xs := [x]) (compOk_G ok).1 hfr (IterET.of hit) (cl.toG rfl (compOk_G ok).2) P n (Nat.le_trans cl.len hz) hy hl hyn (fun g hg => by cases hg) hs
theorem EmitOk.nest {elt t' iter' : Expr} {ifs' : List Expr} {gens : List Comprehension} {d : Nat} {sc : Scope} {pos : Pos} {l ds' : List D} (hg : gens[d + 1]? = some ⟨t', iter', ifs', 0⟩) (ha : ∀ g, gens[d + 1 + 1]? = some g → g.is_async = 0) (hit : ∀ μ, IterET c k nl ρ μ t' iter' ds')
    (cl : CLG c k nl (.ListComp elt gens sc pos) elt gens (d + 1) t' ρ ifs' ds' l) (hs : ∀ env x, foldedSetIterable iter' env x = pure x) : EmitOk c k nl (.ListComp elt gens sc pos) elt gens d ρ l := fun {A env S s D₀ acc Q E} nf a hz q => by
  unfold emitG
  rw [hg]
  show wpAny _ A (eval iter' env >>= fun x => standAt iter'.pos >>= fun _ => foldedSetIterable iter' env x >>= fun x => holding [x] (pyIter x) >>= fun it => runOwn (.compStart (.ListComp elt gens sc pos) (d + 1) it (.ref D₀) env) env >>= fun _ => pure ()) Q E s
  refine wpAny_bind (wpAny_mono (hit _ a (Q := fun v s2 => wpAny (model c.prog c.w) A (runOwn (.compStart (.ListComp elt gens sc pos) (d + 1) v (.ref D₀) env) env >>= fun _ => pure ()) Q E s2) (E := E) fun I s1 s2 k1 k2 hI => ?_) (fun v s1 h1 => ?_) fun _ _ e => e)
  · obtain ⟨W, hWI, hWn, hWX⟩ := hI
    obtain ⟨St, itr, st⟩ := hWX (fun _ => False) fun _ e => e.elim
    have hse : (fun b => S b ∨ W b ∨ False) = fun b => S b ∨ W b := by funext b; rw [or_false]
    rw [hse] at itr
    have a1 := a.kp k1
    have a2 := a1.growW (S' := fun b => S b ∨ W b) k2 (fun _ => Iff.rfl) (fun b hb => (hWn b hb).1) fun b hb => (hWn b hb).2
    have nW : ∀ b, (s1.heap.get? b).isSome = true → ¬ W b := fun b hb e => by rw [(hWn b e).1] at hb; cases hb
    have nS : ∀ b, S b → ¬ W b := fun b hb => nW b (a1.live.all b hb).1
    have nD := nS D₀ (a1.muS D₀ rfl).1
    refine wpAny_bind (wpAny_runOwn (by
      rw [Around.mark_none]
      have loop : ∀ R : Result → Shared → Prop, (∀ s', At c k nl ρ (.pls D₀ (acc ++ l)) A env (fun b => S b ∨ W b) s' → Kp (fun b => W b ∨ b = D₀ ∨ b = env.locals) s2 s' → ∀ s'', Kp W s' s'' → R (.ok .next) s'') → codeAny (model c.prog c.w) A (.compLoop (.ListComp elt gens sc pos) (d + 1) (.ref I) (.ref D₀) env) R s2 := fun R fin =>
        CLG.run hg ha nf (fun b hb => .inr hb) (nS _ a1.loc) (fun y b e => nS b (a1.cells y b e).1) nD (fun e => nS _ a1.live.blt e) itr (es₀ := acc ++ l) (by rw [List.length_append]; exact hz) fin cl (pre := []) (acc := acc) rfl rfl a2 st Kp.refl
      have fin : ∀ s', At c k nl ρ (.pls D₀ (acc ++ l)) A env (fun b => S b ∨ W b) s' → Kp (fun b => W b ∨ b = D₀ ∨ b = env.locals) s2 s' → ∀ s'', Kp W s' s'' → Q () s'' := by
        intro s' at' kp s'' kI
        refine q s'' ?_ (at'.dropW (fun _ => Iff.rfl) a1.live.blt a1.loc (fun x b e => (a1.cells x b e).1) (fun b hb => (a1.muS b hb).1) (fun b hb h => nS b h hb) kI)
        refine k1.of_no.trans (Kp.dropW (W := W) k2.of_no (fun b hb => (hWn b hb).1) ((kp.weak fun b h => ?_).trans (kI.weak fun b h => .inr h)))
        rcases h with h | h
        · exact .inr h
        · exact .inl h
      exact compStartG_ hg (loop _ fun s' a k s'' k' => wpAny_pure (fin s' a k s'' k')) (fun E => itr.self 0 s2 _ _ st (loop _ fun s' a k s'' k' => wpAny_pure (fin s' a k s'' k')))))
  · refine wpAny_bind (wpAny_standAt (wpAny_bind (wpAny_of_eq (hs env v) (wpAny_bind (wpAny_holding h1)))))
/-- the signs with their places -/
noncomputable def eSigns : Nat → List Nat → List D
  | _, [] => []
  | i, n :: l => .tup [.int i, .str ⟨#[n]⟩] :: eSigns (i + 1) l
theorem eSigns_len : ∀ (l : List Nat) (i : Nat), (eSigns i l).length = l.length
  | [], _ => rfl
  | _ :: l, i => by rw [eSigns, List.length_cons, List.length_cons, eSigns_len l]
theorem eSigns_at : ∀ (l : List Nat) (j i : Nat) {d : D} {n : Nat}, (eSigns j l)[i]? = some d → l[i]? = some n → d = .tup [.int ((j + i : Nat) : Int), .str ⟨#[n]⟩]
  | [], _, _, _, _, _, h => by simp at h
  | m :: l, j, 0, d, n, h, h' => by simp [eSigns] at h h'; subst h'; exact h.symm
  | m :: l, j, i + 1, d, n, h, h' => by
    have := eSigns_at l (j + 1) i (d := d) (n := n) (by simpa [eSigns] using h) (by simpa using h')
    rw [this, show j + 1 + i = j + (i + 1) by lia]
theorem enumIter {A : Around} {S : Addr → Prop} {e it : Addr} {x : Str} {elts : List Expr} {m : Nat} {tp : Pos} {St0 : Nat → Heap → Prop} (hei : e ≠ it) (he : e ≠ builtinsNs) (hi : it ≠ builtinsNs)
    (Dr : Draws c.prog c.w A.in1 it [it] x.cps.size (fun i v => ∃ n u, x.cps[i]? = some n ∧ v = .str ⟨#[n]⟩ u) St0) :
    IterT c S A (.Tuple elts m tp) e (fun b => b = e ∨ b = it) (eSigns 0 x.cps.toList) (fun i h => (∃ old, IsEnum h e it i old) ∧ St0 i h) := by
  have WT := WalksT.enumerateD Dr e hei (by simpa using hei) (List.mem_singleton.mpr rfl)
  have kw : ∀ {s : Shared} {h' : Heap} {tk : Nat}, (∀ b o, b ∉ [e, it] → s.heap.get? b = some o → h'.get? b = some o) → Kp (fun b => b = e ∨ b = it) s { s with heap := h', toks := tk } := fun {s h' tk} hk =>
    ⟨⟨h', tk, rfl⟩, fun b o n g => hk b o (fun q => n (by simpa using q)) g, fun mm ⟨o, es, ep, g, r⟩ => ⟨o, es, ep, hk _ _ (fun q => by
      rcases List.mem_cons.mp q with q | q
      · exact he q.symm
      · exact hi (List.mem_singleton.mp q).symm) g, r⟩⟩
  refine ⟨fun i h h' st hk => ?_, fun i h st b hb => ?_, fun i s d Q E hd st hl q => ?_, fun i s Q E st q => WT.self i s Q E st q, fun s Q E st q => ?_⟩
  · exact WT.frame i h h' st fun b hb o g => hk b o (.inr (by simpa using hb)) g
  · obtain ⟨⟨old, g⟩, st0⟩ := st
    rcases hb with rfl | rfl
    · rw [show h.get? b = some _ from g]; rfl
    · obtain ⟨o, g⟩ := Dr.live _ _ st0; rw [g]; rfl
  · have hlt : i < x.cps.size := by
      have := (List.getElem?_eq_some_iff.mp hd).1
      rw [eSigns_len] at this; simpa using this
    refine WT.item i s _ E hlt st fun T vals h' tk hP hT htup hmid hk E' => ?_
    refine WT.go elts m tp i T _ _ _ hmid fun h'' st'' hk'' => ?_
    have hTw : T ∉ [e, it] := WT.apart i T _ hmid
    obtain ⟨tt, v, ⟨n, u, hn, rfl⟩, rfl⟩ := hP
    have hd' : d = .tup [.int ((0 + i : Nat) : Int), .str ⟨#[n]⟩] := eSigns_at _ 0 i hd (by simpa using hn)
    have k1 : Kp (fun b => b = e ∨ b = it) s { s with heap := h', toks := tk } := kw hk
    have k2 : Kp (fun b => b = e ∨ b = it) { s with heap := h', toks := tk } { s with heap := h'', toks := tk } := kw (s := { s with heap := h', toks := tk }) hk''
    refine q _ _ ?_ st'' (k1.trans k2)
    subst hd'
    have nT : ¬ S T := fun h => by have := hl T h; rw [none_of_size hT] at this; cases this
    obtain ⟨o, g, g'⟩ := htup
    simp only [Rep, Reps]
    exact ⟨T, _, rfl, nT, ⟨o, hk'' T o hTw g, g'⟩, _, _, rfl, ⟨tt, by rw [Nat.zero_add]⟩, _, _, rfl, ⟨u, rfl⟩, rfl⟩
  · rw [eSigns_len, Array.length_toList] at st
    exact WT.done s Q E st fun h' tk hk => q _ (kw hk)
theorem IterET.enumS {p pos : Pos} {e1 : Expr} {x : Str} {elts : List Expr} {m : Nat} {tp : Pos} (hx : (Str.ofString "enumerate", NameKind.globalImplicit) ∈ nl) (hm : c.mg (Str.ofString "enumerate") = .none) (hv : bootBuiltins (Str.ofString "enumerate") = some (.type "enumerate")) (h : EVs c k nl ρ μ [e1] [.str x])
    (hp : plainExpr e1 = true := by with_unfolding_all rfl) : IterET c k nl ρ μ (.Tuple elts m tp) (.Call (.Name (Str.ofString "enumerate") p) [e1] [] pos) (eSigns 0 x.cps.toList) := fun {A env S s Q E} at0 q =>
  Call_ (Blt.load at0 hx hm hv (PyProof.Rows.callWith_type1 (h at0 fun vs s1 k1 r => by
    obtain ⟨v, rfl, r1⟩ := r.one
    obtain ⟨t, rfl⟩ := r1.str_inv
    refine call_enumerate_str fun h' he hst hz hk => ?_
    have a1 := at0.kp k1
    have k2 : Kp No s1 { s1 with heap := h' } := Kp.heap (t := s1.toks) hk
    have n0 := none_of_size (Nat.le_refl s1.heap.objs.size)
    have n1 : s1.heap.get? (s1.heap.objs.size + 1) = none := none_of_size (Nat.le_succ _)
    refine wpAny_pyIter_enum he (q _ s1 _ k1 k2 ⟨fun b => b = s1.heap.objs.size + 1 ∨ b = s1.heap.objs.size, .inl rfl, fun b hb => ?_, fun X hX => ?_⟩)
    · rcases hb with rfl | rfl
      · exact ⟨n1, by rw [show h'.get? _ = some _ from he]; rfl⟩
      · obtain ⟨o, g, _⟩ := hst; exact ⟨n0, by show (h'.get? _).isSome = true; rw [g]; rfl⟩
    · have hb1 := (newAddr a1.inn n1).2.2.2
      have hb0 := (newAddr a1.inn n0).2.2.2
      have hne : s1.heap.objs.size + 1 ≠ s1.heap.objs.size := Nat.succ_ne_self _
      unfold strIterType at hst
      cases ha : x.cps.all (· < 128)
      · rw [ha, if_neg (by decide)] at hst
        exact ⟨_, enumIter hne hb1 hb0 (Draws.strWide (prog := c.prog) (w := c.w) (A := A.in1) at0.room.handled _ x t) (c := c), by exact ⟨⟨_, he⟩, hst⟩⟩
      · rw [ha, if_pos rfl] at hst
        exact ⟨_, enumIter hne hb1 hb0 (Draws.strAscii (prog := c.prog) (w := c.w) (A := A.in1) at0.room.handled _ x t) (c := c), by exact ⟨⟨_, he⟩, hst⟩⟩) (starEach_plain hp) rfl))
/-- all of a list of truths -/
theorem BCall.allTrue {n : Nat} : BCall c (.builtin "all") [.lst (List.replicate n (.bool true))] (.bool true) := fun {A S s vs Q E} ro l i r q => by
  obtain ⟨v, rfl, r1⟩ := r.one
  obtain ⟨ax, vs, rfl, nS, hl, rs⟩ := r1.list
  have hlt : ax < s.heap.objs.size := by obtain ⟨_, e, _⟩ := hl; exact Heap.lt_size e
  refine call_all_walk (wpAny_pyIter_list hl ?_)
  refine ⟨s.heap.objs.size, [s.heap.objs.size, ax], [s.heap.objs.size], vs.toArray.size, _, _, fun i => true, rfl, Walks.list (A := A.in1) ro.handled _ ax (Nat.ne_of_lt hlt) vs.toArray,
    ⟨⟨_, Heap.get?_push_size _ rfl, rfl, rfl⟩, hl.push _⟩, fun i v s' Q' E' hP hQ => ?_, fun h' tk hk => ?_⟩
  · have hlen := rs.length
    rw [List.length_replicate] at hlen
    have hi : i < n := by
      have hP' : vs[i]? = some v := by simpa using hP
      rw [← hlen]; exact (List.getElem?_eq_some_iff.mp hP').1
    obtain ⟨u, e, ru⟩ := rs.at (i := i) (d := .bool true) (by rw [List.getElem?_replicate, if_pos hi])
    have e' : vs[i]? = some v := by simpa using hP
    have huv : u = v := by rw [e] at e'; exact Option.some.inj e'
    rw [huv] at ru
    have : v = .bool true := by simpa [Rep] using ru
    subst this
    exact wpAny_truthy_bool hQ
  · have e : ((List.range vs.toArray.size).all fun i => true) = true := by simp
    rw [e]
    have n0 := none_of_size (Nat.le_refl s.heap.objs.size)
    exact q _ _ (Kp.heap fun b o g => hk b o (fun z => by rw [List.mem_singleton.mp z, n0] at g; cases g) (Heap.get?_push_of_some _ g)) (by simp [Rep])
end
end Mine
end
section
-- W9
open PySem PySem.W PyProof.Rows
set_option Elab.async false
set_option linter.all false
set_option maxRecDepth 100000
namespace Mine
theorem signs_S (L : List Nat) : signs (S (L.map fig)) = L.map fun d => .str ⟨#[fig d]⟩ := by unfold signs; rw [S_list, List.map_map]; rfl
theorem fig_index : ∀ d : Nat, d < 16 → (Builtin.Str.occurrences (Str.ofString "0123456789abcdef") ⟨#[fig d]⟩ 0 (Str.ofString "0123456789abcdef").length 1) = [d] := by decide +kernel
theorem fig_in : ∀ r : Nat, r ≤ 16 → ∀ d : Nat, d < r → (!(Builtin.Str.occurrences (Txt.slice (Str.ofString "0123456789abcdef") none (some (r : Int))) ⟨#[fig d]⟩ 0 (Txt.slice (Str.ofString "0123456789abcdef") none (some (r : Int))).length 1).isEmpty) = true := by decide +kernel
theorem worth_of_gf {c : Cx} (F : Facts c) (L : List Nat) (r : Nat) (hr : r ≤ 16) (hL : ∀ d ∈ L, d < 16) : GF c (Str.ofString "worth_of") 1 [.str (S (L.map fig)), .int r] (.int (worthD r L : Nat)) := by
  refine ⟨_, F.worth_of.name, F.worth_of.keep, ?_⟩
  refine FN.of F.worth_of.fn (okSt 43 (by decide)) rfl (by dsimp only [initEnv, List.cons_append, List.nil_append, List.append_nil]) rfl ?_
  obtain ⟨a, ha⟩ : ∃ a : Nat, a = 0 := ⟨0, rfl⟩
  with_reducible refine' EX.assign (EV.of EV.int (congrArg D.int (show (0 : Int) = (a : Int) by lia))) p2 ?_
  with_reducible refine' EX.for_ (IterE.of (EV.name m0) IterD.str) ?_
  rw [signs_S, show worthD r L = L.foldl (fun a d => a * r + d) a by rw [ha]; rfl]
  generalize S (L.map fig) = w
  clear ha
  induction L generalizing a with
  | nil =>
    rw [List.map_nil, List.foldl_nil]
    with_reducible exact FL.done (EX.ret (EV.name m2))
  | cons d L ih =>
    have h1 := fig_index d (hL d List.mem_cons_self)
    have e1 : (a : Int) * r + d = ((a * r + d : Nat) : Int) := by rw [Int.natCast_add, Int.natCast_mul]
    rw [List.map_cons, List.foldl_cons]
    with_reducible refine' FL.turn p3 (EX.assign (EV.of (EV.bin (EV.bin (EV.name m2) (EV.name m1) (BinD.mul ?_)) (EV.smeth (EV.glo F.g_FIGURES m4) GetM.index (EVs.cons (EV.name m3) EVs.nil) (SCall.index h1)) BinD.add) (congrArg D.int e1)) p2 (EX.nilW (Weak.keep (Weak.keep (Weak.keep (Weak.drop Weak.nil)))))) SameHas.refl ?_
    · refine IntMulOk.of_right ?_
      rw [intBits_nat]
      exact Nat.le_trans (bits_le_of (k := 5) (by lia)) (by decide)
    · with_reducible exact ih (fun d hd => hL d (List.mem_cons_of_mem _ hd)) (a * r + d)
theorem are_figures_gf {c : Cx} (F : Facts c) (L : List Nat) (r : Nat) (hr : r ≤ 16) (hL : ∀ d ∈ L, d < r) (hl : L.length ≤ 16777216) : GF c (Str.ofString "are_figures") 1 [.str (S (L.map fig)), .int r] (.bool true) := by
  refine ⟨_, F.are_figures.name, F.are_figures.keep, ?_⟩
  refine FN.of F.are_figures.fn (okSt 44 (by decide)) rfl (by dsimp only [initEnv, List.cons_append, List.nil_append, List.append_nil]) rfl ?_
  have e1 : signs (S (L.map fig)) = L.map fun d => .str ⟨#[fig d]⟩ := signs_S L
  with_reducible refine' EX.ret (EV.blt m2 F.no_all bt_all (EVs.cons (EV.comp (fr := [(Str.ofString "radix", some (.int r))]) ?_ (fun p hp => ⟨_, congrArg Prod.snd (List.mem_singleton.mp hp), (List.mem_singleton.mp hp) ▸ m1⟩) (IterE.of (EV.name m0) IterD.str) ?_ ?_) EVs.nil) (BCall.allTrue (n := L.length)))
  · show compOk _ _ _ [Str.ofString "radix"] = true; decide +kernel
  · rw [e1]
    clear e1
    generalize S (L.map fig) = w
    induction L with
    | nil => rw [List.map_nil]; exact CL.nil
    | cons d L ih =>
      rw [List.map_cons, List.length_cons, List.replicate_succ]
      have h1 := fig_in r hr d (hL d List.mem_cons_self)
      have hs : (Str.ofString "0123456789abcdef").length ≤ sizeLine := by decide +kernel
      with_reducible refine' CL.take (fun μ => TRs.nil) (fun μ => EV.of (EV.cmp (EV.name m0) (EV.sliceTo (EV.glo F.g_FIGURES ?_) (EV.name m1) hs) CmpD.inS) (congrArg D.bool h1)) (ih (fun d hd => hL d (List.mem_cons_of_mem _ hd)) ?_)
      · first | with_unfolding_all exact m0 | with_unfolding_all exact m1 | with_unfolding_all exact m2 | with_unfolding_all exact m3
      · simp at hl; lia
  · rw [e1, List.length_map]; exact hl
end Mine
end
section
-- W10
open PySem PySem.W PyProof.Rows
set_option Elab.async false
set_option linter.all false
set_option maxRecDepth 100000
namespace Mine
theorem fig_last35 (L : List Nat) : L.map fig = [] ∨ (L.map fig).getLastD 0 ≠ 35 := by
  rcases List.eq_nil_or_concat L with h | ⟨l, a, h⟩
  · left; rw [h]; rfl
  · right; subst h
    have := fig_ge a
    simp; lia
theorem parted_gf {c : Cx} (F : Facts c) (L : List Nat) (h : L = [] ∨ L.getLastD 0 ≠ 35) (hl : L.length ≤ 20000) : GF c (Str.ofString "parted") 1 [.str (S L)] (.tup [.str (S L), .int 0]) := by
  refine ⟨_, F.parted.name, F.parted.keep, ?_⟩
  refine FN.of F.parted.fn (okSt 45 (by decide)) rfl (by dsimp only [initEnv, List.cons_append, List.nil_append, List.append_nil]) rfl ?_
  have e1 : Txt.rstripChars (S L) (Str.ofString "#") = S L := by
    have := rstrip_S L 35 0 h
    simp only [List.replicate_zero, List.append_nil] at this
    rw [show Str.ofString "#" = S [35] by decide +kernel]; exact this
  have hl63 : (S L).length < 2 ^ 63 := by rw [S_len]; lia
  with_reducible refine' EX.assign (EV.of (EV.smeth (EV.name m0) GetM.rstrip (EVs.cons EV.str EVs.nil) (SCall.rstrip ?_)) (congrArg D.str e1)) p1 ?_
  · rw [S_len]; unfold sizeLine; lia
  with_reducible refine' EX.retOf (EV.tuple (EVs.cons (EV.name m1) (EVs.cons (EV.bin (EV.blt m2 F.no_len bt_len (EVs.cons (EV.name m0) EVs.nil) (BCall.lenS hl63)) (EV.blt m2 F.no_len bt_len (EVs.cons (EV.name m1) EVs.nil) (BCall.lenS hl63)) BinD.sub) EVs.nil))) ?_
  rw [Int.sub_self]
theorem read_whole_gf {c : Cx} (F : Facts c) (L : List Nat) (r : Nat) (hr : r ≤ 16) (h0 : L ≠ []) (hL : ∀ d ∈ L, d < r) (hl : L.length ≤ 20000) : GF c (Str.ofString "read_whole") 3 [.str (S (L.map fig)), .int r] (ReadD (worthD r L : Nat) 1 true) := by
  refine ⟨_, F.read_whole.name, F.read_whole.keep, ?_⟩
  refine FN.of F.read_whole.fn (okSt 47 (by decide)) rfl (by dsimp only [initEnv, List.cons_append, List.nil_append, List.append_nil]) rfl ?_
  have hL16 : ∀ d ∈ L, d < 16 := fun d hd => Nat.lt_of_lt_of_le (hL d hd) hr
  have hne : ¬ S (L.map fig) = Str.ofString "" := by rw [S_nil, S_inj]; simpa using h0
  have key : (decide (S (L.map fig) = Str.ofString "") || (!true || false)) = false := by rw [decide_eq_false hne]; rfl
  with_reducible refine' EX.assign2 (EV.call m4 (EVs.cons (EV.name m0) EVs.nil) (parted_gf F _ (fig_last35 L) ?_) (by decide)) p2 p3 ?_
  · rw [List.length_map]; exact hl
  with_reducible refine' EX.iteF (TR.of (TR.or (TR.cmp (EV.name m2) EV.str CmpD.eqS) (fun h => (TR.or (TR.not (TR.plain (EV.call m5 (EVs.cons (EV.name m2) (EVs.cons (EV.name m1) EVs.nil)) (are_figures_gf F L r hr hL ?_) (by decide)))) (fun h => TR.or_nil)))) key) ?_
  · lia
  refine EX.pop ?_
  with_reducible refine' EX.retOf (EV.call m6 (EVs.cons (EV.bin (EV.call m7 (EVs.cons (EV.name m2) (EVs.cons (EV.name m1) EVs.nil)) (worth_of_gf F L r hr hL16) (by decide)) (EV.bin (EV.name m1) (EV.name m3) (BinD.pow ?_ ?_)) (BinD.mul ?_)) (EVs.cons EV.int (EVs.cons (EV.cmp (EV.name m3) EV.int CmpD.eq) EVs.nil))) (Reading_gf F ..) (by decide)) ?_
  · decide
  · lia
  · refine IntMulOk.of_right ?_
    rw [show (r : Int) ^ (0 : Int).toNat = 1 by rfl]; decide +kernel
  · rw [show (r : Int) ^ (0 : Int).toNat = 1 by rfl, Int.mul_one]; rfl
theorem parts_ok (x : Str) (c : Nat) (h : x.length ≤ 1000000) : (Builtin.Str.partsBetween x (Builtin.Str.occurrences x (S [c]) 0 x.length (x.length + 1)) (S [c]).length).length ≤ sizeLine := by
  rw [PyProof.Rows.len_partsBetween]
  have := StrLaws.occ_length_le x (S [c]) 0 x.length (x.length + 1)
  unfold sizeLine; lia
theorem fig_ne {c : Nat} (hc : c < 48) (L : List Nat) : c ∉ L.map fig := fun h => by
  obtain ⟨d, _, e⟩ := List.mem_map.mp h
  have := fig_ge d; lia
theorem read_ratio_gf {c : Cx} (F : Facts c) (A B : List Nat) (r : Nat) (hr : r ≤ 16) (hA0 : A ≠ []) (hB0 : B ≠ []) (hA : ∀ d ∈ A, d < r) (hB : ∀ d ∈ B, d < r) (hlA : A.length ≤ 20000) (hlB : B.length ≤ 20000) (hw : 0 < worthD r B) :
    GF c (Str.ofString "read_ratio") 4 [.str (S (A.map fig ++ 47 :: B.map fig)), .int r] (ReadD (worthD r A : Nat) (worthD r B : Nat) true) := by
  refine ⟨_, F.read_ratio.name, F.read_ratio.keep, ?_⟩
  refine FN.of F.read_ratio.fn (okSt 48 (by decide)) rfl (by dsimp only [initEnv, List.cons_append, List.nil_append, List.append_nil]) rfl ?_
  have hs : Txt.split (S (A.map fig ++ 47 :: B.map fig)) (Str.ofString "/") = [S (A.map fig), S (B.map fig)] := by rw [S_slash]; exact split_one (fig_ne (by decide) A) (fig_ne (by decide) B)
  have hlen : (S (A.map fig ++ 47 :: B.map fig)).length ≤ 100000 := by rw [S_len]; simp; lia
  have ht2 : (txts [S (A.map fig), S (B.map fig)]).length = 2 := rfl
  have hl3 : ((txts [S (A.map fig), S (B.map fig)]).length : Int) < 2 ^ 63 := by rw [ht2]; decide
  have hl2 : (txts [S (A.map fig), S (B.map fig)]).length < 2 ^ 63 := by rw [ht2]; decide
  have key2 : (!decide (((txts [S (A.map fig), S (B.map fig)]).length : Int) = 2)) = false := by rw [ht2]; rfl
  have key : (isNone (ReadD (worthD r A : Nat) 1 true) || (isNone (ReadD (worthD r B : Nat) 1 true) || (decide (((worthD r B : Nat) : Int) = 0) || false))) = false := by rw [decide_eq_false (by lia)]; rfl
  with_reducible refine' EX.assign (EV.of (EV.smeth (EV.name m0) GetM.split (EVs.cons EV.str EVs.nil) (SCall.split ?_ ?_ ?_)) (congrArg (fun l => D.lst (txts l)) hs)) p2 ?_
  · decide +kernel
  · unfold sizeLine; lia
  · rw [S_slash]; exact parts_ok _ _ (by lia)
  with_reducible refine' EX.iteF (TR.of (TR.cmp (EV.blt m5 F.no_len bt_len (EVs.cons (EV.name m2) EVs.nil) (BCall.lenL hl2)) EV.int CmpD.ne) key2) ?_
  refine EX.pop ?_
  with_reducible refine' EX.swap2 (EVs.cons (EV.call m6 (EVs.cons (EV.subL (hl := hl3) (EV.name m2) EV.int rfl) (EVs.cons (EV.name m1) EVs.nil)) (read_whole_gf F A r hr hA0 hA hlA) (by decide)) (EVs.cons (EV.call m6 (EVs.cons (EV.subL (hl := hl3) (EV.name m2) EV.int rfl) (EVs.cons (EV.name m1) EVs.nil)) (read_whole_gf F B r hr hB0 hB hlB) (by decide)) EVs.nil)) m3 m4 p4 p3 ?_
  with_reducible refine' EX.iteF (TR.of (TR.or (TR.cmp (EV.name m3) EV.none CmpD.isNone) (fun h => (TR.or (TR.cmp (EV.name m4) EV.none CmpD.isNone) (fun h => (TR.or (TR.cmp (EV.attr (EV.name m4) (AttrOk.of F.Reading F.Reading_top) f_Reading_top) EV.int CmpD.eq) (fun h => TR.or_nil)))))) key) ?_
  refine EX.pop ?_
  with_reducible refine' EX.retOf (EV.call m7 (EVs.cons (EV.attr (EV.name m3) (AttrOk.of F.Reading F.Reading_top) f_Reading_top) (EVs.cons (EV.attr (EV.name m4) (AttrOk.of F.Reading F.Reading_top) f_Reading_top) (EVs.cons (EV.and (EV.attr (EV.name m3) (AttrOk.of F.Reading F.Reading_is_exact) f_Reading_is_exact) (fun _ => (EV.one (EV.attr (EV.name m4) (AttrOk.of F.Reading F.Reading_is_exact) f_Reading_is_exact)))) EVs.nil))) (Reading_gf F ..) (by decide)) ?_
  rfl
theorem are_decimal_parts_gf {c : Cx} (F : Facts c) (A B : List Nat) (h0 : A ++ B ≠ []) (hA : ∀ d ∈ A, d < 10) (hB : ∀ d ∈ B, d < 10) (hlA : A.length ≤ 20000) (hlB : B.length ≤ 20000) : GF c (Str.ofString "are_decimal_parts") 3 [.str (S (A.map fig)), .str (S (B.map fig))] (.bool true) := by
  refine ⟨_, F.are_decimal_parts.name, F.are_decimal_parts.keep, ?_⟩
  refine FN.of F.are_decimal_parts.fn (okSt 49 (by decide)) rfl (by dsimp only [initEnv, List.cons_append, List.nil_append, List.append_nil]) rfl ?_
  have hne : ¬ S (A.map fig) ++ S (B.map fig) = Str.ofString "" := by rw [S_cat, S_nil, S_inj, ← List.map_append]; simpa using h0
  have hl4 : (([D.str (S (B.map fig)), D.int 0] : List D).length : Int) < 2 ^ 63 := by show ((2 : Nat) : Int) < _; decide
  have key : (!true || (!true || (decide (S (A.map fig) ++ S (B.map fig) = Str.ofString "") || false))) = false := by rw [decide_eq_false hne]; rfl
  with_reducible refine' EX.assign2 (EV.call m5 (EVs.cons (EV.name m0) EVs.nil) (parted_gf F _ (fig_last35 A) ?_) (by decide)) p2 p3 ?_
  · rw [List.length_map]; exact hlA
  with_reducible refine' EX.assign (EV.subT (hl := hl4) (EV.call m5 (EVs.cons (EV.name m1) EVs.nil) (parted_gf F _ (fig_last35 B) ?_) (by decide)) EV.int rfl) p4 ?_
  · rw [List.length_map]; exact hlB
  with_reducible refine' EX.iteF (TR.of (TR.or (TR.not (TR.plain (EV.call m6 (EVs.cons (EV.name m2) (EVs.cons EV.int EVs.nil)) (are_figures_gf F A 10 (by decide) hA ?_) (by decide)))) (fun h => (TR.or (TR.not (TR.plain (EV.call m6 (EVs.cons (EV.name m4) (EVs.cons EV.int EVs.nil)) (are_figures_gf F B 10 (by decide) hB ?_) (by decide)))) (fun h => (TR.or (TR.cmp (EV.bin (EV.name m2) (EV.name m4) (BinD.cat ?_)) EV.str CmpD.eqS) (fun h => TR.or_nil)))))) key) ?_
  · lia
  · lia
  · rw [S_len, S_len, List.length_map, List.length_map]; unfold sizeLine; lia
  refine EX.pop ?_
  with_reducible refine' EX.retOf (EV.or (EV.cmp (EV.name m3) EV.int CmpD.eq) (fun _ => (EV.one (EV.and (EV.cmp (EV.name m2) EV.str CmpD.neS) (fun _ => (EV.one (EV.cmp (EV.name m4) EV.str CmpD.eqS))))))) ?_
  rfl
end Mine
end
section
-- W11
open PySem PySem.W PyProof.Rows
set_option Elab.async false
set_option linter.all false
set_option maxRecDepth 100000
namespace Mine
theorem rdig_lenR {r : Nat} (hr : 2 ≤ r) : ∀ {k n : Nat}, n < r ^ k → (rdig r n).length ≤ k := by
  intro k
  induction k with
  | zero => intro n h; have : n = 0 := by simpa using h
            subst this; rw [rdig_zero]; simp
  | succ k ih =>
    intro n h
    rcases Nat.eq_zero_or_pos n with e | e
    · subst e; rw [rdig_zero]; simp
    · rw [rdig_step hr e]
      have : n / r < r ^ k := by
        rw [Nat.div_lt_iff_lt_mul (by lia)]; rw [Nat.pow_succ] at h; exact h
      have := ih this
      simp; lia
theorem digs_lenR {r n k : Nat} (hr : 2 ≤ r) (hk : 1 ≤ k) (h : n < r ^ k) : (digs r n).length ≤ k := by
  unfold digs; split
  · simpa using hk
  · rw [List.length_reverse]; exact rdig_lenR hr h
theorem pm_no {c : Nat} (h : 48 ≤ c) : anyS (S [c]) [Str.ofString "+", Str.ofString "-"] = false := by
  rw [Bool.eq_false_iff]
  intro h'
  unfold anyS at h'
  obtain ⟨y, hy, e⟩ := List.any_eq_true.mp h'
  have e' := sq_iff.mp e
  simp only [List.mem_cons, List.not_mem_nil, or_false] at hy
  rcases hy with rfl | rfl
  · rw [show Str.ofString "+" = S [43] by decide +kernel, S_inj] at e'
    simp at e'; lia
  · rw [S_minus, S_inj] at e'
    simp at e'; lia
theorem pm_yes : anyS (S [45]) [Str.ofString "+", Str.ofString "-"] = true := by decide +kernel
theorem figs_cons (n : Nat) : ∃ c l, figs 10 n = c :: l ∧ 48 ≤ c ∧ c < 58 := by
  unfold figs
  have h0 := digs_ne (r := 10) (by decide) n
  have h1 := digs_lt (r := 10) (by decide) n
  cases hd : digs 10 n with
  | nil => exact absurd hd h0
  | cons d l =>
    have := h1 d (by rw [hd]; exact .head _)
    exact ⟨fig d, l.map fig, rfl, fig_ge d, by rw [fig_ten this]; lia⟩
theorem read_exponent_gf {c : Cx} (F : Facts c) (E : Int) (hE : E.natAbs < 10 ^ 5) : GF c (Str.ofString "read_exponent") 2 [.str (S (wholeT 10 E))] (.int E) := by
  have hL := digs_lt (r := 10) (by decide) E.natAbs
  have hlen := digs_lenR (r := 10) (by decide) (by decide) hE
  have hne := digs_ne (r := 10) (by decide) E.natAbs
  have hpos : 0 < (digs 10 E.natAbs).length := List.length_pos_iff.mpr hne
  have hfl : (S (figs 10 E.natAbs)).length = (digs 10 E.natAbs).length := by rw [S_len, figs_len]
  have hw := worth_digs (r := 10) (by decide) E.natAbs
  have key : (!(decide ((1 : Int) ≤ (S (figs 10 E.natAbs)).length) && decide (((S (figs 10 E.natAbs)).length : Int) ≤ 5)) || (!true || false)) = false := by
    rw [hfl, decide_eq_true (by lia), decide_eq_true (by lia)]; rfl
  have hf63 : (S (figs 10 E.natAbs)).length < 2 ^ 63 := by rw [hfl]; lia
  have etup : (D.tup [D.str (Str.ofString "+"), D.str (Str.ofString "-")]) = .tup (txts [Str.ofString "+", Str.ofString "-"]) := rfl
  have hmul : ∀ i : Int, IntMulOk i ((worthD 10 (digs 10 E.natAbs) : Nat) : Int) := fun i => IntMulOk.of_right (by rw [hw, intBits_nat]; exact bits_le_of (Nat.lt_trans hE (by decide)))
  unfold wholeT
  rcases Int.lt_or_le E 0 with h | h
  · rw [if_pos h, List.singleton_append]
    refine ⟨_, F.read_exponent.name, F.read_exponent.keep, ?_⟩
    refine FN.of F.read_exponent.fn (okSt 50 (by decide)) rfl (by dsimp only [initEnv, List.cons_append, List.nil_append, List.append_nil]) rfl ?_
    have hls : (S (45 :: figs 10 E.natAbs)).length ≤ sizeLine := by rw [S_len, List.length_cons, figs_len]; unfold sizeLine; lia
    have s1 : Txt.slice (S (45 :: figs 10 E.natAbs)) none (some (1 : Int)) = S [45] := slice_to _ 1 (by simp)
    have s2 : Txt.slice (S (45 :: figs 10 E.natAbs)) (some (1 : Int)) none = S (figs 10 E.natAbs) := slice_from _ 1 (by simp)
    with_reducible refine' EX.assign (EV.iteT (TR.of (TR.cmp (EV.of (EV.sliceTo (EV.name m0) EV.int hls) (congrArg D.str s1)) (EV.of (EV.tuple (EVs.cons EV.str (EVs.cons EV.str EVs.nil))) etup) CmpD.inT) pm_yes) (EV.of (EV.sliceFrom (EV.name m0) EV.int hls) (congrArg D.str s2))) p1 ?_
    with_reducible refine' EX.iteF (TR.of (TR.or (TR.not (TR.chain EV.int (EV.blt m2 F.no_len bt_len (EVs.cons (EV.name m1) EVs.nil) (BCall.lenS hf63)) CmpD.le (EV.glo F.g_MEF m3) CmpD.le)) (fun h => (TR.or (TR.not (TR.plain (EV.call m4 (EVs.cons (EV.name m1) (EVs.cons EV.int EVs.nil)) (are_figures_gf F _ 10 (by decide) hL (by lia)) (by decide)))) (fun h => TR.or_nil)))) key) ?_
    refine EX.pop ?_
    with_reducible refine' EX.retOf (EV.bin (EV.iteT (TR.of (TR.cmp (EV.of (EV.sliceTo (EV.name m0) EV.int hls) (congrArg D.str s1)) EV.str CmpD.eqS) (decide_eq_true S_minus.symm)) (EV.neg EV.int)) (EV.call m5 (EVs.cons (EV.name m1) (EVs.cons EV.int EVs.nil)) (worth_of_gf F _ 10 (by decide) (fun d hd => Nat.lt_trans (hL d hd) (by decide))) (by decide)) (BinD.mul (hmul _))) ?_
    rw [hw]; exact congrArg D.int (by lia)
  · rw [if_neg (by lia), List.nil_append]
    refine ⟨_, F.read_exponent.name, F.read_exponent.keep, ?_⟩
    refine FN.of F.read_exponent.fn (okSt 50 (by decide)) rfl (by dsimp only [initEnv, List.cons_append, List.nil_append, List.append_nil]) rfl ?_
    obtain ⟨ch, l, hcl, hc1, hc2⟩ := figs_cons E.natAbs
    have hls : (S (figs 10 E.natAbs)).length ≤ sizeLine := by rw [hfl]; unfold sizeLine; lia
    have s1 : Txt.slice (S (figs 10 E.natAbs)) none (some (1 : Int)) = S [ch] := by
      have := slice_to (figs 10 E.natAbs) 1 (by rw [hcl]; simp)
      rw [hcl] at this ⊢; exact this
    have hn : ¬ S [ch] = Str.ofString "-" := by rw [S_minus, S_inj]; simp; lia
    with_reducible refine' EX.assign (EV.iteF (TR.of (TR.cmp (EV.of (EV.sliceTo (EV.name m0) EV.int hls) (congrArg D.str s1)) (EV.of (EV.tuple (EVs.cons EV.str (EVs.cons EV.str EVs.nil))) etup) CmpD.inT) (pm_no hc1)) (EV.name m0)) p1 ?_
    with_reducible refine' EX.iteF (TR.of (TR.or (TR.not (TR.chain EV.int (EV.blt m2 F.no_len bt_len (EVs.cons (EV.name m1) EVs.nil) (BCall.lenS hf63)) CmpD.le (EV.glo F.g_MEF m3) CmpD.le)) (fun h => (TR.or (TR.not (TR.plain (EV.call m4 (EVs.cons (EV.name m1) (EVs.cons EV.int EVs.nil)) (are_figures_gf F _ 10 (by decide) hL (by lia)) (by decide)))) (fun h => TR.or_nil)))) key) ?_
    refine EX.pop ?_
    with_reducible refine' EX.retOf (EV.bin (EV.iteF (TR.of (TR.cmp (EV.of (EV.sliceTo (EV.name m0) EV.int hls) (congrArg D.str s1)) EV.str CmpD.eqS) (decide_eq_false hn)) EV.int) (EV.call m5 (EVs.cons (EV.name m1) (EVs.cons EV.int EVs.nil)) (worth_of_gf F _ 10 (by decide) (fun d hd => Nat.lt_trans (hL d hd) (by decide))) (by decide)) (BinD.mul (hmul _))) ?_
    rw [hw]; exact congrArg D.int (by lia)
/-- the marks of an exponent -/
noncomputable def marks : List Nat := [101, 115, 102, 100, 108]
theorem mark_in (n : Nat) : (!(Builtin.Str.occurrences (Str.ofString "esfdl") ⟨#[n]⟩ 0 (Str.ofString "esfdl").length 1).isEmpty) = decide (n ∈ marks) := by
  rw [show Str.ofString "esfdl" = S marks by decide +kernel]
  exact has1 marks n
noncomputable def mkp : Nat → List Nat → List Nat
  | _, [] => []
  | i, n :: l => if n ∈ marks then i :: mkp (i + 1) l else mkp (i + 1) l
theorem mkp_none : ∀ (l : List Nat) (i : Nat), (∀ n ∈ l, n ∉ marks) → mkp i l = []
  | [], _, _ => rfl
  | n :: l, i, h => by rw [mkp, if_neg (h n (.head _))]; exact mkp_none l _ fun m hm => h m (.tail _ hm)
theorem mkp_one : ∀ (l : List Nat) (i : Nat) (x : Nat) (r : List Nat), (∀ n ∈ l, n ∉ marks) → x ∈ marks → (∀ n ∈ r, n ∉ marks) → mkp i (l ++ x :: r) = [i + l.length]
  | [], i, x, r, _, hx, hr => by rw [List.nil_append, mkp, if_pos hx, mkp_none _ _ hr]; rfl
  | n :: l, i, x, r, h, hx, hr => by
    rw [List.cons_append, mkp, if_neg (h n (.head _)), mkp_one l (i + 1) x r (fun m hm => h m (.tail _ hm)) hx hr, List.length_cons]
    congr 1; lia
theorem mkp_len : ∀ (l : List Nat) (i : Nat), (mkp i l).length ≤ l.length
  | [], _ => Nat.le_refl _
  | n :: l, i => by
    have := mkp_len l (i + 1)
    rw [mkp]; split <;> simp <;> lia
theorem mark_place_gf {c : Cx} (F : Facts c) (W : List Nat) (mp : Nat) (hW : W.length ≤ 100000) (h : (mkp 0 W = [] ∧ mp = W.length) ∨ mkp 0 W = [mp]) : GF c (Str.ofString "mark_place") 1 [.str (S W)] (.int mp) := by
  refine ⟨_, F.mark_place.name, F.mark_place.keep, ?_⟩
  refine FN.of F.mark_place.fn (okSt 51 (by decide)) rfl (by dsimp only [initEnv, List.cons_append, List.nil_append, List.append_nil]) rfl ?_
  have hl := mkp_len W 0
  with_reducible refine' EX.assignCompG (fr := []) (xs := [Str.ofString "place", Str.ofString "sign"]) (es := (mkp 0 W).map fun i => .int (i : Nat)) ?_ (fun p hp => absurd hp List.not_mem_nil) (IterET.enumS m2 F.no_enumerate bt_enumerate (EVs.cons (EV.name m0) EVs.nil)) ?_ p1 ?_ ?_ m1 rfl ?_ ?_
  · decide
  · rw [S_list]
    simp only [List.map_cons, List.map_nil, List.append_nil]
    clear h hl hW
    generalize hM : mkp 0 W = M
    generalize hS : eSigns 0 W = Sg
    have hx : ∃ i, mkp i W = M ∧ eSigns i W = Sg := ⟨0, hM, hS⟩
    clear hM hS
    obtain ⟨i, rfl, rfl⟩ := hx
    induction W generalizing i with
    | nil => exact CLG.nil
    | cons n W ih =>
      rcases Decidable.em (n ∈ marks) with q | q
      · rw [mkp, if_pos q, eSigns, List.map_cons]
        show CLG _ _ _ _ _ _ _ _ _ _ _ ([D.int (i : Nat)] ++ (mkp (i + 1) W).map fun i => D.int (i : Nat))
        with_reducible refine' CLG.take (TB.pair ?_ ?_ p0 p1) (Weak.drop (Weak.drop Weak.nil)) (fun μ => TRs.yes (TR.of (TR.cmp (EV.name m1) (EV.glo F.g_MARKS ?_) CmpD.inS) ((mark_in n).trans (decide_eq_true q))) TRs.nil) (EmitOk.elt ?_ fun μ => EV.name m0) (ih (i + 1))
        · first | with_unfolding_all exact m0 | with_unfolding_all exact m1 | with_unfolding_all exact m2 | with_unfolding_all exact m3
        · first | with_unfolding_all exact m0 | with_unfolding_all exact m1 | with_unfolding_all exact m2 | with_unfolding_all exact m3
        · first | with_unfolding_all exact m0 | with_unfolding_all exact m1 | with_unfolding_all exact m2 | with_unfolding_all exact m3
        · rfl
      · rw [mkp, if_neg q, eSigns]
        with_reducible refine' CLG.skip (TB.pair ?_ ?_ p0 p1) (Weak.drop (Weak.drop Weak.nil)) (fun μ => TRs.no (TR.of (TR.cmp (EV.name m1) (EV.glo F.g_MARKS ?_) CmpD.inS) ((mark_in n).trans (decide_eq_false q)))) (ih (i + 1))
        · first | with_unfolding_all exact m0 | with_unfolding_all exact m1 | with_unfolding_all exact m2 | with_unfolding_all exact m3
        · first | with_unfolding_all exact m0 | with_unfolding_all exact m1 | with_unfolding_all exact m2 | with_unfolding_all exact m3
        · first | with_unfolding_all exact m0 | with_unfolding_all exact m1 | with_unfolding_all exact m2 | with_unfolding_all exact m3
  · rcases h with ⟨h1, h2⟩ | h1
    · rw [h1]
      with_reducible refine' EX.retOf (EV.iteF (TR.cmp (EV.name m1) (EV.list EVs.nil) CmpD.neNil) (EV.blt m3 F.no_len bt_len (EVs.cons (EV.name m0) EVs.nil) (BCall.lenS ?_))) ?_
      · rw [S_len]; lia
      · rw [S_len, h2]
    · rw [h1]
      have hl3 : (([mp].map fun i => D.int (i : Nat)).length : Int) < 2 ^ 63 := by show ((1 : Nat) : Int) < _; decide
      with_reducible exact EX.ret (EV.iteT (TR.cmp (EV.name m1) (EV.list EVs.nil) CmpD.neNil) (EV.subL (hl := hl3) (EV.name m1) EV.int rfl))
  · rw [List.length_map]; unfold sizeLine; lia
  · decide
  · intro g hg; cases hg
theorem occ_none {l : List Nat} {c : Nat} (h : c ∉ l) : (Builtin.Str.occurrences (S l) (S [c]) 0 (S l).length ((S l).length + 1)).isEmpty = true := by
  have h1 := count_is (S l) c
  have h2 := cnt_none c _ (show c ∉ (S l).cps.toList by rw [S_list]; exact h)
  unfold cnt at h2
  rw [← h1] at h2
  unfold Txt.count at h2
  rw [List.isEmpty_iff]
  exact List.length_eq_zero_iff.mp (by exact_mod_cast h2)
theorem read_mantissaW_gf {c : Cx} (F : Facts c) (A : List Nat) (h0 : A ≠ []) (hA : ∀ d ∈ A, d < 10) (hl : A.length ≤ 20000) : GF c (Str.ofString "read_mantissa") 4 [.str (S (A.map fig))] (ReadD (worthD 10 A : Nat) 1 false) := by
  refine ⟨_, F.read_mantissa.name, F.read_mantissa.keep, ?_⟩
  refine FN.of F.read_mantissa.fn (okSt 52 (by decide)) rfl (by dsimp only [initEnv, List.cons_append, List.nil_append, List.append_nil]) rfl ?_
  have hs : Txt.split (S (A.map fig)) (Str.ofString ".") = [S (A.map fig)] := by rw [S_dot]; exact split_none (fig_ne (by decide) A)
  have hlen : (S (A.map fig)).length ≤ 100000 := by rw [S_len]; simp; lia
  have ht2 : (txts [S (A.map fig)]).length = 1 := rfl
  have hl2 : (txts [S (A.map fig)]).length < 2 ^ 63 := by rw [ht2]; decide
  have key2 : (decide (((txts [S (A.map fig)]).length : Int) = 1)) = true := by rw [ht2]; rfl
  with_reducible refine' EX.assign (EV.of (EV.smeth (EV.name m0) GetM.split (EVs.cons EV.str EVs.nil) (SCall.split ?_ ?_ ?_)) (congrArg (fun l => D.lst (txts l)) hs)) p1 ?_
  · decide +kernel
  · unfold sizeLine; lia
  · rw [S_dot]; exact parts_ok _ _ (by lia)
  with_reducible refine' EX.iteT (TR.of (TR.cmp (EV.blt m4 F.no_len bt_len (EVs.cons (EV.name m1) EVs.nil) (BCall.lenL hl2)) EV.int CmpD.eq) key2) ?_
  with_reducible refine' EX.assign (EV.call m5 (EVs.cons (EV.name m0) (EVs.cons EV.int EVs.nil)) (read_whole_gf F A 10 (by decide) h0 hA hl) (by decide)) p2 ?_
  with_reducible exact EX.ret (EV.iteF (TR.cmp (EV.name m2) EV.none CmpD.isNone) (EV.call m6 (EVs.cons (EV.attr (EV.name m2) (AttrOk.of F.Reading F.Reading_top) f_Reading_top) (EVs.cons EV.int (EVs.cons EV.bool EVs.nil))) (Reading_gf F ..) (by decide)))
theorem read_mantissaD_gf {c : Cx} (F : Facts c) (A B : List Nat) (h0 : A ++ B ≠ []) (hA : ∀ d ∈ A, d < 10) (hB : ∀ d ∈ B, d < 10) (hlA : A.length ≤ 10000) (hlB : B.length ≤ 10000) : GF c (Str.ofString "read_mantissa") 4 [.str (S (A.map fig ++ 46 :: B.map fig))] (ReadD (worthD 10 (A ++ B) : Nat) ((10 ^ B.length : Nat) : Int) false) := by
  refine ⟨_, F.read_mantissa.name, F.read_mantissa.keep, ?_⟩
  refine FN.of F.read_mantissa.fn (okSt 52 (by decide)) rfl (by dsimp only [initEnv, List.cons_append, List.nil_append, List.append_nil]) rfl ?_
  have hs : Txt.split (S (A.map fig ++ 46 :: B.map fig)) (Str.ofString ".") = [S (A.map fig), S (B.map fig)] := by rw [S_dot]; exact split_one (fig_ne (by decide) A) (fig_ne (by decide) B)
  have hlen : (S (A.map fig ++ 46 :: B.map fig)).length ≤ 100000 := by rw [S_len]; simp; lia
  have ht2 : (txts [S (A.map fig), S (B.map fig)]).length = 2 := rfl
  have hl2 : (txts [S (A.map fig), S (B.map fig)]).length < 2 ^ 63 := by rw [ht2]; decide
  have hl3 : ((txts [S (A.map fig), S (B.map fig)]).length : Int) < 2 ^ 63 := by rw [ht2]; decide
  have key1 : (decide (((txts [S (A.map fig), S (B.map fig)]).length : Int) = 1)) = false := by rw [ht2]; rfl
  have key2 : (!(decide (((txts [S (A.map fig), S (B.map fig)]).length : Int) = 2)) || (!true || false)) = false := by rw [ht2]; rfl
  have hrep : (Builtin.Str.occurrences (S (A.map fig) ++ S (B.map fig)) (Str.ofString "#") 0 (S (A.map fig) ++ S (B.map fig)).length ((S (A.map fig) ++ S (B.map fig)).length + 1)).isEmpty = true := by
    rw [S_cat, ← List.map_append, show Str.ofString "#" = S [35] by decide +kernel]
    exact occ_none (fig_ne (by decide) _)
  have ecat : S (A.map fig) ++ S (B.map fig) = S ((A ++ B).map fig) := by rw [S_cat, ← List.map_append]
  have hAB : ∀ d ∈ A ++ B, d < 16 := fun d hd => by
    rcases List.mem_append.mp hd with h | h
    · exact Nat.lt_trans (hA d h) (by decide)
    · exact Nat.lt_trans (hB d h) (by decide)
  with_reducible refine' EX.assign (EV.of (EV.smeth (EV.name m0) GetM.split (EVs.cons EV.str EVs.nil) (SCall.split ?_ ?_ ?_)) (congrArg (fun l => D.lst (txts l)) hs)) p1 ?_
  · decide +kernel
  · unfold sizeLine; lia
  · rw [S_dot]; exact parts_ok _ _ (by lia)
  with_reducible refine' EX.iteF (TR.of (TR.cmp (EV.blt m4 F.no_len bt_len (EVs.cons (EV.name m1) EVs.nil) (BCall.lenL hl2)) EV.int CmpD.eq) key1) ?_
  refine EX.pop ?_
  with_reducible refine' EX.iteF (TR.of (TR.or (TR.cmp (EV.blt m4 F.no_len bt_len (EVs.cons (EV.name m1) EVs.nil) (BCall.lenL hl2)) EV.int CmpD.ne) (fun h => (TR.or (TR.not (TR.plain (EV.call m7 (EVs.cons (EV.subL (hl := hl3) (EV.name m1) EV.int rfl) (EVs.cons (EV.subL (hl := hl3) (EV.name m1) EV.int rfl) EVs.nil)) (are_decimal_parts_gf F A B h0 hA hB (by lia) (by lia)) (by decide)))) (fun h => TR.or_nil)))) key2) ?_
  refine EX.pop ?_
  with_reducible refine' EX.assign (EV.of (EV.smeth (EV.bin (EV.subL (hl := hl3) (EV.name m1) EV.int rfl) (EV.subL (hl := hl3) (EV.name m1) EV.int rfl) (BinD.cat ?_)) GetM.replace (EVs.cons EV.str (EVs.cons EV.str EVs.nil)) (SCall.replace hrep)) (congrArg D.str ecat)) p3 ?_
  · rw [S_len, S_len]; unfold sizeLine; simp; lia
  with_reducible refine' EX.retOf (EV.call m6 (EVs.cons (EV.call m8 (EVs.cons (EV.name m3) (EVs.cons EV.int EVs.nil)) (worth_of_gf F (A ++ B) 10 (by decide) hAB) (by decide)) (EVs.cons (EV.bin EV.int (EV.blt m4 F.no_len bt_len (EVs.cons (EV.subL (hl := hl3) (EV.name m1) EV.int rfl) EVs.nil) (BCall.lenS ?_)) (BinD.pow ?_ ?_)) (EVs.cons EV.bool EVs.nil))) (Reading_gf F ..) (by decide)) ?_
  · rw [S_len]; simp; lia
  · lia
  · rw [S_len, bits_ten, List.length_map]; lia
  · rw [S_len, Int.toNat_natCast, ten_cast, List.length_map]
end Mine
end
section
-- W12
open PySem PySem.W PyProof.Rows
set_option Elab.async false
set_option linter.all false
set_option maxRecDepth 100000
set_option exponentiation.threshold 30000
namespace Mine
theorem whole_marks (E : Int) : ∀ n ∈ wholeT 10 E, n ∉ marks := by
  intro n hn hm
  unfold wholeT at hn
  have h2 : n = 45 ∨ 48 ≤ n ∧ n < 58 := by
    rcases List.mem_append.mp hn with h | h
    · split at h
      · exact .inl (List.mem_singleton.mp h)
      · cases h
    · right
      unfold figs at h
      obtain ⟨d, hd, rfl⟩ := List.mem_map.mp h
      have := digs_lt (r := 10) (by decide) _ d hd
      rw [fig_ten this]; lia
  unfold marks at hm
  simp only [List.mem_cons, List.not_mem_nil, or_false] at hm
  lia
theorem read_decimal1_gf {c : Cx} (F : Facts c) (M : List Nat) (t b : Int) (hM : ∀ n ∈ M, n ∉ marks) (hl : M.length ≤ 50000) (hg : GF c (Str.ofString "read_mantissa") 4 [.str (S M)] (ReadD t b false)) : GF c (Str.ofString "read_decimal") 5 [.str (S M)] (ReadD t b false) := by
  refine ⟨_, F.read_decimal.name, F.read_decimal.keep, ?_⟩
  refine FN.of F.read_decimal.fn (okSt 53 (by decide)) rfl (by dsimp only [initEnv, List.cons_append, List.nil_append, List.append_nil]) rfl ?_
  have hls : (S M).length ≤ sizeLine := by rw [S_len]; unfold sizeLine; lia
  have h63 : (S M).length < 2 ^ 63 := by rw [S_len]; lia
  have s1 : Txt.slice (S M) none (some ((M.length : Nat) : Int)) = S M := by have := slice_to M M.length (Nat.le_refl _); rwa [List.take_length] at this
  have key : (isNone (ReadD t b false) || (decide (((M.length : Nat) : Int) = (S M).length) || false)) = true := by rw [decide_eq_true (by rw [S_len])]; rfl
  with_reducible refine' EX.assign (EV.call m4 (EVs.cons (EV.name m0) EVs.nil) (mark_place_gf F M M.length (by lia) (.inl ⟨mkp_none _ _ hM, rfl⟩)) (by decide)) p1 ?_
  with_reducible refine' EX.assign (EV.call m5 (EVs.cons (EV.of (EV.sliceTo (EV.name m0) (EV.name m1) hls) (congrArg D.str s1)) EVs.nil) hg (by decide)) p2 ?_
  with_reducible refine' EX.iteT (TR.of (TR.or (TR.cmp (EV.name m2) EV.none CmpD.isNone) (fun h => (TR.or (TR.cmp (EV.name m1) (EV.blt m6 F.no_len bt_len (EVs.cons (EV.name m0) EVs.nil) (BCall.lenS h63)) CmpD.eq) (fun h => TR.or_nil)))) key) ?_
  with_reducible exact EX.ret (EV.name m2)
theorem read_decimal2_gf {c : Cx} (F : Facts c) (M : List Nat) (E : Int) (hE : E.natAbs ≤ 1000) (t b : Nat) (ht : t < 2 ^ 20000) (hb : b < 2 ^ 20000) (hM : ∀ n ∈ M, n ∉ marks) (hl : M.length ≤ 50000) (hg : GF c (Str.ofString "read_mantissa") 4 [.str (S M)] (ReadD t b false)) :
    GF c (Str.ofString "read_decimal") 5 [.str (S (M ++ 101 :: wholeT 10 E))] (ReadD ((t * 10 ^ E.toNat : Nat) : Int) ((b * 10 ^ (-E).toNat : Nat) : Int) false) := by
  have hwl := wholeT_len (r := 10) (n := E) (k := 20) (by decide) (by decide) (by lia)
  have hW : (M ++ 101 :: wholeT 10 E).length = M.length + 1 + (wholeT 10 E).length := by simp; lia
  have hls : (S (M ++ 101 :: wholeT 10 E)).length ≤ sizeLine := by rw [S_len, hW]; unfold sizeLine; lia
  have h63 : (S (M ++ 101 :: wholeT 10 E)).length < 2 ^ 63 := by rw [S_len, hW]; lia
  have s1 : Txt.slice (S (M ++ 101 :: wholeT 10 E)) none (some ((M.length : Nat) : Int)) = S M := by
    have := slice_to (M ++ 101 :: wholeT 10 E) M.length (by lia); rwa [List.take_left'] at this; rfl
  have s2 : Txt.slice (S (M ++ 101 :: wholeT 10 E)) (some ((M.length : Nat) + 1 : Int)) none = S (wholeT 10 E) := by
    have := slice_from (M ++ 101 :: wholeT 10 E) (M.length + 1) (by lia)
    rw [show ((M.length + 1 : Nat) : Int) = (M.length : Nat) + 1 by lia] at this
    rw [this]
    congr 1
    rw [show M ++ 101 :: wholeT 10 E = (M ++ [101]) ++ wholeT 10 E by simp]
    exact List.drop_left' (by simp)
  have key : (isNone (ReadD t b false) || (decide (((M.length : Nat) : Int) = (S (M ++ 101 :: wholeT 10 E)).length) || false)) = false := by rw [decide_eq_false (by rw [S_len, hW]; lia)]; rfl
  have hm1 : mkp 0 (M ++ 101 :: wholeT 10 E) = [M.length] := by rw [mkp_one M 0 101 _ hM (by decide) (whole_marks E), Nat.zero_add]
  have h10 : ∀ g : Nat, g ≤ 1000 → 10 ^ g < 2 ^ 5000 := fun g hg => Nat.lt_of_lt_of_le (Nat.pow_lt_pow_left (b := 16) (by decide) (show 1001 ≠ 0 by decide) |> fun h => Nat.lt_of_le_of_lt (Nat.pow_le_pow_right (by decide) (show g ≤ 1001 by lia)) h) (by rw [show (16 : Nat) = 2 ^ 4 from rfl, ← Nat.pow_mul]; exact Nat.pow_le_pow_right (by decide) (by decide))
  refine ⟨_, F.read_decimal.name, F.read_decimal.keep, ?_⟩
  refine FN.of F.read_decimal.fn (okSt 53 (by decide)) rfl (by dsimp only [initEnv, List.cons_append, List.nil_append, List.append_nil]) rfl ?_
  with_reducible refine' EX.assign (EV.call m4 (EVs.cons (EV.name m0) EVs.nil) (mark_place_gf F _ M.length (by lia) (.inr hm1)) (by decide)) p1 ?_
  with_reducible refine' EX.assign (EV.call m5 (EVs.cons (EV.of (EV.sliceTo (EV.name m0) (EV.name m1) hls) (congrArg D.str s1)) EVs.nil) hg (by decide)) p2 ?_
  with_reducible refine' EX.iteF (TR.of (TR.or (TR.cmp (EV.name m2) EV.none CmpD.isNone) (fun h => (TR.or (TR.cmp (EV.name m1) (EV.blt m6 F.no_len bt_len (EVs.cons (EV.name m0) EVs.nil) (BCall.lenS h63)) CmpD.eq) (fun h => TR.or_nil)))) key) ?_
  refine EX.pop ?_
  with_reducible refine' EX.assign (EV.call m7 (EVs.cons (EV.of (EV.sliceFrom (EV.name m0) (EV.bin (EV.name m1) EV.int BinD.add) hls) (congrArg D.str s2)) EVs.nil) (read_exponent_gf F E (by lia)) (by decide)) p3 ?_
  with_reducible refine' EX.iteF (TR.cmp (EV.name m3) EV.none CmpD.isNone) ?_
  refine EX.pop ?_
  rcases Int.lt_or_le E 0 with h | h
  · with_reducible refine' EX.iteF (TR.of (TR.cmp (EV.name m3) EV.int CmpD.ge) (decide_eq_false (by lia))) ?_
    refine EX.pop ?_
    have ep : (10 : Int) ^ (0 - E).toNat = ((10 ^ (-E).toNat : Nat) : Int) := by rw [Int.zero_sub, ten_cast]
    with_reducible refine' EX.retOf (EV.call m8 (EVs.cons (EV.attr (EV.name m2) (AttrOk.of F.Reading F.Reading_top) f_Reading_top) (EVs.cons (EV.bin (EV.attr (EV.name m2) (AttrOk.of F.Reading F.Reading_bottom) f_Reading_bottom) (EV.of (EV.bin EV.int (EV.bin EV.int (EV.name m3) BinD.sub) (BinD.pow ?_ ?_)) (congrArg D.int ep)) (BinD.mul ?_)) (EVs.cons EV.bool EVs.nil))) (Reading_gf F ..) (by decide)) ?_
    · lia
    · rw [bits_ten]; lia
    · exact natMul hb (h10 _ (by lia)) (by decide)
    · rw [show E.toNat = 0 by lia, Nat.pow_zero, Nat.mul_one, Int.natCast_mul]
  · with_reducible refine' EX.iteT (TR.of (TR.cmp (EV.name m3) EV.int CmpD.ge) (decide_eq_true h)) ?_
    with_reducible refine' EX.retOf (EV.call m8 (EVs.cons (EV.bin (EV.attr (EV.name m2) (AttrOk.of F.Reading F.Reading_top) f_Reading_top) (EV.of (EV.bin EV.int (EV.name m3) (BinD.pow ?_ ?_)) (congrArg D.int (ten_cast E.toNat))) (BinD.mul ?_)) (EVs.cons (EV.attr (EV.name m2) (AttrOk.of F.Reading F.Reading_bottom) f_Reading_bottom) (EVs.cons EV.bool EVs.nil))) (Reading_gf F ..) (by decide)) ?_
    · exact h
    · rw [bits_ten]; lia
    · exact natMul ht (h10 _ (by lia)) (by decide)
    · rw [show (-E).toNat = 0 by lia, Nat.pow_zero, Nat.mul_one, Int.natCast_mul]
theorem occ_in (l : List Nat) (c : Nat) (x : Str) (hx : x = S [c]) : (!(Builtin.Str.occurrences (S l) x 0 (S l).length 1).isEmpty) = decide (c ∈ l) := by rw [hx]; exact has1 l c
theorem read_unsignedD_gf {c : Cx} (F : Facts c) (W : List Nat) (mp : Nat) (t b : Int) (hW : W.length ≤ 60000) (h47 : 47 ∉ W) (hmp : (mkp 0 W = [] ∧ mp = W.length) ∨ mkp 0 W = [mp]) (hd : 46 ∈ W ∨ mp < W.length) (hg : GF c (Str.ofString "read_decimal") 5 [.str (S W)] (ReadD t b false)) :
    GF c (Str.ofString "read_unsigned") 6 [.str (S W), .int 10] (ReadD t b false) := by
  refine ⟨_, F.read_unsigned.name, F.read_unsigned.keep, ?_⟩
  refine FN.of F.read_unsigned.fn (okSt 54 (by decide)) rfl (by dsimp only [initEnv, List.cons_append, List.nil_append, List.append_nil]) rfl ?_
  have h63 : (S W).length < 2 ^ 63 := by rw [S_len]; lia
  have i1 := (occ_in W 47 _ S_slash).trans (decide_eq_false h47)
  have i2 := occ_in W 46 _ S_dot
  have key : (decide ((10 : Int) = 10) && ((decide (46 ∈ W) || (decide ((mp : Int) < (S W).length) || false)) && true)) = true := by
    rw [S_len]
    rcases hd with h | h
    · rw [decide_eq_true h]; rfl
    · rw [decide_eq_true (show (mp : Int) < (W.length : Nat) by lia)]; cases decide (46 ∈ W) <;> rfl
  with_reducible refine' EX.iteF (TR.of (TR.cmp EV.str (EV.name m0) CmpD.inS) i1) ?_
  refine EX.pop ?_
  with_reducible refine' EX.iteT (TR.of (TR.and (TR.cmp (EV.name m1) EV.int CmpD.eq) (fun h => (TR.and (TR.or (TR.of (TR.cmp EV.str (EV.name m0) CmpD.inS) i2) (fun h => (TR.or (TR.cmp (EV.call m3 (EVs.cons (EV.name m0) EVs.nil) (mark_place_gf F W mp (by lia) hmp) (by decide)) (EV.blt m4 F.no_len bt_len (EVs.cons (EV.name m0) EVs.nil) (BCall.lenS h63)) CmpD.lt) (fun h => TR.or_nil)))) (fun h => TR.and_nil)))) key) ?_
  with_reducible exact EX.ret (EV.call m5 (EVs.cons (EV.name m0) EVs.nil) hg (by decide))
theorem read_unsignedR_gf {c : Cx} (F : Facts c) (A B : List Nat) (r : Nat) (hr : r ≤ 16) (hA0 : A ≠ []) (hB0 : B ≠ []) (hA : ∀ d ∈ A, d < r) (hB : ∀ d ∈ B, d < r) (hlA : A.length ≤ 20000) (hlB : B.length ≤ 20000) (hw : 0 < worthD r B) :
    GF c (Str.ofString "read_unsigned") 6 [.str (S (A.map fig ++ 47 :: B.map fig)), .int r] (ReadD (worthD r A : Nat) (worthD r B : Nat) true) := by
  refine ⟨_, F.read_unsigned.name, F.read_unsigned.keep, ?_⟩
  refine FN.of F.read_unsigned.fn (okSt 54 (by decide)) rfl (by dsimp only [initEnv, List.cons_append, List.nil_append, List.append_nil]) rfl ?_
  have i1 := (occ_in (A.map fig ++ 47 :: B.map fig) 47 _ S_slash).trans (decide_eq_true (by simp))
  with_reducible refine' EX.iteT (TR.of (TR.cmp EV.str (EV.name m0) CmpD.inS) i1) ?_
  with_reducible exact EX.ret (EV.call m2 (EVs.cons (EV.name m0) (EVs.cons (EV.name m1) EVs.nil)) (read_ratio_gf F A B r hr hA0 hB0 hA hB hlA hlB hw) (by decide))
theorem read_unsignedW_gf {c : Cx} (F : Facts c) (A : List Nat) (r : Nat) (hr : r ≤ 16) (h10 : r ≠ 10) (hA0 : A ≠ []) (hA : ∀ d ∈ A, d < r) (hlA : A.length ≤ 20000) :
    GF c (Str.ofString "read_unsigned") 6 [.str (S (A.map fig)), .int r] (ReadD (worthD r A : Nat) 1 true) := by
  refine ⟨_, F.read_unsigned.name, F.read_unsigned.keep, ?_⟩
  refine FN.of F.read_unsigned.fn (okSt 54 (by decide)) rfl (by dsimp only [initEnv, List.cons_append, List.nil_append, List.append_nil]) rfl ?_
  have i1 := (occ_in (A.map fig) 47 _ S_slash).trans (decide_eq_false (fig_ne (by decide) A))
  with_reducible refine' EX.iteF (TR.of (TR.cmp EV.str (EV.name m0) CmpD.inS) i1) ?_
  refine EX.pop ?_
  with_reducible refine' EX.iteF (TR.and (b' := true) (TR.of (TR.cmp (EV.name m1) EV.int CmpD.eq) (decide_eq_false (by lia))) (fun h => by cases h)) ?_
  refine EX.pop ?_
  with_reducible exact EX.ret (EV.call m6 (EVs.cons (EV.name m0) (EVs.cons (EV.name m1) EVs.nil)) (read_whole_gf F A r hr hA0 hA hlA) (by decide))
end Mine
end
section
-- W13
open PySem PySem.W PyProof.Rows
set_option Elab.async false
set_option linter.all false
set_option maxRecDepth 100000
set_option exponentiation.threshold 30000
namespace Mine
theorem noRad : (Spec.lookup (.str (Str.ofString "i")) (radD.map fun p => (PyData.str p.1, p.2))).isSome = false := by decide +kernel
theorem CmpD.inRad {c : Cx} (F : Facts c) : CmpD c .In (.str (Str.ofString "i")) (.ptr 215) false := fun {A S s v u Q E} ro l i r1 r2 q => by
  obtain ⟨t, rfl⟩ := r1.str_inv
  have e : u = .ref 215 := by simpa [Rep] using r2
  subst e
  refine in_strTab (F.radT _ i.k) ?_
  rw [noRad]
  exact q _ Kp.toks
theorem swapped_const {ts vs : List Expr} {k1 k2 : Nat} {tp vp : Pos} {env : Env} (h : vs.all (foldedForSure 8) = true) : swappedStores [.Tuple ts k1 tp] (.Tuple vs k2 vp) env = pure none := by
  unfold swappedStores
  simp only [h, if_true]
  repeat' split
  all_goals rfl
/-- no prefix -/
theorem split_none_gf {c : Cx} (F : Facts c) (W : List Nat) (r : Nat) (h : W.take 1 ≠ [35]) (hl : W.length ≤ 60000) (h0 : W ≠ []) : GF c (Str.ofString "split_prefixes") 1 [.str (S W), .int r] (.tup [.str (S W), .int r, .str (S [])]) := by
  refine ⟨_, F.split_prefixes.name, F.split_prefixes.keep, ?_⟩
  refine FN.of F.split_prefixes.fn (okSt 55 (by decide)) rfl (by dsimp only [initEnv, List.cons_append, List.nil_append, List.append_nil]) rfl ?_
  have hls : (S W).length ≤ sizeLine := by rw [S_len]; unfold sizeLine; lia
  have hpos : 0 < W.length := List.length_pos_iff.mpr h0
  have s1 : Txt.slice (S W) (some (0 : Int)) (some (0 + 1 : Int)) = S (W.take 1) := slice_mid W 0 1 (by decide) (by lia)
  have s2 : Txt.slice (S W) (some (0 : Int)) none = S W := slice_from W 0 (by lia)
  have hn : ¬ S (W.take 1) = Str.ofString "#" := by rw [show Str.ofString "#" = S [35] by decide +kernel, S_inj]; exact h
  with_reducible refine' EX.assign3 (EV.tuple (EVs.cons EV.str (EVs.cons EV.bool (EVs.cons EV.int EVs.nil)))) p2 p3 p4 ?_ ?_
  rotate_left
  · exact fun env => swapped_const (by with_unfolding_all rfl)
  with_reducible refine' EX.while_ (WL.stop (TR.of (TR.cmp (EV.of (EV.sliceBoth (EV.name m0) (EV.name m4) (EV.bin (EV.name m4) EV.int BinD.add) hls) (congrArg D.str s1)) EV.str CmpD.eqS) (decide_eq_false hn)) ?_)
  with_reducible refine' EX.retOf (EV.tuple (EVs.cons (EV.of (EV.sliceFrom (EV.name m0) (EV.name m4) hls) (congrArg D.str s2)) (EVs.cons (EV.name m1) (EVs.cons (EV.name m2) EVs.nil)))) ?_
  rw [S_nil]
/-- the prefix #i -/
theorem split_hi_gf {c : Cx} (F : Facts c) (W : List Nat) (r : Nat) (h : W.take 1 ≠ [35]) (hl : W.length ≤ 60000) (h0 : W ≠ []) : GF c (Str.ofString "split_prefixes") 1 [.str (S (35 :: 105 :: W)), .int r] (.tup [.str (S W), .int r, .str (S [105])]) := by
  refine ⟨_, F.split_prefixes.name, F.split_prefixes.keep, ?_⟩
  refine FN.of F.split_prefixes.fn (okSt 55 (by decide)) rfl (by dsimp only [initEnv, List.cons_append, List.nil_append, List.append_nil]) rfl ?_
  have hWl : (35 :: 105 :: W).length = W.length + 2 := rfl
  have hls : (S (35 :: 105 :: W)).length ≤ sizeLine := by rw [S_len, hWl]; unfold sizeLine; lia
  have hpos : 0 < W.length := List.length_pos_iff.mpr h0
  have s1 : Txt.slice (S (35 :: 105 :: W)) (some (0 : Int)) (some (0 + 1 : Int)) = S [35] := slice_mid _ 0 1 (by decide) (by lia)
  have s2 : Txt.slice (S (35 :: 105 :: W)) (some (0 + 1 : Int)) (some (0 + 2 : Int)) = Str.ofString "i" := (slice_mid _ 1 2 (by decide) (by lia)).trans (show S [105] = Str.ofString "i" by decide +kernel)
  have s3 : Txt.slice (S (35 :: 105 :: W)) (some (0 + 2 : Int)) (some (0 + 2 + 1 : Int)) = S (W.take 1) := slice_mid _ 2 3 (by decide) (by lia)
  have s4 : Txt.slice (S (35 :: 105 :: W)) (some (0 + 2 : Int)) none = S W := slice_from _ 2 (by lia)
  have hh : S [35] = Str.ofString "#" := by decide +kernel
  have hn : ¬ S (W.take 1) = Str.ofString "#" := by rw [← hh, S_inj]; exact h
  have etup : (D.tup [D.str (Str.ofString "e"), D.str (Str.ofString "i")]) = .tup (txts [Str.ofString "e", Str.ofString "i"]) := rfl
  have key : (anyS (Str.ofString "i") [Str.ofString "e", Str.ofString "i"] && (decide (Str.ofString "" = Str.ofString "") && true)) = true := by decide +kernel
  with_reducible refine' EX.assign3 (EV.tuple (EVs.cons EV.str (EVs.cons EV.bool (EVs.cons EV.int EVs.nil)))) p2 p3 p4 ?_ ?_
  rotate_left
  · exact fun env => swapped_const (by with_unfolding_all rfl)
  with_reducible refine' EX.while_ (WL.go (TR.of (TR.cmp (EV.of (EV.sliceBoth (EV.name m0) (EV.name m4) (EV.bin (EV.name m4) EV.int BinD.add) hls) (congrArg D.str s1)) EV.str CmpD.eqS) (decide_eq_true hh)) (EX.assign (EV.of (EV.sliceBoth (EV.name m0) (EV.bin (EV.name m4) EV.int BinD.add) (EV.bin (EV.name m4) EV.int BinD.add) hls) (congrArg D.str s2)) p5 (EX.iteF (TR.and (b' := true) (TR.cmp (EV.name m5) (EV.glo F.g_RADICES m6) (CmpD.inRad F)) (fun h => by cases h)) (EX.iteT (TR.of (TR.and (TR.cmp (EV.name m5) (EV.of (EV.tuple (EVs.cons EV.str (EVs.cons EV.str EVs.nil))) etup) CmpD.inT) (fun h => TR.and (TR.cmp (EV.name m2) EV.str CmpD.eqS) (fun h => TR.and_nil))) key) (EX.assign (EV.name m5) p2 (EX.pop (EX.pop (EX.assign (EV.bin (EV.name m4) EV.int BinD.add) p4 EX.nil))))))) (WL.stop (TR.of (TR.cmp (EV.of (EV.sliceBoth (EV.name m0) (EV.name m4) (EV.bin (EV.name m4) EV.int BinD.add) hls) (congrArg D.str s3)) EV.str CmpD.eqS) (decide_eq_false hn)) ?_))
  with_reducible refine' EX.retOf (EV.tuple (EVs.cons (EV.of (EV.sliceFrom (EV.name m0) (EV.name m4) hls) (congrArg D.str s4)) (EVs.cons (EV.name m1) (EVs.cons (EV.name m2) EVs.nil)))) ?_
  rw [show Str.ofString "i" = S [105] by decide +kernel]
theorem finished_gf {c : Cx} (F : Facts c) (p : Nat) (t b : Int) (d : D) (hg : GF c (Str.ofString "rounded") 5 [.int p, .int t, .int b] d) : GF c (Str.ofString "finished") 6 [.int p, .int t, .int b, .bool false] d := by
  refine ⟨_, F.finished.name, F.finished.keep, ?_⟩
  refine FN.of F.finished.fn (okSt 56 (by decide)) rfl (by dsimp only [initEnv, List.cons_append, List.nil_append, List.append_nil]) rfl ?_
  with_reducible refine' EX.iteF (TR.plain (EV.name m3)) ?_
  refine EX.pop ?_
  with_reducible exact EX.try_ (EX.ret (EV.call m5 (EVs.cons (EV.name m0) (EVs.cons (EV.name m1) (EVs.cons (EV.name m2) EVs.nil))) hg (by decide)))
noncomputable def hiP (i : Bool) : List Nat := if i then [35, 105] else []
noncomputable def sgP (s : Int) : List Nat := if s < 0 then [45] else []
theorem parse_number_gf {c : Cx} (F : Facts c) (p : Nat) (i : Bool) (s : Int) (hs : s = 1 ∨ s = -1) (u : Nat) (U : List Nat) (r : Nat) (T B : Nat) (x : Bool) (d : D) (hT : T < 2 ^ 30000) (hu : 48 ≤ u) (hU : ∀ c ∈ u :: U, c < 128 ∧ ¬ (65 ≤ c ∧ c ≤ 90)) (hl : U.length ≤ 50000) (hx : i = false → x = false)
    (hg : GF c (Str.ofString "read_unsigned") 6 [.str (S (u :: U)), .int r] (ReadD (T : Nat) (B : Nat) x)) (hr : GF c (Str.ofString "rounded") 5 [.int p, .int (s * T), .int B] d) :
    GF c (Str.ofString "parse_number") 7 [.int p, .str (S (hiP i ++ (sgP s ++ u :: U))), .int r] d := by
  have hlow : Txt.lower (S (hiP i ++ (sgP s ++ u :: U))) = S (hiP i ++ (sgP s ++ u :: U)) := lower_S _ fun c hc => by
    rcases List.mem_append.mp hc with h | h
    · unfold hiP at h; split at h
      · simp only [List.mem_cons, List.not_mem_nil, or_false] at h; lia
      · cases h
    · rcases List.mem_append.mp h with h | h
      · unfold sgP at h; split at h
        · simp only [List.mem_cons, List.not_mem_nil, or_false] at h; lia
        · cases h
      · exact hU c h
  have hlen : (hiP i ++ (sgP s ++ u :: U)).length ≤ 50010 := by unfold hiP sgP; split <;> split <;> simp <;> lia
  have hlen2 : (sgP s ++ u :: U).length ≤ 50010 := by unfold sgP; split <;> simp <;> lia
  have hW1 : (sgP s ++ u :: U).take 1 ≠ [35] := by unfold sgP; split <;> simp <;> lia
  have hW0 : sgP s ++ u :: U ≠ [] := by simp
  have hsp : GF c (Str.ofString "split_prefixes") 1 [.str (S (hiP i ++ (sgP s ++ u :: U))), .int r] (.tup [.str (S (sgP s ++ u :: U)), .int r, .str (S (if i then [105] else []))]) := by
    cases i
    · exact split_none_gf F _ r hW1 (Nat.le_trans hlen2 (by decide)) hW0
    · exact split_hi_gf F _ r hW1 (Nat.le_trans hlen2 (by decide)) hW0
  generalize hWW : hiP i ++ (sgP s ++ u :: U) = WW at *
  have hls : (S (sgP s ++ u :: U)).length ≤ sizeLine := by rw [S_len]; unfold sizeLine; lia
  have key : (decide (S (if i then [105] else []) = Str.ofString "e") || (decide (S (if i then [105] else []) = Str.ofString "") && x)) = false := by
    cases i
    · rw [hx rfl]; decide +kernel
    · cases x <;> decide +kernel
  have etup : (D.tup [D.str (Str.ofString "+"), D.str (Str.ofString "-")]) = .tup (txts [Str.ofString "+", Str.ofString "-"]) := rfl
  have s1 : Txt.slice (S (sgP s ++ u :: U)) none (some (1 : Int)) = S ((sgP s ++ u :: U).take 1) := slice_to _ 1 (by simp; lia)
  have s2 : Txt.slice (S (sgP s ++ u :: U)) (some (1 : Int)) none = S ((sgP s ++ u :: U).drop 1) := slice_from _ 1 (by simp; lia)
  have b1 : decide (S ((sgP s ++ u :: U).take 1) = Str.ofString "-") = decide (s < 0) := by
    unfold sgP
    rw [S_minus]
    by_cases h : s < 0
    · rw [if_pos h, decide_eq_true h]; exact decide_eq_true rfl
    · rw [if_neg h, decide_eq_false h]
      refine decide_eq_false fun e => ?_
      rw [S_inj] at e
      have e' : u = 45 := by simpa using e
      lia
  have b2 : anyS (S ((sgP s ++ u :: U).take 1)) [Str.ofString "+", Str.ofString "-"] = decide (s < 0) := by
    unfold sgP
    by_cases h : s < 0
    · rw [if_pos h, decide_eq_true h]; exact pm_yes
    · rw [if_neg h, decide_eq_false h]; exact pm_no hu
  have e1 : (if decide (s < 0) = true then (-1 : Int) else 1) = s := by rcases hs with h | h <;> subst h <;> rfl
  have e2 : (if decide (s < 0) = true then S ((sgP s ++ u :: U).drop 1) else S (sgP s ++ u :: U)) = S (u :: U) := by
    unfold sgP
    by_cases h : s < 0
    · rw [if_pos (decide_eq_true h), if_pos h]; rfl
    · rw [if_neg (by simpa using h), if_neg h]; rfl
  refine ⟨_, F.parse_number.name, F.parse_number.keep, ?_⟩
  refine FN.of F.parse_number.fn (okSt 57 (by decide)) rfl (by dsimp only [initEnv, List.cons_append, List.nil_append, List.append_nil]) rfl ?_
  with_reducible refine' EX.assign (EV.call m9 (EVs.cons (EV.of (EV.smeth0 (EV.name m1) GetM.lower (SCall.lower ?_)) (congrArg D.str hlow)) (EVs.cons (EV.name m2) EVs.nil)) hsp (by decide)) p3 ?_
  · rw [hlow, S_len]; unfold Builtin.Str.tooLong sizeLine; rw [decide_eq_false_iff_not]; lia
  with_reducible refine' EX.iteF (TR.cmp (EV.name m3) EV.none CmpD.isNone) ?_
  refine EX.pop ?_
  with_reducible refine' EX.assign3 (EV.name m3) p4 p2 p5 ?_ ?_
  rotate_left
  · exact fun env => swapped_none (by with_unfolding_all rfl)
  with_reducible refine' EX.assign (EV.of (EV.iteI (TR.of (TR.cmp (EV.of (EV.sliceTo (EV.name m4) EV.int hls) (congrArg D.str s1)) EV.str CmpD.eqS) b1) (fun h => (EV.neg EV.int)) (fun h => EV.int)) (congrArg D.int e1)) p6 ?_
  with_reducible refine' EX.assign (EV.call m10 (EVs.cons (EV.of (EV.iteS (TR.of (TR.cmp (EV.of (EV.sliceTo (EV.name m4) EV.int hls) (congrArg D.str s1)) (EV.of (EV.tuple (EVs.cons EV.str (EVs.cons EV.str EVs.nil))) etup) CmpD.inT) b2) (fun h => (EV.of (EV.sliceFrom (EV.name m4) EV.int hls) (congrArg D.str s2))) (fun h => (EV.name m4))) (congrArg D.str e2)) (EVs.cons (EV.name m2) EVs.nil)) hg (by decide)) p7 ?_
  with_reducible refine' EX.iteF (TR.cmp (EV.name m7) EV.none CmpD.isNone) ?_
  refine EX.pop ?_
  with_reducible refine' EX.assign (EV.of (EV.or (EV.cmp (EV.name m5) EV.str CmpD.eqS) (fun _ => (EV.one (EV.and (EV.cmp (EV.name m5) EV.str CmpD.eqS) (fun _ => (EV.one (EV.attr (EV.name m7) (AttrOk.of F.Reading F.Reading_is_exact) f_Reading_is_exact))))))) (congrArg D.bool key)) p8 ?_
  with_reducible refine' EX.ret (EV.call m11 (EVs.cons (EV.name m0) (EVs.cons (EV.bin (EV.name m6) (EV.attr (EV.name m7) (AttrOk.of F.Reading F.Reading_top) f_Reading_top) (BinD.mul ?_)) (EVs.cons (EV.attr (EV.name m7) (AttrOk.of F.Reading F.Reading_bottom) f_Reading_bottom) (EVs.cons (EV.name m8) EVs.nil)))) (finished_gf F p _ _ d hr) (by decide))
  refine IntMulOk.of_left ?_
  rcases hs with h | h <;> subst h <;> decide +kernel
end Mine
end
section
-- M4
open PySem PySem.W PyProof.Rows
set_option Elab.async false
set_option linter.all false
set_option maxRecDepth 100000
namespace Mine
/-- the unit of a power, the whole, scaled -/
noncomputable def U4 (e L : Int) : Nat := 4 * 10 ^ (L + 40).toNat * 2 ^ (-e).toNat
noncomputable def YY (e : Int) : Nat := 10 ^ 40 * 2 ^ e.toNat
theorem U4_pos (e L : Int) : 0 < U4 e L := Nat.mul_pos (Nat.mul_pos (by decide) (Nat.pow_pos (by decide))) (Nat.two_pow_pos _)
theorem YY_pos (e : Int) : 0 < YY e := Nat.mul_pos (Nat.pow_pos (by decide)) (Nat.two_pow_pos _)
theorem U4_ten {e L : Int} (h : -40 ≤ L) : U4 e (L + 1) = 10 * U4 e L := by
  unfold U4
  rw [show (L + 1 + 40).toNat = (L + 40).toNat + 1 by lia, Nat.pow_succ, show 4 * (10 ^ (L + 40).toNat * 10) = 10 * (4 * 10 ^ (L + 40).toNat) by lia, Nat.mul_assoc]
theorem scale_u (e : Int) : ∃ c, 0 < c ∧ 2 ^ (2 - e).toNat * c = 4 * 2 ^ (-e).toNat ∧ 2 ^ (e - 2).toNat * c = 2 ^ e.toNat := by
  have a := tn0 e
  have b := tn2 e
  have c : (e - 2).toNat ≤ e.toNat := Int.toNat_le_toNat (by lia)
  generalize e.toNat = x at *
  generalize (-e).toNat = y at *
  generalize (2 - e).toNat = u at *
  generalize (e - 2).toNat = v at *
  refine ⟨2 ^ (x - v), Nat.two_pow_pos _, ?_, ?_⟩
  · rw [← Nat.pow_add, show u + (x - v) = 2 + y by lia, Nat.pow_add]
  · rw [← Nat.pow_add, Nat.add_sub_cancel' c]
/-- the power's own half, up to forty -/
theorem ten_low {P : Int} (hP : -40 ≤ P) : (-P).toNat ≤ 40 := Int.toNat_le.mpr (by lia)
theorem ten_high {P : Int} (hP : -40 ≤ P) : P.toNat + (40 - (-P).toNat) = (P + 40).toNat := by
  have a := tn0 P
  have b := ten_low hP
  have c := Int.toNat_of_nonneg (show 0 ≤ P + 40 by lia)
  generalize P.toNat = x at *
  generalize (-P).toNat = y at *
  generalize (P + 40).toNat = z at *
  lia
theorem scale_at {e P : Int} (hP : -40 ≤ P) : ∃ s, 0 < s ∧ (∀ q, oT (e - 2).toNat q P * s = q * YY e) ∧ oB (2 - e).toNat P * s = U4 e P := by
  obtain ⟨c, hc, h1, h2⟩ := scale_u e
  refine ⟨c * 10 ^ (40 - (-P).toNat), Nat.mul_pos hc (Nat.pow_pos (by decide)), fun q => ?_, ?_⟩
  · unfold oT YY
    rw [show q * 2 ^ (e - 2).toNat * 10 ^ (-P).toNat * (c * 10 ^ (40 - (-P).toNat)) = q * (10 ^ (-P).toNat * 10 ^ (40 - (-P).toNat) * (2 ^ (e - 2).toNat * c)) by ac_rfl, h2, ← Nat.pow_add, Nat.add_sub_cancel' (ten_low hP)]
  · unfold oB U4
    rw [show 2 ^ (2 - e).toNat * 10 ^ P.toNat * (c * 10 ^ (40 - (-P).toNat)) = (10 ^ P.toNat * 10 ^ (40 - (-P).toNat)) * (2 ^ (2 - e).toNat * c) by ac_rfl, h1, ← Nat.pow_add, ten_high hP]
    ac_rfl
theorem leastN_scale {x : Bool} {T B s : Nat} (hs : 0 < s) : leastN x (T * s) (B * s) = leastN x T B := by
  unfold leastN
  rw [Nat.mul_div_mul_right _ _ hs, Nat.mul_mod_mul_right]
  have : (T % B * s = 0) ↔ (T % B = 0) := by
    constructor
    · intro h; rcases Nat.mul_eq_zero.mp h with h | h; exact h; lia
    · intro h; rw [h, Nat.zero_mul]
  simp only [this]
theorem greatN_scale {x : Bool} {T B s : Nat} (hs : 0 < s) : greatN x (T * s) (B * s) = greatN x T B := by
  unfold greatN
  rw [Nat.mul_div_mul_right _ _ hs, Nat.mul_mod_mul_right]
  have : (0 < T % B * s) ↔ (0 < T % B) := by
    constructor
    · intro h; exact Nat.pos_of_mul_pos_right h
    · intro h; exact Nat.mul_pos h hs
  simp only [this]
theorem nearQ_scale {X U s : Nat} (hs : 0 < s) : nearQ (X * s) (U * s) = nearQ X U := by
  unfold nearQ
  rw [Nat.mul_div_mul_right _ _ hs, Nat.mul_mod_mul_right, ← Nat.mul_assoc]
  have h1 : (2 * (X % U) * s > U * s) ↔ (2 * (X % U) > U) := Nat.mul_lt_mul_right hs
  have h2 : (2 * (X % U) * s = U * s) ↔ (2 * (X % U) = U) := Nat.mul_left_inj (by lia)
  simp only [h1, h2]
theorem dst_scale (a b s : Nat) : dst (a * s) (b * s) = dst a b * s := by
  unfold dst
  rw [Nat.add_mul, Nat.sub_mul, Nat.sub_mul]
theorem mod_ne {x n U : Nat} (h : x % U ≠ 0) : x ≠ n * U := fun e => h (e ▸ Nat.mul_mod_left n U)
theorem least_iff {x : Bool} {lo U n : Nat} (hU : 0 < U) : leastN x lo U ≤ n ↔ (if x = true then lo ≤ n * U else lo < n * U) := by
  have hlt : lo / U + 1 ≤ n ↔ lo < n * U := Nat.div_lt_iff_lt_mul hU
  unfold leastN
  cases x with
  | false => rw [if_neg (fun h => by cases h.2), if_neg (by decide)]; exact hlt
  | true =>
    rw [if_pos (show true = true from rfl)]
    by_cases h : lo % U = 0
    · rw [if_pos ⟨h, rfl⟩]
      have e := Nat.div_add_mod lo U
      rw [h, Nat.add_zero, Nat.mul_comm] at e
      rw [← Nat.mul_le_mul_right_iff hU, e]
    · rw [if_neg fun z => h z.1]
      exact hlt.trans ⟨Nat.le_of_lt, fun z => Nat.lt_of_le_of_ne z (mod_ne h)⟩
theorem great_iff {x : Bool} {hi U n : Nat} (hU : 0 < U) (hh : 0 < hi) : n ≤ greatN x hi U ↔ (if x = true then n * U ≤ hi else n * U < hi) := by
  have hle : n ≤ hi / U ↔ n * U ≤ hi := Nat.le_div_iff_mul_le hU
  unfold greatN
  cases x with
  | true => rw [if_pos (Or.inr rfl), if_pos rfl]; exact hle
  | false =>
    rw [if_neg (show ¬ false = true by decide)]
    by_cases h : 0 < hi % U
    · rw [if_pos (Or.inl h)]
      exact hle.trans ⟨fun z => Nat.lt_of_le_of_ne z (Ne.symm (mod_ne (Nat.ne_of_gt h))), Nat.le_of_lt⟩
    · rw [if_neg (fun z => z.elim h (fun z => by cases z))]
      have e := Nat.div_add_mod hi U
      rw [Nat.eq_zero_of_not_pos h, Nat.add_zero, Nat.mul_comm] at e
      have q0 : 0 < hi / U := Nat.pos_of_ne_zero fun z => by rw [z, Nat.zero_mul] at e; rw [← e] at hh; exact Nat.lt_irrefl _ hh
      rw [Nat.le_sub_one_iff_lt q0, ← Nat.mul_lt_mul_right hU, e]
theorem inn_iff {x : Bool} {lo hi U n : Nat} (hU : 0 < U) (hh : 0 < hi) : Inn x lo hi (n * U) ↔ leastN x lo U ≤ n ∧ n ≤ greatN x hi U := by
  rw [least_iff hU, great_iff hU hh]
  unfold Inn
  cases x <;> simp
theorem least_pos {x : Bool} {lo U : Nat} (hU : 0 < U) (hl : 0 < lo) : 1 ≤ leastN x lo U := by
  rcases Nat.eq_zero_or_pos (leastN x lo U) with h | h
  · have := (least_iff (x := x) (lo := lo) (n := 0) hU).mp (by lia)
    rw [Nat.zero_mul] at this
    split at this <;> lia
  · exact h
section
variable {p m : Nat} {e : Int}
noncomputable abbrev ev (m : Nat) : Bool := decide (m % 2 = 0)
theorem cond_iff {P : Int} (hP : -40 ≤ P) {l g : Nat} {x : Bool} : condS l g x (e - 2).toNat (2 - e).toNat P ↔ greatN x (g * YY e) (U4 e P) < max 1 (leastN x (l * YY e) (U4 e P)) := by
  obtain ⟨s, hs, h1, h2⟩ := scale_at (e := e) hP
  unfold condS
  rw [← h1, ← h1, ← h2, leastN_scale hs, greatN_scale hs]
theorem lo_pos (hp : 2 ≤ p) (h1 : 2 ^ (p - 1) ≤ m) : 0 < lowQ p m ∧ 7 * (4 * m + 2) ≤ 10 * lowQ p m := by
  have h2 : 2 ≤ 2 ^ (p - 1) := Nat.le_trans (show 2 ≤ 2 ^ 1 by decide) (Nat.pow_le_pow_right (by decide) (Nat.le_sub_one_of_lt hp))
  unfold lowQ
  generalize 2 ^ (p - 1) = H at *
  split <;> lia
/-- no one stands of a greater unit -/
theorem none_of_cond {P : Int} (hP : -40 ≤ P) (hp : 2 ≤ p) (h1 : 2 ^ (p - 1) ≤ m) (h : condS (lowQ p m) (4 * m + 2) (ev m) (e - 2).toNat (2 - e).toNat P) : ∀ k, 1 ≤ k → ¬ Inn (ev m) ((lowQ p m * YY e)) (((4 * m + 2) * YY e)) (k * U4 e P) := by
  intro k hk hi
  rw [cond_iff hP] at h
  have := (inn_iff (U4_pos e P) (Nat.mul_pos (by lia) (YY_pos e))).mp hi
  lia
theorem good_short {P : Int} (hP : -38 ≤ P) (hp : 2 ≤ p) (h1 : 2 ^ (p - 1) ≤ m) (hstop : ¬ condS (lowQ p m) (4 * m + 2) (ev m) (e - 2).toNat (2 - e).toNat P) (hgo : condS (lowQ p m) (4 * m + 2) (ev m) (e - 2).toNat (2 - e).toNat (P + 1)) :
    Good (ev m) ((lowQ p m * YY e)) (((4 * m + 2) * YY e)) (4 * m * YY e) (U4 e (shortR (4 * m) (lowQ p m) (4 * m + 2) (ev m) (e - 2).toNat (2 - e).toNat P).2) (shortR (4 * m) (lowQ p m) (4 * m + 2) (ev m) (e - 2).toNat (2 - e).toNat P).1 ∧
      ((shortR (4 * m) (lowQ p m) (4 * m + 2) (ev m) (e - 2).toNat (2 - e).toNat P).2 = P ∨ (shortR (4 * m) (lowQ p m) (4 * m + 2) (ev m) (e - 2).toNat (2 - e).toNat P).2 = P - 1) := by
  obtain ⟨hl0, hrat⟩ := lo_pos hp h1
  have hlo : 0 < (lowQ p m * YY e) := Nat.mul_pos hl0 (YY_pos e)
  have hhi : 0 < ((4 * m + 2) * YY e) := Nat.mul_pos (by lia) (YY_pos e)
  have hr : 7 * ((4 * m + 2) * YY e) ≤ 10 * (lowQ p m * YY e) := by
    show 7 * ((4 * m + 2) * YY e) ≤ 10 * (lowQ p m * YY e)
    rw [← Nat.mul_assoc, ← Nat.mul_assoc]; exact Nat.mul_le_mul_right _ hrat
  have hno := none_of_cond (by lia) hp h1 hgo
  rw [U4_ten (by lia)] at hno
  have hU := U4_pos e P
  have hV := U4_pos e (P - 1)
  have hUV : U4 e P = 10 * U4 e (P - 1) := by have := U4_ten (e := e) (L := P - 1) (by lia); rwa [Int.sub_add_cancel] at this
  rw [cond_iff (by lia)] at hstop
  obtain ⟨s0, hs0, t0, b0⟩ := scale_at (e := e) (P := P) (by lia)
  obtain ⟨s1, hs1, t1, b1⟩ := scale_at (e := e) (P := P - 1) (by lia)
  have ok0 := fun n => inn_iff (x := ev m) (lo := (lowQ p m * YY e)) (hi := ((4 * m + 2) * YY e)) (n := n) hU hhi
  have ok1 := fun n => inn_iff (x := ev m) (lo := (lowQ p m * YY e)) (hi := ((4 * m + 2) * YY e)) (n := n) hV hhi
  have lp := least_pos (x := ev m) hU hlo
  have lp1 := least_pos (x := ev m) hV hlo
  have hb := best_clamp (X := 4 * m * YY e) (ok := fun n => Inn (ev m) ((lowQ p m * YY e)) (((4 * m + 2) * YY e)) (n * U4 e P)) hU (by lia) ok0
  unfold shortR
  rw [← nearQ_scale hs0, ← leastN_scale hs0, ← greatN_scale hs0, t0, t0, t0, b0]
  generalize hf : min (max (nearQ (4 * m * YY e) (U4 e P)) (leastN (ev m) (lowQ p m * YY e) (U4 e P))) (greatN (ev m) ((4 * m + 2) * YY e) (U4 e P)) = f at *
  have hf1 : 1 ≤ f := hf ▸ Nat.le_min.mpr ⟨Nat.le_trans lp (Nat.le_max_right _ _), Nat.le_trans (Nat.le_max_left 1 _) (Nat.not_lt.mp hstop)⟩
  split
  · rename_i hone
    have hone' : Inn (ev m) ((lowQ p m * YY e)) (((4 * m + 2) * YY e)) (1 * U4 e P) := (ok0 1).mpr ⟨by lia, by lia⟩
    unfold lowerR lowerC
    rw [← nearQ_scale hs1, ← leastN_scale hs1, ← greatN_scale hs1, t1, t1, t1, b1]
    generalize hg : min (max (nearQ (4 * m * YY e) (U4 e (P - 1))) (leastN (ev m) (lowQ p m * YY e) (U4 e (P - 1)))) (min (greatN (ev m) ((4 * m + 2) * YY e) (U4 e (P - 1))) 9) = g at *
    have ok9 : ∀ n, (Inn (ev m) ((lowQ p m * YY e)) (((4 * m + 2) * YY e)) (n * U4 e (P - 1)) ∧ n ≤ 9) ↔ leastN (ev m) (lowQ p m * YY e) (U4 e (P - 1)) ≤ n ∧ n ≤ min (greatN (ev m) ((4 * m + 2) * YY e) (U4 e (P - 1))) 9 := fun n => by
      rw [ok1 n]; lia
    split
    · rename_i hlt
      refine ⟨good_found hUV hno hb hf1 hone' (.inl fun k hk hk9 hi => ?_), .inl rfl⟩
      have := (ok9 k).mp ⟨hi, hk9⟩
      lia
    · rename_i hge
      have hbg := best_clamp (X := 4 * m * YY e) (ok := fun n => Inn (ev m) ((lowQ p m * YY e)) (((4 * m + 2) * YY e)) (n * U4 e (P - 1)) ∧ n ≤ 9) hV (by lia) ok9
      rw [hg] at hbg
      have d1 : dst (g * oB (2 - e).toNat (P - 1)) (oT (e - 2).toNat (4 * m) (P - 1)) * s1 = dst (g * U4 e (P - 1)) (4 * m * YY e) := by
        rw [← dst_scale, Nat.mul_assoc, b1, t1]
      have d0 : dst (f * oB (2 - e).toNat P) (oT (e - 2).toNat (4 * m) P) * s0 = dst (f * U4 e P) (4 * m * YY e) := by
        rw [← dst_scale, Nat.mul_assoc, b0, t0]
      have hss : 0 < s0 * s1 := Nat.mul_pos hs0 hs1
      have m1 : dst (g * oB (2 - e).toNat (P - 1)) (oT (e - 2).toNat (4 * m) (P - 1)) * oB (2 - e).toNat P * (s0 * s1) = dst (g * U4 e (P - 1)) (4 * m * YY e) * U4 e P := by
        rw [← d1, ← b0]; ac_rfl
      have m0 : 10 * dst (f * oB (2 - e).toNat P) (oT (e - 2).toNat (4 * m) P) * oB (2 - e).toNat (P - 1) * (s0 * s1) = dst (f * U4 e P) (4 * m * YY e) * U4 e P := by
        rw [hUV, ← b1]
        rw [show 10 * dst (f * oB (2 - e).toNat P) (oT (e - 2).toNat (4 * m) P) * oB (2 - e).toNat (P - 1) * (s0 * s1) = (dst (f * oB (2 - e).toNat P) (oT (e - 2).toNat (4 * m) P) * s0) * (10 * (oB (2 - e).toNat (P - 1) * s1)) by ac_rfl, d0, b1, ← hUV]
      have c1 : dst (g * oB (2 - e).toNat (P - 1)) (oT (e - 2).toNat (4 * m) (P - 1)) * oB (2 - e).toNat P < 10 * dst (f * oB (2 - e).toNat P) (oT (e - 2).toNat (4 * m) P) * oB (2 - e).toNat (P - 1) ↔ dst (g * U4 e (P - 1)) (4 * m * YY e) < dst (f * U4 e P) (4 * m * YY e) := by
        rw [← Nat.mul_lt_mul_right hss, m1, m0, Nat.mul_lt_mul_right hU]
      have c2 : dst (g * oB (2 - e).toNat (P - 1)) (oT (e - 2).toNat (4 * m) (P - 1)) * oB (2 - e).toNat P = 10 * dst (f * oB (2 - e).toNat P) (oT (e - 2).toNat (4 * m) P) * oB (2 - e).toNat (P - 1) ↔ dst (g * U4 e (P - 1)) (4 * m * YY e) = dst (f * U4 e P) (4 * m * YY e) := by
        rw [← Nat.mul_left_inj (a := s0 * s1) (by lia), m1, m0, Nat.mul_left_inj (by lia)]
      split
      · rename_i hy
        rw [c1, c2] at hy
        exact ⟨good_lower hUV hr hlo hb hone' hbg hy, .inr rfl⟩
      · rename_i hn
        rw [c1, c2] at hn
        exact ⟨good_found hUV hno hb hf1 hone' (.inr ⟨g, hbg, hn⟩), .inl rfl⟩
  · rename_i hne
    refine ⟨good_high hno hb hf1 fun h => ?_, .inl rfl⟩
    have := (ok0 1).mp h
    lia
theorem tens_big : ∀ k : Nat, k < 80 → 2 ^ ((k : Int) - 40).toNat * 10 ^ (-tensA ((k : Int) - 40)).toNat * 2 ≤ 10 ^ (tensA ((k : Int) - 40)).toNat * 2 ^ (-((k : Int) - 40)).toNat ∧ -12 ≤ tensA ((k : Int) - 40) ∧ tensA ((k : Int) - 40) ≤ 20 := by decide +kernel
theorem tens_at {n : Int} (h1 : -40 ≤ n) (h2 : n ≤ 39) : 2 ^ n.toNat * 10 ^ (-tensA n).toNat * 2 ≤ 10 ^ (tensA n).toNat * 2 ^ (-n).toNat ∧ -12 ≤ tensA n ∧ tensA n ≤ 20 := by
  have := tens_big (n + 40).toNat (by lia)
  rwa [show (((n + 40).toNat : Nat) : Int) - 40 = n by lia] at this
/-- at the power to begin at, nothing stands yet -/
theorem cond_top (hp : 2 ≤ p) (h1 : 2 ^ (p - 1) ≤ m) (h2 : m < 2 ^ p) (hn1 : -40 ≤ p + e) (hn2 : p + e ≤ 39) : condS (lowQ p m) (4 * m + 2) (ev m) (e - 2).toNat (2 - e).toNat (tensA (p + e)) := by
  obtain ⟨t1, t2, t3⟩ := tens_at hn1 hn2
  rw [cond_iff (by lia)]
  generalize hP : tensA (p + e) = P at *
  have hU := U4_pos e P
  have hhi : 0 < (4 * m + 2) * YY e := Nat.mul_pos (by lia) (YY_pos e)
  have hlt : (4 * m + 2) * YY e < U4 e P := by
    -- (4m+2) 2^e < 4 * 2^(p+e) <= 4 * 10^P
    have a1 : (4 * m + 2) * YY e < 4 * 2 ^ p * YY e := Nat.mul_lt_mul_of_pos_right (by lia) (YY_pos e)
    refine Nat.lt_of_lt_of_le a1 ?_
    have hs : 0 < 2 ^ (-(p + e)).toNat * 10 ^ (-P).toNat := Nat.mul_pos (Nat.two_pow_pos _) (Nat.pow_pos (by decide))
    refine Nat.le_of_mul_le_mul_right ?_ hs
    -- both sides by powers
    have b1 : 4 * 2 ^ p * YY e * (2 ^ (-(p + e)).toNat * 10 ^ (-P).toNat) = (2 ^ (p + e).toNat * 10 ^ (-P).toNat) * (4 * 10 ^ 40 * 2 ^ (-e).toNat) := by
      unfold YY
      have : 2 ^ p * 2 ^ e.toNat * 2 ^ (-(p + e)).toNat = 2 ^ (p + e).toNat * 2 ^ (-e).toNat := by
        have a := tn0 e
        have b := tn0 (p + e)
        rw [← Nat.pow_add, ← Nat.pow_add, ← Nat.pow_add]; congr 1
        clear a1
        generalize e.toNat = x at *
        generalize (-e).toNat = y at *
        generalize ((p : Int) + e).toNat = u at *
        generalize (-((p : Int) + e)).toNat = v at *
        clear t1 hs hhi
        lia
      rw [show 4 * 2 ^ p * (10 ^ 40 * 2 ^ e.toNat) * (2 ^ (-(p + e)).toNat * 10 ^ (-P).toNat) = 4 * 10 ^ 40 * 10 ^ (-P).toNat * (2 ^ p * 2 ^ e.toNat * 2 ^ (-(p + e)).toNat) by ac_rfl, this]
      ac_rfl
    have b2 : U4 e P * (2 ^ (-(p + e)).toNat * 10 ^ (-P).toNat) = (10 ^ P.toNat * 2 ^ (-(p + e)).toNat) * (4 * 10 ^ 40 * 2 ^ (-e).toNat) := by
      unfold U4
      have : 10 ^ (P + 40).toNat * 10 ^ (-P).toNat = 10 ^ P.toNat * 10 ^ 40 := by
        have a := ten_high (P := P) (by lia)
        have b := ten_low (P := P) (by lia)
        rw [← Nat.pow_add, ← Nat.pow_add, ← a, Nat.add_assoc, Nat.sub_add_cancel b]
      rw [show 4 * 10 ^ (P + 40).toNat * 2 ^ (-e).toNat * (2 ^ (-(p + e)).toNat * 10 ^ (-P).toNat) = 4 * 2 ^ (-e).toNat * 2 ^ (-(p + e)).toNat * (10 ^ (P + 40).toNat * 10 ^ (-P).toNat) by ac_rfl, this]
      ac_rfl
    rw [b1, b2]
    exact Nat.mul_le_mul_right _ (Nat.le_trans (Nat.le_mul_of_pos_right _ (by decide)) t1)
  have hg : ¬ 1 ≤ greatN (ev m) ((4 * m + 2) * YY e) (U4 e P) := fun h => by
    have := (great_iff hU hhi).mp h
    rw [Nat.one_mul] at this
    split at this <;> lia
  lia
/-- low enough, one stands -/
theorem cond_low (hp : 2 ≤ p) (h1 : 2 ^ (p - 1) ≤ m) (he : -70 ≤ e) : ¬ condS (lowQ p m) (4 * m + 2) (ev m) (e - 2).toNat (2 - e).toNat (-25) := by
  rw [cond_iff (by lia)]
  have hU := U4_pos e (-25)
  have hhi : 0 < (4 * m + 2) * YY e := Nat.mul_pos (by lia) (YY_pos e)
  obtain ⟨hl0, _⟩ := lo_pos hp h1
  have hlo : 0 < lowQ p m * YY e := Nat.mul_pos hl0 (YY_pos e)
  have hm2 : 2 ≤ m := Nat.le_trans (show 2 ^ 1 ≤ 2 ^ (p - 1) from Nat.pow_le_pow_right (by decide) (by lia)) h1
  have hw : lowQ p m * YY e + 3 * YY e ≤ (4 * m + 2) * YY e := by
    rw [← Nat.add_mul]; refine Nat.mul_le_mul_right _ ?_
    unfold lowQ; split <;> lia
  have hbig : U4 e (-25) ≤ YY e := by
    unfold U4 YY
    rw [show ((-25 : Int) + 40).toNat = 15 by decide]
    have : 2 ^ (-e).toNat ≤ 2 ^ 70 := Nat.pow_le_pow_right (by decide) (by lia)
    have h2 : 1 ≤ 2 ^ e.toNat := Nat.two_pow_pos _
    calc 4 * 10 ^ 15 * 2 ^ (-e).toNat ≤ 4 * 10 ^ 15 * 2 ^ 70 := Nat.mul_le_mul_left _ this
      _ ≤ 10 ^ 40 := by decide
      _ ≤ 10 ^ 40 * 2 ^ e.toNat := Nat.le_mul_of_pos_right _ h2
  have lp := least_pos (x := ev m) hU hlo
  generalize lowQ p m * YY e = lo at *
  generalize (4 * m + 2) * YY e = hi at *
  generalize U4 e (-25) = U at *
  have hL := Nat.div_add_mod lo U
  have hr := Nat.mod_lt lo hU
  rw [Nat.mul_comm] at hL
  have hin : Inn (ev m) lo hi ((lo / U + 1) * U) := by
    unfold Inn
    rw [Nat.add_mul, Nat.one_mul]
    cases ev m
    · simp only [Bool.false_eq_true, if_false]; lia
    · simp only [if_true]; lia
  have := (inn_iff hU hhi).mp hin
  lia
/-- where the loop stops -/
theorem stop_at (hp : 2 ≤ p) (h1 : 2 ^ (p - 1) ≤ m) (h2 : m < 2 ^ p) (hn1 : -40 ≤ p + e) (hn2 : p + e ≤ 39) (he : -70 ≤ e) : ∃ P, -25 ≤ P ∧ P < tensA (p + e) ∧ ¬ condS (lowQ p m) (4 * m + 2) (ev m) (e - 2).toNat (2 - e).toNat P ∧ ∀ Q, P < Q → Q ≤ tensA (p + e) → condS (lowQ p m) (4 * m + 2) (ev m) (e - 2).toNat (2 - e).toNat Q := by
  have ht := cond_top (e := e) hp h1 h2 hn1 hn2
  obtain ⟨-, t2, t3⟩ := tens_at hn1 hn2
  have hl := cond_low (e := e) hp h1 he
  generalize tensA (p + e) = T at *
  generalize hC : (fun P => condS (lowQ p m) (4 * m + 2) (ev m) (e - 2).toNat (2 - e).toNat P) = C at *
  have hC' : ∀ P, condS (lowQ p m) (4 * m + 2) (ev m) (e - 2).toNat (2 - e).toNat P ↔ C P := fun P => by rw [← hC]
  simp only [hC'] at *
  have key : ∀ k : Nat, ∀ Q : Int, Q = -25 + k → Q ≤ T → (∀ R, Q < R → R ≤ T → C R) → ∃ P, -25 ≤ P ∧ P < T ∧ ¬ C P ∧ ∀ R, P < R → R ≤ T → C R := by
    intro k
    induction k with
    | zero => intro Q hQ hQT hR; exact ⟨-25, by lia, by lia, hl, fun R h h' => hR R (by lia) h'⟩
    | succ k ih =>
      intro Q hQ hQT hR
      by_cases c : C Q
      · exact ih (Q - 1) (by lia) (by lia) fun R h h' => by
          by_cases e : R = Q
          · rw [e]; exact c
          · exact hR R (by lia) h'
      · exact ⟨Q, by lia, by
          by_cases e : Q = T
          · rw [e] at c; exact absurd ht c
          · lia, c, hR⟩
  exact key (T + 25).toNat T (by lia) (Int.le_refl _) fun R h h' => by lia
end
end Mine
end
section
-- W14
open PySem PySem.W PyProof.Rows
set_option Elab.async false
set_option linter.all false
set_option maxRecDepth 100000
set_option exponentiation.threshold 30000
namespace Mine
theorem CmpD.neB {c : Cx} {a b : Bool} : CmpD c .NotEq (.bool a) (.bool b) (a != b) := fun _ _ _ r r' q => by
  rw [r.bool_inv, r'.bool_inv]; exact ne_bool (q _ Kp.refl)
noncomputable def ovT (n : Nat) (L : Int) : Nat := n * 10 ^ L.toNat
noncomputable def ovB (L : Int) : Nat := 10 ^ (-L).toNat
theorem ovT_lt {n i : Nat} {L : Int} (hn : n < 2 ^ i) (hL : L.natAbs ≤ 250) : ovT n L < 2 ^ (i + 1001) := mul_pow hn (ten_bits (by lia))
theorem ovB_lt {L : Int} (hL : L.natAbs ≤ 250) : ovB L < 2 ^ 1001 := ten_bits (by lia)
theorem ovB_pos (L : Int) : 0 < ovB L := Nat.pow_pos (by decide)
theorem law_over_gf {c : Cx} (F : Facts c) (n : Nat) (L : Int) (hn : n < 2 ^ 3000) (hL : L.natAbs ≤ 250) : GF c (Str.ofString "_law_over") 1 [.int n, .int L] (.tup [.int (ovT n L : Nat), .int (ovB L : Nat)]) := by
  refine ⟨_, F.law_over.name, F.law_over.keep, ?_⟩
  refine FN.of F.law_over.fn (okSt 65 (by decide)) rfl (by dsimp only [initEnv, List.cons_append, List.nil_append, List.append_nil]) rfl ?_
  have b10 := bits_ten
  unfold ovT ovB
  rcases Int.lt_or_le L 0 with h0 | h0
  · with_reducible refine' EX.retOf (EV.iteF (TR.of (TR.cmp (EV.name m1) EV.int CmpD.ge) (decide_eq_false (by lia))) (EV.tuple (EVs.cons (EV.name m0) (EVs.cons (EV.of (EV.bin EV.int (EV.bin EV.int (EV.name m1) BinD.sub) (BinD.pow ?_ ?_)) (congrArg D.int (ten_cast _))) EVs.nil)))) ?_
    · lia
    · rw [b10]; lia
    · rw [show L.toNat = 0 by lia, Nat.pow_zero, Nat.mul_one, Int.zero_sub]
  · with_reducible refine' EX.retOf (EV.iteT (TR.of (TR.cmp (EV.name m1) EV.int CmpD.ge) (decide_eq_true h0)) (EV.tuple (EVs.cons (EV.bin (EV.name m0) (EV.of (EV.bin EV.int (EV.name m1) (BinD.pow ?_ ?_)) (congrArg D.int (ten_cast _))) (BinD.mul ?_)) (EVs.cons EV.int EVs.nil)))) ?_
    · exact h0
    · rw [b10]; lia
    · exact natMul hn (ten_bits (n := L.toNat) (by lia)) (by decide)
    · rw [← Int.natCast_mul, show (-L).toNat = 0 by lia, Nat.pow_zero]; rfl
theorem law_gap_gf {c : Cx} (F : Facts c) (n : Nat) (L : Int) (T B : Nat) (hn : n < 2 ^ 2000) (hL : L.natAbs ≤ 250) (hT : T < 2 ^ 1000) (hB : B < 2 ^ 1000) :
    GF c (Str.ofString "_law_gap") 2 [.tup [.int n, .int L], .int T, .int B] (.tup [.int (dst (ovT n L * B) (T * ovB L) : Nat), .int (ovB L * B : Nat)]) := by
  refine ⟨_, F.law_gap.name, F.law_gap.keep, ?_⟩
  refine FN.of F.law_gap.fn (okSt 66 (by decide)) rfl (by dsimp only [initEnv, List.cons_append, List.nil_append, List.append_nil]) rfl ?_
  with_reducible refine' EX.assign2 (EV.call m5 (EVs.cons (EV.subT (EV.name m0) EV.int rfl (by decide) len2) (EVs.cons (EV.subT (EV.name m0) EV.int rfl (by decide) len2) EVs.nil)) (law_over_gf F n L (Nat.lt_trans hn (pow_lt (by decide))) hL) (by decide)) p3 p4 ?_
  have hT' := ovT_lt hn hL
  have hB' := ovB_lt hL
  generalize ovT n L = X at *
  generalize ovB L = Y at *
  with_reducible refine' EX.retOf (EV.tuple (EVs.cons (EV.blt m6 F.no_abs bt_abs (EVs.cons (EV.bin (EV.of (EV.bin (EV.name m3) (EV.name m2) (BinD.mul ?_)) (congrArg D.int (Int.natCast_mul _ _).symm)) (EV.of (EV.bin (EV.name m1) (EV.name m4) (BinD.mul ?_)) (congrArg D.int (Int.natCast_mul _ _).symm)) BinD.sub) EVs.nil) BCall.abs) (EVs.cons (EV.of (EV.bin (EV.name m4) (EV.name m2) (BinD.mul ?_)) (congrArg D.int (Int.natCast_mul _ _).symm)) EVs.nil))) ?_
  · exact natMul hT' hB (by decide)
  · exact natMul hT hB' (by decide)
  · exact natMul hB' hB (by decide)
  · rw [dst_abs]
theorem law_real_gf {c : Cx} (F : Facts c) (p m z : Nat) (b : Int) (e : Int) (hm : (m : Int) = 2 ^ z * (2 * b + 1)) : GF c (Str.ofString "_law_real") 3 [.int p, .int m, .int e] (RealD (2 * b + 1) (e + z)) := by
  refine ⟨_, F.law_real.name, F.law_real.keep, ?_⟩
  refine FN.of F.law_real.fn (okSt 63 (by decide)) rfl (by dsimp only [initEnv, List.cons_append, List.nil_append, List.append_nil]) rfl ?_
  with_reducible refine' EX.while_ ?_
  have f2 := fmod_nat m 2
  rw [show ((2 : Nat) : Int) = 2 from rfl] at f2
  induction z generalizing m e with
  | zero =>
    have hm' : (m : Int) = 2 * b + 1 := by simpa using hm
    with_reducible refine' WL.stop (TR.of (TR.cmp (EV.bin (EV.name m1) EV.int (BinD.fmod ?_)) EV.int CmpD.eq) (decide_eq_false ?_)) ?_
    · decide
    · rw [f2]; lia
    with_reducible refine' EX.retOf (EV.call m3 (EVs.cons (EV.name m1) (EVs.cons (EV.name m2) EVs.nil)) (Real_gf F ..) (by decide)) ?_
    rw [hm']
    congr 1
    simp
  | succ z ih =>
    obtain ⟨o, ho⟩ : ∃ o : Nat, m = 2 * o := by
      refine ⟨m / 2, ?_⟩
      rw [Int.pow_succ, Int.mul_comm (2 ^ z) 2, Int.mul_assoc] at hm
      lia
    subst ho
    have hm' : (o : Int) = 2 ^ z * (2 * b + 1) := by
      rw [Int.pow_succ, Int.mul_comm (2 ^ z) 2, Int.mul_assoc] at hm
      omega
    have d2 := fdiv_nat (2 * o) 2
    rw [show 2 * o / 2 = o by lia] at d2
    have g2 := fmod_nat o 2
    rw [show ((2 : Nat) : Int) = 2 from rfl] at d2 g2
    rw [show e + ((z + 1 : Nat) : Int) = e + 1 + (z : Int) by lia]
    with_reducible refine' WL.go (TR.of (TR.cmp (EV.bin (EV.name m1) EV.int (BinD.fmod ?_)) EV.int CmpD.eq) (decide_eq_true ?_)) (EX.swap2 (EVs.cons (EV.of (EV.bin (EV.name m1) EV.int (BinD.fdiv ?_ ?_)) (congrArg D.int d2)) (EVs.cons (EV.bin (EV.name m2) EV.int BinD.add) EVs.nil)) m1 m2 p2 p1 EX.nil) ?_
    · decide
    · rw [f2]; lia
    · decide
    · exact nopyN (y := 2) (n := 2) (by decide) (by decide) _
    · with_reducible exact ih o (e + 1) hm' g2
noncomputable def nearB (p m x y : Nat) : Bool := if m % 2 = 0 then decide (lowQ p m * y ≤ x) && decide (x ≤ (4 * m + 2) * y) else decide (lowQ p m * y < x) && decide (x < (4 * m + 2) * y)
theorem nearB_iff {p m x y : Nat} : nearB p m x y = true ↔ Within p m x y := by
  unfold nearB Within; split <;> simp
theorem natLe {a b : Nat} : decide ((a : Int) ≤ (b : Int)) = decide (a ≤ b) := by rw [Bool.eq_iff_iff, decide_eq_true_eq, decide_eq_true_eq]; lia
theorem natLt {a b : Nat} : decide ((a : Int) < (b : Int)) = decide (a < b) := by rw [Bool.eq_iff_iff, decide_eq_true_eq, decide_eq_true_eq]; lia
theorem natEq {a b : Nat} : decide ((a : Int) = (b : Int)) = decide (a = b) := by rw [Bool.eq_iff_iff, decide_eq_true_eq, decide_eq_true_eq]; lia
theorem law_is_nearest_gf {c : Cx} (F : Facts c) {p m z : Nat} {b : Int} {e : Int} (hp : 2 ≤ p) (hp2 : p ≤ 90) (h1 : 2 ^ (p - 1) ≤ m) (h2 : m < 2 ^ p) (hm : (m : Int) = 2 ^ z * (2 * b + 1)) (he : e.natAbs ≤ 250) (T B : Nat) (hT : 0 < T) (hT2 : T < 2 ^ 3000) (hB2 : B < 2 ^ 3000) :
    GF c (Str.ofString "_law_is_nearest") 1 [.int p, .int T, .int B, RealD (2 * b + 1) (e + z)] (.bool (nearB p m (4 * T * 2 ^ (-e).toNat) (B * 2 ^ e.toNat))) := by
  refine ⟨_, F.law_is_nearest.name, F.law_is_nearest.keep, ?_⟩
  refine FN.of F.law_is_nearest.fn (okSt 62 (by decide)) rfl (by dsimp only [initEnv, List.cons_append, List.nil_append, List.append_nil]) rfl ?_
  have ob := odd_bits hp h1 h2 hm
  have hz : (0 : Int) < 2 ^ z := kbt_pos z
  have hb : 0 < 2 * b + 1 := by
    have h0 : 0 < (m : Int) := by have := Nat.two_pow_pos (p - 1); lia
    rw [hm] at h0
    rcases Int.lt_or_le 0 (2 * b + 1) with h | h
    · exact h
    · have := Int.mul_le_mul_of_nonneg_left h (Int.le_of_lt hz)
      lia
  have habs : (if 2 * b + 1 < 0 then -(2 * b + 1) else 2 * b + 1) = 2 * b + 1 := if_neg (by lia)
  have hib : (Builtin.Int.intBits (if 2 * b + 1 < 0 then -(2 * b + 1) else 2 * b + 1) : Int) = p - z := by rw [habs]; exact ob
  have hfm : (2 * b + 1).fmod 2 = 1 := by rw [Int.fmod_eq_emod_of_nonneg _ (by decide)]; lia
  have m90 : m < 2 ^ 90 := Nat.lt_of_lt_of_le h2 (Nat.pow_le_pow_right (by decide) hp2)
  have pw93 : (2 : Nat) ^ 93 = 8 * 2 ^ 90 := by decide
  have m42 : 4 * m + 2 < 2 ^ 93 := by lia
  have ml : lowQ p m < 2 ^ 93 := by unfold lowQ; lia
  with_reducible refine' EX.iteF (TR.of (TR.not (TR.plain (EV.blt m10 F.no_isinstance bt_isinstance (EVs.cons (EV.name m3) (EVs.cons (EV.glo F.g_Real m11) EVs.nil)) BCall.isi))) (by decide)) ?_
  refine EX.pop ?_
  have k1 : (decide ((T : Int) = 0) || (decide (2 * b + 1 = 0) || false)) = false := by rw [decide_eq_false (by lia), decide_eq_false (by lia)]; rfl
  with_reducible refine' EX.iteF (TR.of (TR.or (TR.cmp (EV.name m1) EV.int CmpD.eq) (fun h => (TR.or (TR.cmp (EV.attr (EV.name m3) (AttrOk.of F.Real F.Real_mantissa) f_Real_mantissa) EV.int CmpD.eq) (fun h => TR.or_nil)))) k1) ?_
  refine EX.pop ?_
  with_reducible refine' EX.assign (EV.of (EV.smeth0 (EV.blt m12 F.no_abs bt_abs (EVs.cons (EV.attr (EV.name m3) (AttrOk.of F.Real F.Real_mantissa) f_Real_mantissa) EVs.nil) BCall.abs) GetM.bitlen SCall.bitlen) (congrArg D.int hib)) p4 ?_
  have k2 : (decide ((p : Int) < (p : Int) - z) || (decide ((2 * b + 1).fmod 2 = 0) || ((decide (0 < (T : Int)) != decide (0 < 2 * b + 1)) || false))) = false := by
    rw [hfm, decide_eq_false (show ¬ (p : Int) < (p : Int) - z by lia), decide_eq_true (show 0 < (T : Int) by lia), decide_eq_true hb]; rfl
  with_reducible refine' EX.iteF (TR.of (TR.or (TR.cmp (EV.name m4) (EV.name m0) CmpD.gt) (fun h => (TR.or (TR.cmp (EV.bin (EV.attr (EV.name m3) (AttrOk.of F.Real F.Real_mantissa) f_Real_mantissa) EV.int (BinD.fmod ?_)) EV.int CmpD.eq) (fun h => (TR.or (TR.cmp (EV.cmp (EV.name m1) EV.int CmpD.gt) (EV.cmp (EV.attr (EV.name m3) (AttrOk.of F.Real F.Real_mantissa) f_Real_mantissa) EV.int CmpD.gt) CmpD.neB) (fun h => TR.or_nil)))))) k2) ?_
  · decide
  refine EX.pop ?_
  have e1 : (if 2 * b + 1 < 0 then -(2 * b + 1) else 2 * b + 1) * 2 ^ ((p : Int) - ((p : Int) - z)).toNat = (m : Int) := by
    rw [habs, show ((p : Int) - ((p : Int) - z)).toNat = z by lia, Int.mul_comm, ← hm]
  have e2 : e + (z : Int) - ((p : Int) - ((p : Int) - z)) = e := by lia
  with_reducible refine' EX.swap2 (EVs.cons (EV.of (EV.bin (EV.blt m12 F.no_abs bt_abs (EVs.cons (EV.attr (EV.name m3) (AttrOk.of F.Real F.Real_mantissa) f_Real_mantissa) EVs.nil) BCall.abs) (EV.bin (EV.name m0) (EV.name m4) BinD.sub) (BinD.shl ?_ ?_)) (congrArg D.int e1)) (EVs.cons (EV.of (EV.bin (EV.attr (EV.name m3) (AttrOk.of F.Real F.Real_exponent) f_Real_exponent) (EV.bin (EV.name m0) (EV.name m4) BinD.sub) BinD.sub) (congrArg D.int e2)) EVs.nil)) m5 m6 p6 p5 ?_
  · lia
  · rw [hib]; lia
  have e3 : (4 : Int) * (if (T : Int) < 0 then -(T : Int) else T) = ((4 * T : Nat) : Int) := by rw [if_neg (by lia)]; lia
  have T4 : 4 * T < 2 ^ 3003 := by rw [Nat.pow_succ, Nat.pow_succ, Nat.pow_succ]; lia
  with_reducible refine' EX.swap2 (EVs.cons (EV.of (EV.bin EV.int (EV.blt m12 F.no_abs bt_abs (EVs.cons (EV.name m1) EVs.nil) BCall.abs) (BinD.mul ?_)) (congrArg D.int e3)) (EVs.cons (EV.name m2) EVs.nil)) m7 m8 p8 p7 ?_
  · rw [if_neg (by lia)]; exact natMul (a := 4) (i := 3) (by decide) hT2 (by decide)
  clear e3 e1 e2 k1 k2 hib habs
  generalize 4 * T = X at *
  have hXX : X * 2 ^ (-e).toNat < 2 ^ (3003 + 251) := mul_pow T4 (pow_lt (by lia))
  have hYY : B * 2 ^ e.toNat < 2 ^ (3000 + 251) := mul_pow hB2 (pow_lt (by lia))
  have e5 : (4 : Int) * (m : Int) = ((4 * m : Nat) : Int) := by lia
  have e6 : (1 : Int) * 2 ^ ((p : Int) - 1).toNat = ((2 ^ (p - 1) : Nat) : Int) := by rw [Int.one_mul, show ((p : Int) - 1).toNat = p - 1 by lia, pow2_cast]
  have e7 : ((4 * m : Nat) : Int) - (if decide ((m : Int) = ((2 ^ (p - 1) : Nat) : Int)) = true then 1 else 2) = (lowQ p m : Nat) := by
    unfold lowQ
    rw [natEq]
    have : 1 ≤ m := Nat.le_trans (Nat.two_pow_pos _) h1
    by_cases h : m = 2 ^ (p - 1)
    · rw [if_pos (decide_eq_true h), if_pos h]; lia
    · rw [if_neg (by simpa using h), if_neg h]; lia
  have e8 : ((4 * m : Nat) : Int) + 2 = ((4 * m + 2 : Nat) : Int) := by lia
  have f2 := fmod_nat m 2
  rw [show ((2 : Nat) : Int) = 2 from rfl] at f2
  have i4 : IntMulOk (4 : Int) (m : Int) := natMul (a := 4) (i := 3) (by decide) m90 (by decide)
  have i1 : (Builtin.Int.intBits 1 : Int) + ((p : Int) - 1) ≤ 2 ^ 27 := by rw [intBits_one]; lia
  rcases Int.lt_or_le e 0 with h0 | h0
  · have e4 : (X : Int) * 2 ^ (0 - e).toNat = ((X * 2 ^ (-e).toNat : Nat) : Int) := by rw [Int.natCast_mul, Int.zero_sub, pow2_cast]
    rw [show B * 2 ^ e.toNat = B by rw [show e.toNat = 0 by lia, Nat.pow_zero, Nat.mul_one]] at hYY ⊢
    with_reducible refine' EX.iteF (TR.of (TR.cmp (EV.name m6) EV.int CmpD.ge) (decide_eq_false (by lia))) ?_
    with_reducible refine' EX.assign (EV.of (EV.bin (EV.name m7) (EV.bin EV.int (EV.name m6) BinD.sub) (BinD.shl ?_ ?_)) (congrArg D.int e4)) p7 ?_
    · lia
    · rw [intBits_nat]; have := bits_le_of T4; lia
    refine EX.pop ?_
    clear e4
    generalize X * 2 ^ (-e).toNat = U at *
    with_reducible refine' EX.assign (EV.of (EV.bin (EV.of (EV.bin EV.int (EV.name m5) (BinD.mul i4)) (congrArg D.int e5)) (EV.iteI (TR.cmp (EV.name m5) (EV.of (EV.bin EV.int (EV.bin (EV.name m0) EV.int BinD.sub) (BinD.shl ?_ i1)) (congrArg D.int e6)) CmpD.eq) (fun h => EV.int) (fun h => EV.int)) BinD.sub) (congrArg D.int e7)) p9 ?_
    · lia
    unfold nearB
    rcases Nat.mod_two_eq_zero_or_one m with q | q
    · with_reducible refine' EX.iteT (TR.of (TR.cmp (EV.bin (EV.name m5) EV.int (BinD.fmod ?_)) EV.int CmpD.eq) (decide_eq_true ?_)) ?_
      · decide
      · rw [f2]; lia
      with_reducible refine' EX.retOf (EV.chain (EV.of (EV.bin (EV.name m9) (EV.name m8) (BinD.mul ?_)) (congrArg D.int (Int.natCast_mul _ _).symm)) (EV.name m7) CmpD.le (EV.of (EV.bin (EV.of (EV.bin (EV.of (EV.bin EV.int (EV.name m5) (BinD.mul i4)) (congrArg D.int e5)) EV.int BinD.add) (congrArg D.int e8)) (EV.name m8) (BinD.mul ?_)) (congrArg D.int (Int.natCast_mul _ _).symm)) CmpD.le) ?_
      · exact natMul ml hB2 (by decide)
      · exact natMul m42 hB2 (by decide)
      · rw [if_pos q, natLe, natLe]
    · with_reducible refine' EX.iteF (TR.of (TR.cmp (EV.bin (EV.name m5) EV.int (BinD.fmod ?_)) EV.int CmpD.eq) (decide_eq_false ?_)) ?_
      · decide
      · rw [f2]; lia
      refine EX.pop ?_
      with_reducible refine' EX.retOf (EV.chain (EV.of (EV.bin (EV.name m9) (EV.name m8) (BinD.mul ?_)) (congrArg D.int (Int.natCast_mul _ _).symm)) (EV.name m7) CmpD.lt (EV.of (EV.bin (EV.of (EV.bin (EV.of (EV.bin EV.int (EV.name m5) (BinD.mul i4)) (congrArg D.int e5)) EV.int BinD.add) (congrArg D.int e8)) (EV.name m8) (BinD.mul ?_)) (congrArg D.int (Int.natCast_mul _ _).symm)) CmpD.lt) ?_
      · exact natMul ml hB2 (by decide)
      · exact natMul m42 hB2 (by decide)
      · rw [if_neg (by lia), natLt, natLt]
  · have e4 : (B : Int) * 2 ^ e.toNat = ((B * 2 ^ e.toNat : Nat) : Int) := by rw [Int.natCast_mul, pow2_cast]
    rw [show X * 2 ^ (-e).toNat = X by rw [show (-e).toNat = 0 by lia, Nat.pow_zero, Nat.mul_one]] at hXX ⊢
    with_reducible refine' EX.iteT (TR.of (TR.cmp (EV.name m6) EV.int CmpD.ge) (decide_eq_true h0)) ?_
    with_reducible refine' EX.assign (EV.of (EV.bin (EV.name m8) (EV.name m6) (BinD.shl ?_ ?_)) (congrArg D.int e4)) p8 ?_
    · lia
    · rw [intBits_nat]; have := bits_le_of hB2; lia
    refine EX.pop ?_
    clear e4
    generalize B * 2 ^ e.toNat = U at *
    with_reducible refine' EX.assign (EV.of (EV.bin (EV.of (EV.bin EV.int (EV.name m5) (BinD.mul i4)) (congrArg D.int e5)) (EV.iteI (TR.cmp (EV.name m5) (EV.of (EV.bin EV.int (EV.bin (EV.name m0) EV.int BinD.sub) (BinD.shl ?_ i1)) (congrArg D.int e6)) CmpD.eq) (fun h => EV.int) (fun h => EV.int)) BinD.sub) (congrArg D.int e7)) p9 ?_
    · lia
    unfold nearB
    rcases Nat.mod_two_eq_zero_or_one m with q | q
    · with_reducible refine' EX.iteT (TR.of (TR.cmp (EV.bin (EV.name m5) EV.int (BinD.fmod ?_)) EV.int CmpD.eq) (decide_eq_true ?_)) ?_
      · decide
      · rw [f2]; lia
      with_reducible refine' EX.retOf (EV.chain (EV.of (EV.bin (EV.name m9) (EV.name m8) (BinD.mul ?_)) (congrArg D.int (Int.natCast_mul _ _).symm)) (EV.name m7) CmpD.le (EV.of (EV.bin (EV.of (EV.bin (EV.of (EV.bin EV.int (EV.name m5) (BinD.mul i4)) (congrArg D.int e5)) EV.int BinD.add) (congrArg D.int e8)) (EV.name m8) (BinD.mul ?_)) (congrArg D.int (Int.natCast_mul _ _).symm)) CmpD.le) ?_
      · exact natMul ml hYY (by decide)
      · exact natMul m42 hYY (by decide)
      · rw [if_pos q, natLe, natLe]
    · with_reducible refine' EX.iteF (TR.of (TR.cmp (EV.bin (EV.name m5) EV.int (BinD.fmod ?_)) EV.int CmpD.eq) (decide_eq_false ?_)) ?_
      · decide
      · rw [f2]; lia
      refine EX.pop ?_
      with_reducible refine' EX.retOf (EV.chain (EV.of (EV.bin (EV.name m9) (EV.name m8) (BinD.mul ?_)) (congrArg D.int (Int.natCast_mul _ _).symm)) (EV.name m7) CmpD.lt (EV.of (EV.bin (EV.of (EV.bin (EV.of (EV.bin EV.int (EV.name m5) (BinD.mul i4)) (congrArg D.int e5)) EV.int BinD.add) (congrArg D.int e8)) (EV.name m8) (BinD.mul ?_)) (congrArg D.int (Int.natCast_mul _ _).symm)) CmpD.lt) ?_
      · exact natMul ml hYY (by decide)
      · exact natMul m42 hYY (by decide)
      · rw [if_neg (by lia), natLt, natLt]
end Mine
end
section
-- W15
open PySem PySem.W PyProof.Rows
set_option Elab.async false
set_option linter.all false
set_option maxRecDepth 100000
set_option exponentiation.threshold 30000
namespace Mine
/-- of two pairs the other is worse -/
theorem law_is_worse_gf {c : Cx} (F : Facts c) {p m z : Nat} {b : Int} {e : Int} (hp : 2 ≤ p) (hp2 : p ≤ 90) (h1 : 2 ^ (p - 1) ≤ m) (h2 : m < 2 ^ p) (hm : (m : Int) = 2 ^ z * (2 * b + 1)) (he : e.natAbs ≤ 250) (n o : Nat) (L K : Int) (T B : Nat) (ho : 0 < o) (hn2 : n < 2 ^ 1900) (ho2 : o < 2 ^ 1900) (hL : L.natAbs ≤ 250) (hK : K.natAbs ≤ 250) (hT : T < 2 ^ 1000) (hB : B < 2 ^ 1000)
    (hw : nearB p m (4 * ovT o K * 2 ^ (-e).toNat) (ovB K * 2 ^ e.toNat) = true → dst (ovT n L * B) (T * ovB L) * (ovB K * B) < dst (ovT o K * B) (T * ovB K) * (ovB L * B) ∨ (dst (ovT n L * B) (T * ovB L) * (ovB K * B) = dst (ovT o K * B) (T * ovB K) * (ovB L * B) ∧ (n % 2 = 0 ∨ o % 2 = 1))) :
    GF c (Str.ofString "_law_is_worse") 3 [.int p, .tup [.int n, .int L], .tup [.int o, .int K], .int T, .int B, RealD (2 * b + 1) (e + z)] (.bool true) := by
  refine ⟨_, F.law_is_worse.name, F.law_is_worse.keep, ?_⟩
  refine FN.of F.law_is_worse.fn (okSt 67 (by decide)) rfl (by dsimp only [initEnv, List.cons_append, List.nil_append, List.append_nil]) rfl ?_
  have n3 : n < 2 ^ 2000 := Nat.lt_trans hn2 (pow_lt (by decide))
  have o3 : o < 2 ^ 2000 := Nat.lt_trans ho2 (pow_lt (by decide))
  have hnT := ovT_lt hn2 hL
  have hoT := ovT_lt ho2 hK
  have hnB := ovB_lt hL
  have hoB := ovB_lt hK
  have hg1 := law_gap_gf F n L T B n3 hL hT hB
  have hg2 := law_gap_gf F o K T B o3 hK hT hB
  have ht0 : 0 < ovT o K := Nat.mul_pos ho (Nat.pow_pos (by decide))
  have hnear := law_is_nearest_gf F hp hp2 h1 h2 hm he (ovT o K) (ovB K) ht0 (Nat.lt_trans hoT (pow_lt (by decide))) (Nat.lt_trans hoB (pow_lt (by decide)))
  with_reducible refine' EX.assign2 (EV.call m12 (EVs.cons (EV.subT (EV.name m2) EV.int rfl (by decide) len2) (EVs.cons (EV.subT (EV.name m2) EV.int rfl (by decide) len2) EVs.nil)) (law_over_gf F o K (Nat.lt_trans o3 (pow_lt (by decide))) hK) (by decide)) p6 p7 ?_
  generalize nearB p m (4 * ovT o K * 2 ^ (-e).toNat) (ovB K * 2 ^ e.toNat) = w at hnear hw
  generalize ovT o K = X at *
  generalize ovT n L = Y at *
  generalize ovB K = U at *
  generalize ovB L = V at *
  have o0 : decide ((o : Int) ≤ 0) = false := decide_eq_false (by lia)
  cases w with
  | false =>
    with_reducible refine' EX.iteT (TR.of (TR.or (TR.cmp (EV.subT (EV.name m2) EV.int rfl (by decide) len2) EV.int CmpD.le) (fun h => TR.or (TR.not (TR.plain (EV.call m13 (EVs.cons (EV.name m0) (EVs.cons (EV.name m6) (EVs.cons (EV.name m7) (EVs.cons (EV.name m5) EVs.nil)))) hnear (by decide)))) (fun h => TR.or_nil))) (by rw [o0]; decide)) ?_
    with_reducible exact EX.ret EV.bool
  | true =>
    have hw := hw rfl
    with_reducible refine' EX.iteF (TR.of (TR.or (TR.cmp (EV.subT (EV.name m2) EV.int rfl (by decide) len2) EV.int CmpD.le) (fun h => TR.or (TR.not (TR.plain (EV.call m13 (EVs.cons (EV.name m0) (EVs.cons (EV.name m6) (EVs.cons (EV.name m7) (EVs.cons (EV.name m5) EVs.nil)))) hnear (by decide)))) (fun h => TR.or_nil))) (by rw [o0]; decide)) ?_
    refine EX.pop ?_
    with_reducible refine' EX.swap2 (EVs.cons (EV.call m14 (EVs.cons (EV.name m1) (EVs.cons (EV.name m3) (EVs.cons (EV.name m4) EVs.nil))) hg1 (by decide)) (EVs.cons (EV.call m14 (EVs.cons (EV.name m2) (EVs.cons (EV.name m3) (EVs.cons (EV.name m4) EVs.nil))) hg2 (by decide)) EVs.nil)) m8 m9 p9 p8 ?_
    have d1 : dst (Y * B) (T * V) < 2 ^ 3901 := dst_lt (mul_pow hnT hB) (Nat.lt_trans (mul_pow hT hnB) (pow_lt (by decide)))
    have d2 : dst (X * B) (T * U) < 2 ^ 3901 := dst_lt (mul_pow hoT hB) (Nat.lt_trans (mul_pow hT hoB) (pow_lt (by decide)))
    have q1 : U * B < 2 ^ 2001 := mul_pow hoB hB
    have q2 : V * B < 2 ^ 2001 := mul_pow hnB hB
    clear hg1 hg2 hnear
    generalize dst (Y * B) (T * V) = D1 at *
    generalize dst (X * B) (T * U) = D2 at *
    generalize U * B = UB at *
    generalize V * B = VB at *
    with_reducible refine' EX.swap2 (EVs.cons (EV.of (EV.bin (EV.subT (EV.name m8) EV.int rfl (by decide) len2) (EV.subT (EV.name m9) EV.int rfl (by decide) len2) (BinD.mul ?_)) (congrArg D.int (Int.natCast_mul _ _).symm)) (EVs.cons (EV.of (EV.bin (EV.subT (EV.name m9) EV.int rfl (by decide) len2) (EV.subT (EV.name m8) EV.int rfl (by decide) len2) (BinD.mul ?_)) (congrArg D.int (Int.natCast_mul _ _).symm)) EVs.nil)) m10 m11 p11 p10 ?_
    · exact natMul d1 q1 (by decide)
    · exact natMul d2 q2 (by decide)
    generalize D1 * UB = M at *
    generalize D2 * VB = N at *
    have f1 := fmod_nat n 2
    have f2 := fmod_nat o 2
    rw [show ((2 : Nat) : Int) = 2 from rfl] at f1 f2
    with_reducible refine' EX.retOf (EV.or (EV.cmp (EV.name m10) (EV.name m11) CmpD.lt) (fun _ => (EV.one (EV.and (EV.cmp (EV.name m10) (EV.name m11) CmpD.eq) (fun _ => (EV.one (EV.or (EV.cmp (EV.bin (EV.subT (EV.name m1) EV.int rfl (by decide) len2) EV.int (BinD.fmod ?_)) EV.int CmpD.eq) (fun _ => (EV.one (EV.cmp (EV.bin (EV.subT (EV.name m2) EV.int rfl (by decide) len2) EV.int (BinD.fmod ?_)) EV.int CmpD.eq)))))))))) ?_
    · decide
    · decide
    · refine congrArg D.bool ?_
      rw [f1, f2, natLt, natEq]
      simp only [Bool.or_eq_true, Bool.and_eq_true, decide_eq_true_eq]
      lia
end Mine
end
section
-- M5
open PySem PySem.W PyProof.Rows
set_option Elab.async false
set_option linter.all false
set_option maxRecDepth 100000
set_option exponentiation.threshold 30000
namespace Mine
section
variable {p m : Nat} {e : Int}
theorem within_inn {x y : Nat} : Within p m x y ↔ Inn (ev m) (lowQ p m * y) ((4 * m + 2) * y) x := by
  unfold Within Inn ev
  by_cases h : m % 2 = 0
  · rw [if_pos h, if_pos (decide_eq_true h)]
  · rw [if_neg h, if_neg (by simpa using h)]
/-- only the ratio counts -/
theorem Within.ratio {x y x' y' : Nat} (hy : 0 < y) (hy' : 0 < y') (h : x * y' = x' * y) : Within p m x y ↔ Within p m x' y' := by
  rw [← Within.scale (x := x) (y := y) hy', ← Within.scale (x := x') (y := y') hy, h, Nat.mul_comm y y']
/-- a pair's factor up to the common unit -/
noncomputable def sc (K : Int) : Nat := 10 ^ (40 - (-K).toNat)
theorem sc_pos (K : Int) : 0 < sc K := Nat.pow_pos (by decide)
theorem ovB_sc {K : Int} (hK : -40 ≤ K) : ovB K * sc K = 10 ^ 40 := by
  unfold ovB sc
  rw [← Nat.pow_add, Nat.add_sub_cancel' (ten_low hK)]
theorem ovT_sc {K : Int} (hK : -40 ≤ K) (n : Nat) : ovT n K * sc K = n * 10 ^ (K + 40).toNat := by
  unfold ovT sc
  rw [Nat.mul_assoc, ← Nat.pow_add, ten_high hK]
theorem near_iff {K : Int} (hK : -40 ≤ K) (o : Nat) : nearB p m (4 * ovT o K * 2 ^ (-e).toNat) (ovB K * 2 ^ e.toNat) = true ↔ Inn (ev m) (lowQ p m * YY e) ((4 * m + 2) * YY e) (o * U4 e K) := by
  rw [nearB_iff, ← within_inn, ← Within.scale (sc_pos K)]
  have h1 : 4 * ovT o K * 2 ^ (-e).toNat * sc K = o * U4 e K := by
    rw [show 4 * ovT o K * 2 ^ (-e).toNat * sc K = 4 * (ovT o K * sc K) * 2 ^ (-e).toNat by ac_rfl, ovT_sc hK]
    unfold U4; ac_rfl
  have h2 : ovB K * 2 ^ e.toNat * sc K = YY e := by
    rw [show ovB K * 2 ^ e.toNat * sc K = ovB K * sc K * 2 ^ e.toNat by ac_rfl, ovB_sc hK]; rfl
  rw [h1, h2]
theorem gap_sc {K : Int} (hK : -40 ≤ K) (n : Nat) : dst (ovT n K * 2 ^ (-e).toNat) (m * 2 ^ e.toNat * ovB K) * (4 * sc K) = dst (n * U4 e K) (4 * m * YY e) := by
  rw [← dst_scale]
  have h1 : ovT n K * 2 ^ (-e).toNat * (4 * sc K) = n * U4 e K := by
    rw [show ovT n K * 2 ^ (-e).toNat * (4 * sc K) = 4 * (ovT n K * sc K) * 2 ^ (-e).toNat by ac_rfl, ovT_sc hK]
    unfold U4; ac_rfl
  have h2 : m * 2 ^ e.toNat * ovB K * (4 * sc K) = 4 * m * YY e := by
    rw [show m * 2 ^ e.toNat * ovB K * (4 * sc K) = 4 * m * ((ovB K * sc K) * 2 ^ e.toNat) by ac_rfl, ovB_sc hK]; rfl
  rw [h1, h2]
/-- the cross products say what the distances say -/
theorem cross_sc {L K : Int} (hL : -40 ≤ L) (hK : -40 ≤ K) (n : Nat) : dst (ovT n L * 2 ^ (-e).toNat) (m * 2 ^ e.toNat * ovB L) * (ovB K * 2 ^ (-e).toNat) * (4 * sc L * sc K) = dst (n * U4 e L) (4 * m * YY e) * (10 ^ 40 * 2 ^ (-e).toNat) := by
  rw [← gap_sc hL, ← ovB_sc hK]
  ac_rfl
noncomputable def Less (e : Int) (m n : Nat) (L : Int) (o : Nat) (K : Int) : Prop := dst (n * U4 e L) (4 * m * YY e) < dst (o * U4 e K) (4 * m * YY e) ∨ (dst (n * U4 e L) (4 * m * YY e) = dst (o * U4 e K) (4 * m * YY e) ∧ (n % 2 = 0 ∨ o % 2 = 1))
theorem worse_of {L K : Int} (hL : -40 ≤ L) (hK : -40 ≤ K) {n o : Nat} (h : Less e m n L o K) :
    dst (ovT n L * 2 ^ (-e).toNat) (m * 2 ^ e.toNat * ovB L) * (ovB K * 2 ^ (-e).toNat) < dst (ovT o K * 2 ^ (-e).toNat) (m * 2 ^ e.toNat * ovB K) * (ovB L * 2 ^ (-e).toNat) ∨
      (dst (ovT n L * 2 ^ (-e).toNat) (m * 2 ^ e.toNat * ovB L) * (ovB K * 2 ^ (-e).toNat) = dst (ovT o K * 2 ^ (-e).toNat) (m * 2 ^ e.toNat * ovB K) * (ovB L * 2 ^ (-e).toNat) ∧ (n % 2 = 0 ∨ o % 2 = 1)) := by
  have c1 := cross_sc (e := e) (m := m) hL hK n
  have c2 := cross_sc (e := e) (m := m) hK hL o
  have hs : 0 < 4 * sc L * sc K := Nat.mul_pos (Nat.mul_pos (by decide) (sc_pos L)) (sc_pos K)
  have ht : 0 < 10 ^ 40 * 2 ^ (-e).toNat := Nat.mul_pos (by decide) (Nat.two_pow_pos _)
  rw [show 4 * sc K * sc L = 4 * sc L * sc K by ac_rfl] at c2
  unfold Less at h
  generalize dst (ovT n L * 2 ^ (-e).toNat) (m * 2 ^ e.toNat * ovB L) * (ovB K * 2 ^ (-e).toNat) = l at *
  generalize dst (ovT o K * 2 ^ (-e).toNat) (m * 2 ^ e.toNat * ovB K) * (ovB L * 2 ^ (-e).toNat) = r at *
  generalize 10 ^ 40 * 2 ^ (-e).toNat = t at *
  generalize 4 * sc L * sc K = s at *
  rcases h with h | ⟨h, h'⟩
  · left
    have := Nat.mul_lt_mul_of_pos_right h ht
    rw [← c1, ← c2] at this
    exact Nat.lt_of_mul_lt_mul_right this
  · right
    refine ⟨?_, h'⟩
    rw [h, ← c2] at c1
    exact Nat.eq_of_mul_eq_mul_right hs c1
variable {n : Nat} {P : Int} (G : Good (ev m) (lowQ p m * YY e) ((4 * m + 2) * YY e) (4 * m * YY e) (U4 e P) n)
include G
theorem Good.less {o : Nat} {K : Int} (hP : -38 ≤ P) (ho : 1 ≤ o) (hne : ¬ (o = n ∧ K = P)) (hk : (10 ≤ n ∧ K = P ∧ (o + 1 = n ∨ o = n + 1)) ∨ (n ≤ 9 ∧ o ≤ 9 ∧ (K = P - 1 ∨ K = P ∨ K = P + 1)))
    (hi : Inn (ev m) (lowQ p m * YY e) ((4 * m + 2) * YY e) (o * U4 e K)) : Less e m n P o K := by
  unfold Less
  rcases hk with ⟨h1, rfl, h2⟩ | ⟨h1, h2, h3⟩
  · exact G.next h1 o h2 hi
  · rcases h3 with rfl | rfl | rfl
    · have e10 := U4_ten (e := e) (L := P - 1) (by lia)
      rw [show P - 1 + 1 = P by lia] at e10
      rcases G.under h1 o (U4 e (P - 1)) e10 ho h2 with h | h
      · exact absurd hi h
      · exact h
    · exact G.same h1 o ho h2 (fun e => hne ⟨e, rfl⟩) hi
    · rw [U4_ten (by lia)] at hi ⊢
      exact G.over h1 o ho h2 hi
theorem Good.none {k : Nat} (hP : -38 ≤ P) (hn : 10 ≤ n) (hk : 1 ≤ k) : nearB p m (4 * ovT k (P + 1) * 2 ^ (-e).toNat) (ovB (P + 1) * 2 ^ e.toNat) = false := by
  cases h : nearB p m (4 * ovT k (P + 1) * 2 ^ (-e).toNat) (ovB (P + 1) * 2 ^ e.toNat) with
  | false => rfl
  | true =>
    rw [near_iff (by lia), U4_ten (by lia)] at h
    exact absurd h (G.short hn k hk)
theorem Good.near (hP : -38 ≤ P) : Within p m (n * U4 e P) (YY e) := within_inn.mpr G.inn
theorem Good.lt (hm : m < 2 ^ 90) (he : e.natAbs ≤ 100) : n < 2 ^ 400 := by
  have h := G.inn
  have h1 : n * U4 e P ≤ (4 * m + 2) * YY e := by unfold Inn at h; split at h <;> lia
  have h2 := Nat.le_mul_of_pos_right n (U4_pos e P)
  have h3 : YY e < 2 ^ (134 + 101) := mul_pow (by decide) (pow_lt (by lia))
  have h4 : 4 * m + 2 < 2 ^ 93 := by
    have : (2 : Nat) ^ 93 = 8 * 2 ^ 90 := by decide
    lia
  have h5 := mul_pow h4 h3
  exact Nat.lt_trans (Nat.lt_of_le_of_lt (Nat.le_trans h2 h1) h5) (pow_lt (by decide))
end
theorem str_len (n : Nat) : (Str.ofString (toString ((n : Nat) : Int))).length = (Nat.toDigits 10 n).length := by
  have h := congrArg List.length (KIN.signs_num n)
  rw [List.length_map] at h
  simpa [Str.length] using h
end Mine
end
section
-- W16
open PySem PySem.W PyProof.Rows
set_option Elab.async false
set_option linter.all false
set_option maxRecDepth 100000
set_option exponentiation.threshold 30000
namespace Mine
noncomputable def pairD (q : Nat × Int) : D := .tup [.int (q.1 : Nat), .int q.2]
noncomputable def nine (P : Int) : List Nat → List (Nat × Int)
  | [] => []
  | i :: l => ([(i, P + -1)] ++ ([(i, P + 0)] ++ ([(i, P + 1)] ++ []))) ++ nine P l
theorem nine_len (P : Int) : ∀ l, (nine P l).length = 3 * l.length
  | [] => rfl
  | i :: l => by rw [nine, List.length_append, nine_len P l, List.length_cons]; show 3 + _ = _; lia
theorem nine_mem {P : Int} {q : Nat × Int} : ∀ {l : List Nat}, q ∈ nine P l → q.1 ∈ l ∧ (q.2 = P - 1 ∨ q.2 = P ∨ q.2 = P + 1)
  | [], h => by cases h
  | i :: l, h => by
    rw [nine] at h
    rcases List.mem_append.mp h with h | h
    · refine ⟨?_, ?_⟩ <;> (simp only [List.mem_append, List.mem_cons, List.not_mem_nil, or_false] at h; rcases h with rfl | rfl | rfl <;> simp <;> lia)
    · obtain ⟨h1, h2⟩ := nine_mem h
      exact ⟨.tail _ h1, h2⟩
theorem dInts_nine : dInts 1 10 = [1, 2, 3, 4, 5, 6, 7, 8, 9].map fun (i : Nat) => D.int (i : Nat) := rfl
theorem add_nine {n : Nat} (h : n < 2 ^ 400) : n + 9 < 2 ^ 401 := by
  rw [Nat.pow_succ]
  have : (9 : Nat) < 2 ^ 400 := by decide
  lia
theorem add_one {n : Nat} (h : n < 2 ^ 1890) : n + 1 < 2 ^ 1891 := by
  rw [Nat.pow_succ]
  have : (1 : Nat) < 2 ^ 1890 := Nat.one_lt_two_pow (by decide)
  lia
noncomputable def isPair (n : Nat) (P : Int) (q : Nat × Int) : Bool := ((q.1 : Nat) : Int) == (n : Int) && q.2 == P
theorem isPair_no {n : Nat} {P : Int} {q : Nat × Int} (h : (!isPair n P q) = true) : ¬ (q.1 = n ∧ q.2 = P) := fun ⟨h1, h2⟩ => by
  unfold isPair at h; rw [h1, h2] at h; simp at h
set_option maxHeartbeats 1000000
theorem law_is_shortest_gf {c : Cx} (F : Facts c) {p m z : Nat} {b : Int} {e : Int} (hp : 2 ≤ p) (hp2 : p ≤ 90) (h1 : 2 ^ (p - 1) ≤ m) (h2 : m < 2 ^ p) (hm : (m : Int) = 2 ^ z * (2 * b + 1)) (he : e.natAbs ≤ 100) (n : Nat) (P : Int) (hP : -38 ≤ P) (hPP : P ≤ 200)
    (G : Good (ev m) (lowQ p m * YY e) ((4 * m + 2) * YY e) (4 * m * YY e) (U4 e P) n) :
    GF c (Str.ofString "_law_is_shortest") 5 [.int p, .tup [.int n, .int P], .int (m * 2 ^ e.toNat : Nat), .int (2 ^ (-e).toNat : Nat), RealD (2 * b + 1) (e + z)] (.bool true) := by
  refine ⟨_, F.law_is_shortest.name, F.law_is_shortest.keep, ?_⟩
  refine FN.of F.law_is_shortest.fn (okSt 68 (by decide)) rfl (by dsimp only [initEnv, List.cons_append, List.nil_append, List.append_nil]) rfl ?_
  have m90 : m < 2 ^ 90 := Nat.lt_of_lt_of_le h2 (Nat.pow_le_pow_right (by decide) hp2)
  have hn := G.lt m90 he
  have hpos := G.pos
  have he2 : e.natAbs ≤ 250 := by lia
  have hT : m * 2 ^ e.toNat < 2 ^ 1000 := Nat.lt_trans (mul_pow m90 (pow_lt (i := 101) (by lia))) (pow_lt (by decide))
  have hB : 2 ^ (-e).toNat < 2 ^ 1000 := pow_lt (by lia)
  have hB0 : 0 < 2 ^ (-e).toNat := Nat.two_pow_pos _
  have ones := ovT_lt (n := 1) (i := 1) (L := P + 1) (by decide) (by lia)
  have onesB := ovB_lt (L := P + 1) (by lia)
  have ones0 : 0 < ovT 1 (P + 1) := Nat.mul_pos (by decide) (Nat.pow_pos (by decide))
  have hnr : ∀ k : Nat, k < 2 ^ 1900 → 1 < (Nat.toDigits 10 n).length → 0 < k → GF c (Str.ofString "_law_is_nearest") 1 [.int p, .int (ovT k (P + 1) : Nat), .int (ovB (P + 1) : Nat), RealD (2 * b + 1) (e + z)] (.bool false) := fun k hk hmn h0 => by
    have hn10 : 10 ≤ n := by
      rcases Nat.lt_or_ge n 10 with h | h
      · have := (digitsFacts10 n).lt10 h; lia
      · exact h
    have := law_is_nearest_gf F hp hp2 h1 h2 hm he2 (ovT k (P + 1)) (ovB (P + 1)) (Nat.mul_pos h0 (Nat.pow_pos (by decide))) (Nat.lt_trans (ovT_lt hk (by lia)) (pow_lt (by decide))) (Nat.lt_trans onesB (pow_lt (by decide)))
    rwa [G.none hP hn10 h0] at this
  have hwo : ∀ q : Nat × Int, 1 ≤ q.1 → ¬ (q.1 = n ∧ q.2 = P) → ((10 ≤ n ∧ q.2 = P ∧ (q.1 + 1 = n ∨ q.1 = n + 1)) ∨ (n ≤ 9 ∧ q.1 ≤ 9 ∧ (q.2 = P - 1 ∨ q.2 = P ∨ q.2 = P + 1))) → GF c (Str.ofString "_law_is_worse") 3 [.int p, .tup [.int n, .int P], pairD q, .int (m * 2 ^ e.toNat : Nat), .int (2 ^ (-e).toNat : Nat), RealD (2 * b + 1) (e + z)] (.bool true) := fun q h0 hne hk => by
    have hq : q.1 ≤ n + 9 := by lia
    have hq2 : -39 ≤ q.2 ∧ q.2 ≤ 201 := by lia
    have hq3 : q.1 < 2 ^ 1900 := Nat.lt_of_le_of_lt hq (Nat.lt_trans (add_nine hn) (pow_lt (by decide)))
    exact law_is_worse_gf F hp hp2 h1 h2 hm he2 n q.1 P q.2 (m * 2 ^ e.toNat) (2 ^ (-e).toNat) h0 (Nat.lt_trans hn (pow_lt (by decide))) hq3 (by lia) (by lia) hT hB fun hnear => worse_of (by lia) (by lia) (G.less hP h0 hne hk ((near_iff (by lia) q.1).mp hnear))
  have dl := digitsFacts10 n
  have dlen : (Nat.toDigits 10 n).length ≤ 401 := digits10_le (by decide) (Nat.lt_trans hn (Nat.lt_of_lt_of_le (pow_lt (show 400 < 401 by decide)) (Nat.pow_le_pow_left (by decide) _)))
  have many : ((Str.ofString (toString ((n : Nat) : Int))).length : Int) = ((Nat.toDigits 10 n).length : Nat) := by rw [str_len]
  have ovg := law_over_gf F 1 (P + 1) (by decide) (by lia)
  have near_lt : m * 2 ^ e.toNat * ovB (P + 1) / (2 ^ (-e).toNat * ovT 1 (P + 1)) < 2 ^ 1890 := Nat.lt_of_le_of_lt (Nat.div_le_self _ _) (Nat.lt_trans (mul_pow (mul_pow m90 (pow_lt (i := 101) (by lia))) onesB) (pow_lt (by decide)))
  with_reducible refine' EX.assign2 (EV.name m1) p5 p6 ?_
  with_reducible refine' EX.assign (EV.of (EV.blt m14 F.no_len bt_len (EVs.cons (EV.typ m15 F.no_str bt_str (EVs.cons (EV.name m5) EVs.nil) (BCall.text ?_)) EVs.nil) (BCall.lenS ?_)) (congrArg D.int many)) p7 ?_
  · rw [Int.natAbs_natCast]
    by_cases h0 : n = 0
    · subst h0; decide
    · exact Nat.lt_of_lt_of_le ((Nat.log2_lt h0).mpr hn) (by decide)
  · rw [str_len]; lia
  with_reducible refine' EX.assign2 (EV.call m16 (EVs.cons EV.int (EVs.cons (EV.bin (EV.name m6) EV.int BinD.add) EVs.nil)) ovg (by decide)) p8 p9 ?_
  have hdiv := fdiv_nat (m * 2 ^ e.toNat * ovB (P + 1)) (2 ^ (-e).toNat * ovT 1 (P + 1))
  have hTB : m * 2 ^ e.toNat * ovB (P + 1) < 2 ^ 4000 := Nat.lt_trans (mul_pow hT onesB) (pow_lt (by decide))
  have hBT : 2 ^ (-e).toNat * ovT 1 (P + 1) < 2 ^ 4000 := Nat.lt_trans (mul_pow hB ones) (pow_lt (by decide))
  have hBT0 : 0 < 2 ^ (-e).toNat * ovT 1 (P + 1) := Nat.mul_pos hB0 ones0
  generalize hgT : m * 2 ^ e.toNat = T at *
  generalize hgB : 2 ^ (-e).toNat = B at *
  generalize hgX : ovT 1 (P + 1) = X at *
  generalize hgY : ovB (P + 1) = Y at *
  with_reducible refine' EX.assign (EV.of (EV.bin (EV.of (EV.bin (EV.name m2) (EV.name m9) (BinD.mul ?_)) (congrArg D.int (Int.natCast_mul _ _).symm)) (EV.of (EV.bin (EV.name m3) (EV.name m8) (BinD.mul ?_)) (congrArg D.int (Int.natCast_mul _ _).symm)) (BinD.fdiv ?_ ?_)) (congrArg D.int hdiv)) p10 ?_
  · exact natMul hT onesB (by decide)
  · exact natMul hB ones (by decide)
  · lia
  · exact nopyN hBT (by decide) _
  clear hdiv hTB hBT hBT0
  generalize T * Y / (B * X) = N at *
  have e1 : (N : Int) + 1 = ((N + 1 : Nat) : Int) := by lia
  have N1 : N + 1 < 2 ^ 1891 := add_one near_lt
  have nk : ∀ k : Nat, k < 2 ^ 1891 → k < 2 ^ 1900 := fun k h => Nat.lt_trans h (pow_lt (by decide))
  have ovk : ∀ k : Nat, k < 2 ^ 1891 → GF c (Str.ofString "_law_over") 1 [.int k, .int (P + 1)] (.tup [.int (ovT k (P + 1) : Nat), .int (ovB (P + 1) : Nat)]) := fun k h => law_over_gf F k (P + 1) (Nat.lt_trans h (pow_lt (by decide))) (by lia)
  rw [hgY] at ovk
  have N0 : N < 2 ^ 1891 := Nat.lt_trans (Nat.lt_succ_self N) N1
  have one_lt : ∀ d : Nat, decide ((1 : Int) < (d : Nat)) = true → 1 < d := fun d h => by have := of_decide_eq_true h; lia
  have zero_lt : ∀ d : Nat, decide ((0 : Int) < (d : Nat)) = true → 0 < d := fun d h => by have := of_decide_eq_true h; lia
  have key : ∀ x y : Bool, (x && (y && (false && true))) = false := by decide
  with_reducible refine' EX.for_ (IterE.of (EV.list (EVs.cons (EV.name m10) (EVs.cons (EV.of (EV.bin (EV.name m10) EV.int BinD.add) (congrArg D.int e1)) EVs.nil))) IterD.lst) (FL.turn p11 (EX.assign (EV.call m16 (EVs.cons (EV.name m11) (EVs.cons (EV.bin (EV.name m6) EV.int BinD.add) EVs.nil)) (ovk N N0) (by decide)) p12 (EX.iteF (TR.of (TR.and (TR.cmp (EV.name m7) EV.int CmpD.gt) (fun h => TR.and (TR.cmp (EV.name m11) EV.int CmpD.gt) (fun h' => TR.and (TR.plain (EV.call m17 (EVs.cons (EV.name m0) (EVs.cons (EV.subT (EV.name m12) EV.int rfl (by decide) len2) (EVs.cons (EV.subT (EV.name m12) EV.int rfl (by decide) len2) (EVs.cons (EV.name m4) EVs.nil)))) (hnr N (nk N N0) (one_lt _ h) (zero_lt _ h')) (by decide))) (fun _ => TR.and_nil)))) (key _ _)) (EX.pop EX.nil))) SameHas.refl (FL.turn p11 (EX.assign (EV.call m16 (EVs.cons (EV.name m11) (EVs.cons (EV.bin (EV.name m6) EV.int BinD.add) EVs.nil)) (ovk (N + 1) N1) (by decide)) p12 (EX.iteF (TR.of (TR.and (TR.cmp (EV.name m7) EV.int CmpD.gt) (fun h => TR.and (TR.cmp (EV.name m11) EV.int CmpD.gt) (fun h' => TR.and (TR.plain (EV.call m17 (EVs.cons (EV.name m0) (EVs.cons (EV.subT (EV.name m12) EV.int rfl (by decide) len2) (EVs.cons (EV.subT (EV.name m12) EV.int rfl (by decide) len2) (EVs.cons (EV.name m4) EVs.nil)))) (hnr (N + 1) (nk _ N1) (one_lt _ h) (zero_lt _ h')) (by decide))) (fun _ => TR.and_nil)))) (key _ _)) (EX.pop EX.nil))) SameHas.refl (FL.done ?_)))
  clear hnr ovk
  have e2 : (n : Int) - 1 = ((n - 1 : Nat) : Int) := by lia
  have e3 : (n : Int) + 1 = ((n + 1 : Nat) : Int) := by lia
  with_reducible refine' EX.assign (EV.of (EV.list (EVs.cons (EV.tuple (EVs.cons (EV.of (EV.bin (EV.name m5) EV.int BinD.sub) (congrArg D.int e2)) (EVs.cons (EV.name m6) EVs.nil))) (EVs.cons (EV.tuple (EVs.cons (EV.of (EV.bin (EV.name m5) EV.int BinD.add) (congrArg D.int e3)) (EVs.cons (EV.name m6) EVs.nil))) EVs.nil))) (show _ = D.lst ([(n - 1, P), (n + 1, P)].map pairD) from rfl)) p13 ?_
  rcases Nat.lt_or_ge n 10 with q | q
  · with_reducible refine' EX.iteT (TR.of (TR.cmp (EV.name m7) EV.int CmpD.eq) (decide_eq_true ?_)) ?_
    · rw [dl.lt10 q]; rfl
    with_reducible refine' EX.assignCompG (fr := [(Str.ofString "level", some (.int P))]) (xs := [Str.ofString "figure", Str.ofString "turn"]) (es := (nine P [1, 2, 3, 4, 5, 6, 7, 8, 9]).map pairD) ?_ (fun p hp => ⟨_, congrArg Prod.snd (List.mem_singleton.mp hp), (List.mem_singleton.mp hp) ▸ m6⟩) (IterET.of (IterE.range2 m18 F.no_range (EVs.cons EV.int (EVs.cons EV.int EVs.nil)) (by decide) (by decide) (by decide) (by decide))) ?_ p13 ?_ ?_ m13 rfl ?_ ?_
    · show compOkG _ _ _ [Str.ofString "level"] = true; decide +kernel
    · rw [dInts_nine]
      simp only [List.map_cons, List.map_nil, List.cons_append, List.nil_append]
      show CLG _ _ _ _ _ _ _ _ _ _ ([1, 2, 3, 4, 5, 6, 7, 8, 9].map fun (i : Nat) => D.int (i : Nat)) _
      generalize [1, 2, 3, 4, 5, 6, 7, 8, 9] = l
      induction l with
      | nil => exact CLG.nil
      | cons i l ih =>
        simp only [nine, List.map_append, List.map_cons, List.map_nil]
        with_reducible refine' CLG.take (TB.name ?_ p0) (Weak.drop (Weak.keep (Weak.keep Weak.nil))) (fun μ => TRs.nil) (EmitOk.nest rfl ?_ (fun μ => IterET.of (IterE.of (EV.tuple (EVs.cons (EV.neg EV.int) (EVs.cons EV.int (EVs.cons EV.int EVs.nil)))) IterD.tup)) (CLG.take (TB.name ?_ p1) (Weak.keep (Weak.drop (Weak.keep Weak.nil))) (fun μ => TRs.nil) (EmitOk.elt rfl fun μ => EV.tuple (EVs.cons (EV.name m0) (EVs.cons (EV.bin (EV.name m2) (EV.name m1) BinD.add) EVs.nil))) (CLG.take (TB.name ?_ p1) (Weak.keep (Weak.drop (Weak.keep Weak.nil))) (fun μ => TRs.nil) (EmitOk.elt rfl fun μ => EV.tuple (EVs.cons (EV.name m0) (EVs.cons (EV.bin (EV.name m2) (EV.name m1) BinD.add) EVs.nil))) (CLG.take (TB.name ?_ p1) (Weak.keep (Weak.drop (Weak.keep Weak.nil))) (fun μ => TRs.nil) (EmitOk.elt rfl fun μ => EV.tuple (EVs.cons (EV.name m0) (EVs.cons (EV.bin (EV.name m2) (EV.name m1) BinD.add) EVs.nil))) CLG.nil))) ?_) ih
        · first | with_unfolding_all exact m0 | with_unfolding_all exact m1 | with_unfolding_all exact m2 | with_unfolding_all exact m3
        · intro g hg; cases hg
        · first | with_unfolding_all exact m0 | with_unfolding_all exact m1 | with_unfolding_all exact m2 | with_unfolding_all exact m3
        · first | with_unfolding_all exact m0 | with_unfolding_all exact m1 | with_unfolding_all exact m2 | with_unfolding_all exact m3
        · first | with_unfolding_all exact m0 | with_unfolding_all exact m1 | with_unfolding_all exact m2 | with_unfolding_all exact m3
        · intro _ _; rfl
    · have hmem : ∀ r ∈ nine P [1, 2, 3, 4, 5, 6, 7, 8, 9], 1 ≤ r.1 ∧ r.1 ≤ 9 ∧ (r.2 = P - 1 ∨ r.2 = P ∨ r.2 = P + 1) := fun r hr => by
        obtain ⟨h1, h2⟩ := nine_mem hr
        refine ⟨?_, ?_, h2⟩ <;> (simp only [List.mem_cons, List.not_mem_nil, or_false] at h1; lia)
      have hl27 : (nine P [1, 2, 3, 4, 5, 6, 7, 8, 9]).length = 27 := by rw [nine_len]; rfl
      generalize nine P [1, 2, 3, 4, 5, 6, 7, 8, 9] = N9 at *
      with_reducible refine' EX.assignComp (fr := [(Str.ofString "pair", some (.tup [.int n, .int P]))]) (es := (N9.filter fun r => !isPair n P r).map pairD) ?_ (fun p hp => ⟨_, congrArg Prod.snd (List.mem_singleton.mp hp), (List.mem_singleton.mp hp) ▸ m1⟩) (IterE.of (EV.name m13) IterD.lst) ?_ p13 ?_ ?_ m13 rfl ?_
      · show compOk _ _ _ [Str.ofString "pair"] = true; decide +kernel
      · clear hmem hl27
        induction N9 with
        | nil => exact CL.nil
        | cons r l ih =>
          rw [List.map_cons, List.filter_cons]
          have hne : ∀ x : Bool, isPair n P r = x → (((r.1 : Nat) : Int) == (n : Int) && r.2 == P) = x := fun x h => h
          cases hx : isPair n P r with
          | true =>
            rw [Bool.not_true, if_neg (by decide)]
            with_reducible exact CL.skip (fun μ => TRs.no (TR.of (TR.cmp (EV.name m0) (EV.name m1) CmpD.neP) (by rw [hne _ hx]; decide))) ih
          | false =>
            rw [Bool.not_false, if_pos (by decide), List.map_cons]
            with_reducible exact CL.take (fun μ => TRs.yes (TR.of (TR.cmp (EV.name m0) (EV.name m1) CmpD.neP) (by rw [hne _ hx]; decide)) TRs.nil) (fun μ => EV.name m0) ih
      · refine EX.pop ?_
        have hall : ∀ r ∈ N9.filter fun r => !isPair n P r, GF c (Str.ofString "_law_is_worse") 3 [.int p, .tup [.int n, .int P], pairD r, .int T, .int B, RealD (2 * b + 1) (e + z)] (.bool true) := fun r hr => by
          obtain ⟨h1, h2⟩ := List.mem_filter.mp hr
          obtain ⟨h3, h4, h5⟩ := hmem r h1
          exact hwo r h3 (isPair_no h2) (.inr ⟨by lia, h4, h5⟩)
        have hlenL : (N9.filter fun r => !isPair n P r).length ≤ sizeLine := Nat.le_trans (List.length_filter_le _ _) (by rw [hl27]; decide)
        generalize (N9.filter fun r => !isPair n P r) = LST at *
        with_reducible refine' EX.retOf (EV.cmp (EV.comp (es := []) (fr := [(Str.ofString "bottom", some (.int B)), (Str.ofString "pair", some (.tup [.int n, .int P])), (Str.ofString "precision", some (.int p)), (Str.ofString "real", some (RealD (2 * b + 1) (e + z))), (Str.ofString "top", some (.int T))]) ?_ ?_ (IterE.of (EV.name m13) IterD.lst) ?_ ?_) (EV.list EVs.nil) CmpD.eqNil) ?_
        · show compOk _ _ _ [Str.ofString "bottom", Str.ofString "pair", Str.ofString "precision", Str.ofString "real", Str.ofString "top"] = true; decide +kernel
        · intro p hp
          simp only [List.mem_cons, List.not_mem_nil, or_false] at hp
          rcases hp with rfl | rfl | rfl | rfl | rfl
          · exact ⟨_, rfl, m3⟩
          · exact ⟨_, rfl, m1⟩
          · exact ⟨_, rfl, m0⟩
          · exact ⟨_, rfl, m4⟩
          · exact ⟨_, rfl, m2⟩
        · clear hlenL
          induction LST with
          | nil => exact CL.nil
          | cons q l ih =>
            rw [List.map_cons]
            with_reducible refine' CL.skip (fun μ => TRs.no (TR.of (TR.not (TR.plain (EV.call ?_ (EVs.cons (EV.name m3) (EVs.cons (EV.name m2) (EVs.cons (EV.name m0) (EVs.cons (EV.name m5) (EVs.cons (EV.name m1) (EVs.cons (EV.name m4) EVs.nil)))))) (hall q List.mem_cons_self) (by decide)))) (by decide))) (ih fun q hq => hall q (List.mem_cons_of_mem _ hq))
            first | with_unfolding_all exact m0 | with_unfolding_all exact m1 | with_unfolding_all exact m2 | with_unfolding_all exact m3
        · rw [List.length_map]; exact hlenL
        · rfl
      · rw [List.length_map, hl27]; decide
      · decide +kernel
    · rw [List.length_map, nine_len]; decide
    · decide +kernel
    · intro g hg; cases hg; rfl
  · with_reducible refine' EX.iteF (TR.of (TR.cmp (EV.name m7) EV.int CmpD.eq) (decide_eq_false ?_)) ?_
    · have := dl.ge10 q; lia
    refine EX.pop ?_
    have hall : ∀ q ∈ [(n - 1, P), (n + 1, P)], GF c (Str.ofString "_law_is_worse") 3 [.int p, .tup [.int n, .int P], pairD q, .int T, .int B, RealD (2 * b + 1) (e + z)] (.bool true) := fun r hr => by
      simp only [List.mem_cons, List.not_mem_nil, or_false] at hr
      rcases hr with rfl | rfl
      · exact hwo (n - 1, P) (by show 1 ≤ n - 1; lia) (by show ¬ (n - 1 = n ∧ P = P); lia) (.inl ⟨q, rfl, .inl (by show n - 1 + 1 = n; lia)⟩)
      · exact hwo (n + 1, P) (by show 1 ≤ n + 1; lia) (by show ¬ (n + 1 = n ∧ P = P); lia) (.inl ⟨q, rfl, .inr rfl⟩)
    have hlenL : [(n - 1, P), (n + 1, P)].length ≤ sizeLine := by unfold sizeLine; simp
    generalize [(n - 1, P), (n + 1, P)] = LST at *
    with_reducible refine' EX.retOf (EV.cmp (EV.comp (es := []) (fr := [(Str.ofString "bottom", some (.int B)), (Str.ofString "pair", some (.tup [.int n, .int P])), (Str.ofString "precision", some (.int p)), (Str.ofString "real", some (RealD (2 * b + 1) (e + z))), (Str.ofString "top", some (.int T))]) ?_ ?_ (IterE.of (EV.name m13) IterD.lst) ?_ ?_) (EV.list EVs.nil) CmpD.eqNil) ?_
    · show compOk _ _ _ [Str.ofString "bottom", Str.ofString "pair", Str.ofString "precision", Str.ofString "real", Str.ofString "top"] = true; decide +kernel
    · intro p hp
      simp only [List.mem_cons, List.not_mem_nil, or_false] at hp
      rcases hp with rfl | rfl | rfl | rfl | rfl
      · exact ⟨_, rfl, m3⟩
      · exact ⟨_, rfl, m1⟩
      · exact ⟨_, rfl, m0⟩
      · exact ⟨_, rfl, m4⟩
      · exact ⟨_, rfl, m2⟩
    · clear hlenL
      induction LST with
      | nil => exact CL.nil
      | cons q l ih =>
        rw [List.map_cons]
        with_reducible refine' CL.skip (fun μ => TRs.no (TR.of (TR.not (TR.plain (EV.call ?_ (EVs.cons (EV.name m3) (EVs.cons (EV.name m2) (EVs.cons (EV.name m0) (EVs.cons (EV.name m5) (EVs.cons (EV.name m1) (EVs.cons (EV.name m4) EVs.nil)))))) (hall q List.mem_cons_self) (by decide)))) (by decide))) (ih fun q hq => hall q (List.mem_cons_of_mem _ hq))
        first | with_unfolding_all exact m0 | with_unfolding_all exact m1 | with_unfolding_all exact m2 | with_unfolding_all exact m3
    · rw [List.length_map]; exact hlenL
    · rfl
end Mine
end
section
-- W17
open PySem PySem.W PyProof.Rows
set_option Elab.async false
set_option linter.all false
set_option maxRecDepth 100000
set_option exponentiation.threshold 30000
namespace Mine
/-- a decimal as written: figures, a point and figures, an exponent -/
noncomputable def mnt (DA DB : List Nat) (dot : Bool) : List Nat := DA.map fig ++ (if dot then 46 :: DB.map fig else [])
noncomputable def expT : Option Int → List Nat
  | some E => 101 :: wholeT 10 E
  | none => []
noncomputable def txt (DA DB : List Nat) (dot : Bool) (ex : Option Int) : List Nat := mnt DA DB dot ++ expT ex
theorem fig_dig {d : Nat} (h : d < 10) : 48 ≤ fig d ∧ fig d ≤ 57 ∧ fig d - 48 = d := by rw [fig_ten h]; lia
theorem figs_dig {L : List Nat} (h : ∀ d ∈ L, d < 10) : ∀ c ∈ L.map fig, 48 ≤ c ∧ c ≤ 57 := fun c hc => by
  obtain ⟨d, hd, rfl⟩ := List.mem_map.mp hc
  exact ⟨(fig_dig (h d hd)).1, (fig_dig (h d hd)).2.1⟩
theorem digsVal {L : List Nat} (h : ∀ d ∈ L, d < 10) : NumText.digitsVal (L.map fig) = worthD 10 L := by
  have : ∀ (l : List Nat) (a : Nat), (∀ d ∈ l, d < 10) → (l.map fig).foldl (fun acc c => acc * 10 + (c - 48)) a = l.foldl (fun a d => a * 10 + d) a := by
    intro l
    induction l with
    | nil => intro a _; rfl
    | cons d l ih =>
      intro a hl
      rw [List.map_cons, List.foldl_cons, List.foldl_cons, (fig_dig (hl d (.head _))).2.2]
      exact ih _ fun x hx => hl x (.tail _ hx)
  exact this L 0 h
theorem mnt_no {DA DB : List Nat} {dot : Bool} (hA : ∀ d ∈ DA, d < 10) (hB : ∀ d ∈ DB, d < 10) : ∀ c ∈ mnt DA DB dot, (48 ≤ c ∧ c ≤ 57) ∨ c = 46 := fun c hc => by
  unfold mnt at hc
  rcases List.mem_append.mp hc with h | h
  · exact .inl (figs_dig hA c h)
  · cases dot
    · simp at h
    · simp only [if_true, List.mem_cons] at h
      rcases h with h | h
      · exact .inr h
      · exact .inl (figs_dig hB c h)
theorem whole_dig {E : Int} : ∀ c ∈ wholeT 10 E, (48 ≤ c ∧ c ≤ 57) ∨ c = 45 := fun c hc => by
  unfold wholeT at hc
  rcases List.mem_append.mp hc with h | h
  · split at h
    · right; simpa using h
    · cases h
  · exact .inl (figs_dig (digs_lt (r := 10) (by decide) E.natAbs) c h)
theorem whole_int {E : Int} (hE : E.natAbs < 2 ^ 500) : PySem.intText? (S (wholeT 10 E)) = some E ∧ (S (wholeT 10 E)).length ≤ 640 := by
  have hl := wholeT_len (r := 10) (n := E) (k := 500) (by decide) (by decide) hE
  have hd : NumText.AllDigits (figs 10 E.natAbs) := figs_dig (digs_lt (r := 10) (by decide) E.natAbs)
  have hne : figs 10 E.natAbs ≠ [] := by unfold figs; intro h; exact digs_ne (by decide) E.natAbs (List.map_eq_nil_iff.mp h)
  have hv : NumText.digitsVal (figs 10 E.natAbs) = E.natAbs := by unfold figs; rw [digsVal (digs_lt (r := 10) (by decide) E.natAbs), worth_digs (by decide)]
  refine ⟨?_, by rw [S_len]; lia⟩
  unfold wholeT at hl ⊢
  by_cases h : E < 0
  · rw [if_pos h] at hl ⊢
    rw [PySem.intText_neg (x := S ([45] ++ figs 10 E.natAbs)) rfl hd hne (by rw [S_len]; lia), hv]
    congr 1; lia
  · rw [if_neg h] at hl ⊢
    rw [List.nil_append, PySem.intText_digits (x := S (figs 10 E.natAbs)) hd hne (by rw [S_len]; simpa using Nat.le_trans hl (by decide))]
    show some ((NumText.digitsVal (figs 10 E.natAbs) : Nat) : Int) = _
    rw [hv]; congr 1; lia
theorem join_ok1 (a : List Nat) (h : a.length ≤ 10000) : JoinOk (S []) [S a] = true := by
  unfold JoinOk
  rw [← Array.foldl_toList]
  show (!Builtin.Str.tooLong (0 + (S a).length + (S []).length)) = true
  rw [S_len, S_len]
  unfold Builtin.Str.tooLong sizeLine
  simp only [Bool.not_eq_true', decide_eq_false_iff_not]
  simp; lia
theorem join_ok2 (a b : List Nat) (h : a.length ≤ 10000) (h' : b.length ≤ 10000) : JoinOk (S []) [S a, S b] = true := by
  unfold JoinOk
  rw [← Array.foldl_toList]
  show (!Builtin.Str.tooLong (0 + (S a).length + (S []).length + (S b).length + (S []).length)) = true
  rw [S_len, S_len, S_len]
  unfold Builtin.Str.tooLong sizeLine
  simp only [Bool.not_eq_true', decide_eq_false_iff_not]
  simp; lia
theorem S_chars : Str.ofString "0123456789" = S [48, 49, 50, 51, 52, 53, 54, 55, 56, 57] := by decide +kernel
theorem law_told_gf {c : Cx} (F : Facts c) (DA DB R : List Nat) (dot : Bool) (ex : Option Int) (k : Nat) (hA : ∀ d ∈ DA, d < 10) (hB : ∀ d ∈ DB, d < 10) (hlA : DA.length ≤ 600) (hlB : DB.length ≤ 600) (hdot : dot = false → DB = []) (hone : dot = true ∨ ex.isSome = true) (hex : ∀ E, ex = some E → E.natAbs < 2 ^ 500)
    (hR : DA ++ DB = R ++ List.replicate k 0) (hR0 : R ≠ []) (hR1 : R.getLastD 0 ≠ 0) (hlR : R.length ≤ 600) : GF c (Str.ofString "_law_told") 1 [.str (S (txt DA DB dot ex))] (.tup [.int (worthD 10 R : Nat), .int (ex.getD 0 - DB.length + k)]) := by
  refine ⟨_, F.law_told.name, F.law_told.keep, ?_⟩
  refine FN.of F.law_told.fn (okSt 64 (by decide)) rfl (by dsimp only [initEnv, List.cons_append, List.nil_append, List.append_nil]) rfl ?_
  have hRd : ∀ d ∈ R, d < 10 := fun d hd => by
    have : d ∈ DA ++ DB := by rw [hR]; exact List.mem_append_left _ hd
    rcases List.mem_append.mp this with h | h
    · exact hA d h
    · exact hB d h
  have hM := mnt_no (dot := dot) hA hB
  have hMl : (mnt DA DB dot).length ≤ 1201 := by unfold mnt; cases dot <;> simp <;> lia
  have hM101 : 101 ∉ mnt DA DB dot := fun h => by have := hM _ h; lia
  obtain ⟨parts, hparts, hpl, hp0, hp1⟩ : ∃ parts, Txt.split (S (txt DA DB dot ex)) (Str.ofString "e") = parts ∧ (txts parts).length = (if ex.isSome then 2 else 1) ∧ (txts parts)[(0 : Int).toNat]? = some (.str (S (mnt DA DB dot))) ∧ ∀ E, ex = some E → (txts parts)[(1 : Int).toNat]? = some (.str (S (wholeT 10 E))) := by
    refine ⟨_, rfl, ?_⟩
    unfold txt
    rw [S_e]
    cases ex with
    | none => rw [expT, List.append_nil, split_none hM101]; exact ⟨rfl, rfl, (fun E h => by cases h)⟩
    | some E =>
      rw [expT, split_one hM101 (fun h => by have := whole_dig _ h; lia)]
      exact ⟨rfl, rfl, fun E h => by cases h; rfl⟩
  have hAB : DA.map fig ++ DB.map fig = R.map fig ++ List.replicate k 48 := by rw [← List.map_append, hR, List.map_append, List.map_replicate]; rfl
  have hlAB : (DA.map fig ++ DB.map fig).length = DA.length + DB.length := by simp
  obtain ⟨pieces, hpieces, hql, hq1, hjoin, hjok⟩ : ∃ pieces, Txt.split (S (mnt DA DB dot)) (Str.ofString ".") = pieces ∧ (txts pieces).length = (if dot then 2 else 1) ∧ (dot = true → (txts pieces)[(1 : Int).toNat]? = some (.str (S (DB.map fig)))) ∧ Txt.join (Str.ofString "") pieces = S (DA.map fig ++ DB.map fig) ∧ JoinOk (Str.ofString "") pieces = true := by
    refine ⟨_, rfl, ?_⟩
    unfold mnt
    rw [S_dot, S_nil]
    cases dot with
    | false =>
      simp only [Bool.false_eq_true, if_false, List.append_nil]
      rw [split_none (fig_ne (by decide) DA), hdot rfl, List.map_nil, List.append_nil]
      exact ⟨rfl, (fun h => h.elim), txtJoin_S [DA.map fig] |>.trans (by simp), join_ok1 _ (by rw [List.length_map]; lia)⟩
    | true =>
      simp only [if_true]
      rw [split_one (fig_ne (by decide) DA) (fig_ne (by decide) DB)]
      exact ⟨rfl, fun _ => rfl, txtJoin_S [DA.map fig, DB.map fig] |>.trans (by simp), join_ok2 _ _ (by rw [List.length_map]; lia) (by rw [List.length_map]; lia)⟩
  have htl : (S (txt DA DB dot ex)).length ≤ 5000 := by
    rw [S_len]
    unfold txt
    rw [List.length_append]
    cases hx : ex with
    | none => rw [expT]; simp; lia
    | some E => rw [expT]; have := wholeT_len (r := 10) (n := E) (k := 500) (by decide) (by decide) (hex E hx); simp only [List.length_cons]; lia
  have hpl63 : (txts parts).length < 2 ^ 63 := by rw [hpl]; split <;> decide
  have hql63 : (txts pieces).length < 2 ^ 63 := by rw [hql]; split <;> decide
  have hpl63i : ((txts parts).length : Int) < 2 ^ 63 := by lia
  have hql63i : ((txts pieces).length : Int) < 2 ^ 63 := by lia
  with_reducible refine' EX.assign (EV.of (EV.smeth (EV.name m0) GetM.split (EVs.cons EV.str EVs.nil) (SCall.split ?_ ?_ ?_)) (congrArg (fun l => D.lst (txts l)) hparts)) p1 ?_
  · decide +kernel
  · unfold sizeLine; lia
  · rw [S_e]; exact parts_ok _ _ (by lia)
  with_reducible refine' EX.assign (d := .int (ex.getD 0)) ?_ p2 ?_
  · cases ex with
    | none =>
      have hk : decide (((txts parts).length : Int) = 2) = false := by rw [hpl]; decide
      with_reducible exact EV.iteF (TR.of (TR.cmp (EV.blt m6 F.no_len bt_len (EVs.cons (EV.name m1) EVs.nil) (BCall.lenL hpl63)) EV.int CmpD.eq) hk) EV.int
    | some E =>
      have hk : decide (((txts parts).length : Int) = 2) = true := by rw [hpl]; rfl
      obtain ⟨w1, w2⟩ := whole_int (hex E rfl)
      with_reducible exact EV.iteT (TR.of (TR.cmp (EV.blt m6 F.no_len bt_len (EVs.cons (EV.name m1) EVs.nil) (BCall.lenL hpl63)) EV.int CmpD.eq) hk) (EV.typ m7 F.no_int bt_int (EVs.cons (EV.subL (hl := hpl63i) (EV.name m1) EV.int (hp1 E rfl)) EVs.nil) (BCall.ofText (n := E) w1 w2))
  with_reducible refine' EX.assign (EV.of (EV.smeth (EV.subL (hl := hpl63i) (EV.name m1) EV.int hp0) GetM.split (EVs.cons EV.str EVs.nil) (SCall.split ?_ ?_ ?_)) (congrArg (fun l => D.lst (txts l)) hpieces)) p3 ?_
  · decide +kernel
  · rw [S_len]; unfold sizeLine; lia
  · rw [S_dot]; exact parts_ok _ _ (by rw [S_len]; lia)
  with_reducible refine' EX.assign (EV.of (EV.smeth EV.str GetM.join (EVs.cons (EV.name m3) EVs.nil) (SCall.join hjok)) (congrArg D.str hjoin)) p4 ?_
  have hstrip : Txt.stripChars (S (DA.map fig ++ DB.map fig)) (Str.ofString "0123456789") = S [] := by
    rw [S_chars]
    refine strip_all _ _ fun ch hch => ?_
    have hc : 48 ≤ ch ∧ ch ≤ 57 := by
      rcases List.mem_append.mp hch with h | h
      · exact figs_dig hA _ h
      · exact figs_dig hB _ h
    rw [S_list]
    simp only [List.mem_cons, List.not_mem_nil, or_false]
    lia
  have hrst : Txt.rstripChars (S (DA.map fig ++ DB.map fig)) (Str.ofString "0") = S (R.map fig) := by
    rw [S_zero, hAB]
    refine rstrip_S _ _ _ (.inr ?_)
    rw [List.getLastD_eq_getLast?, List.getLast?_eq_some_getLast hR0] at hR1
    rw [List.getLastD_eq_getLast?, List.getLast?_map, List.getLast?_eq_some_getLast hR0]
    simp only [Option.getD_some, Option.map_some] at hR1 ⊢
    rw [fig_ten (hRd _ (List.getLast_mem hR0))]; lia
  have hsz : (S (DA.map fig ++ DB.map fig)).length ≤ 1200 := by rw [S_len, hlAB]; lia
  have key : (decide ((2 : Int) < ((txts parts).length : Nat)) || (decide ((2 : Int) < ((txts pieces).length : Nat)) || (decide ((((txts parts).length : Nat) : Int) + ((txts pieces).length : Nat) < 3) || ((!decide (S ([] : List Nat) = Str.ofString "")) || false)))) = false := by
    rw [S_nil, decide_eq_true (rfl : S ([] : List Nat) = S []), hpl, hql]
    cases dot <;> cases ex <;> first | rfl | (rcases hone with h | h <;> cases h)
  with_reducible refine' EX.iteF (TR.of (TR.or (TR.cmp (EV.blt m6 F.no_len bt_len (EVs.cons (EV.name m1) EVs.nil) (BCall.lenL hpl63)) EV.int CmpD.gt) (fun h => (TR.or (TR.cmp (EV.blt m6 F.no_len bt_len (EVs.cons (EV.name m3) EVs.nil) (BCall.lenL hql63)) EV.int CmpD.gt) (fun h => (TR.or (TR.cmp (EV.bin (EV.blt m6 F.no_len bt_len (EVs.cons (EV.name m1) EVs.nil) (BCall.lenL hpl63)) (EV.blt m6 F.no_len bt_len (EVs.cons (EV.name m3) EVs.nil) (BCall.lenL hql63)) BinD.add) EV.int CmpD.lt) (fun h => (TR.or (TR.cmp (EV.of (EV.smeth (EV.name m4) GetM.strip (EVs.cons EV.str EVs.nil) (SCall.strip ?_)) (congrArg D.str hstrip)) EV.str CmpD.neS) (fun h => TR.or_nil)))))))) key) ?_
  · unfold sizeLine; lia
  refine EX.pop ?_
  with_reducible refine' EX.assign (d := .int (ex.getD 0 - DB.length)) (EV.of (EV.bin (EV.name m2) (EV.blt m6 F.no_len bt_len (EVs.cons (d := .str (S (DB.map fig))) ?_ EVs.nil) (BCall.lenS ?_)) BinD.sub) ?_) p2 ?_
  · cases dot with
    | false =>
      have hk : decide (((txts pieces).length : Int) = 2) = false := by rw [hql]; decide
      with_reducible refine' EV.iteF (TR.of (TR.cmp (EV.blt m6 F.no_len bt_len (EVs.cons (EV.name m3) EVs.nil) (BCall.lenL hql63)) EV.int CmpD.eq) hk) (EV.of EV.str ?_)
      rw [hdot rfl]; exact congrArg D.str S_nil
    | true =>
      have hk : decide (((txts pieces).length : Int) = 2) = true := by rw [hql]; decide
      with_reducible exact EV.iteT (TR.of (TR.cmp (EV.blt m6 F.no_len bt_len (EVs.cons (EV.name m3) EVs.nil) (BCall.lenL hql63)) EV.int CmpD.eq) hk) (EV.subL (hl := hql63i) (EV.name m3) EV.int (hq1 rfl))
  · rw [S_len, List.length_map]; lia
  · rw [S_len, List.length_map]
  with_reducible refine' EX.assign (EV.of (EV.smeth (EV.name m4) GetM.rstrip (EVs.cons EV.str EVs.nil) (SCall.rstrip ?_)) (congrArg D.str hrst)) p5 ?_
  · unfold sizeLine; lia
  have hne : ¬ S (R.map fig) = Str.ofString "" := by rw [S_nil, S_inj]; simpa using hR0
  with_reducible refine' EX.iteF (TR.of (TR.cmp (EV.name m5) EV.str CmpD.eqS) (decide_eq_false hne)) ?_
  refine EX.pop ?_
  have hRint : PySem.intText? (S (R.map fig)) = some ((worthD 10 R : Nat) : Int) := by
    rw [PySem.intText_digits (x := S (R.map fig)) (figs_dig hRd) (by rw [S_list]; simpa using hR0) (by rw [S_len, List.length_map]; lia), S_list, digsVal hRd]
  with_reducible refine' EX.retOf (EV.tuple (EVs.cons (EV.typ m7 F.no_int bt_int (EVs.cons (EV.name m5) EVs.nil) (BCall.ofText hRint ?_)) (EVs.cons (EV.bin (EV.bin (EV.name m2) (EV.blt m6 F.no_len bt_len (EVs.cons (EV.name m4) EVs.nil) (BCall.lenS ?_)) BinD.add) (EV.blt m6 F.no_len bt_len (EVs.cons (EV.name m5) EVs.nil) (BCall.lenS ?_)) BinD.sub) EVs.nil))) ?_
  · rw [S_len, List.length_map]; lia
  · lia
  · rw [S_len, List.length_map]; lia
  · have := congrArg List.length hAB
    rw [hlAB, List.length_append, List.length_map, List.length_replicate] at this
    rw [S_len, S_len, hlAB, List.length_map]
    rw [show ex.getD 0 - (DB.length : Int) + ((DA.length + DB.length : Nat) : Int) - (R.length : Int) = ex.getD 0 - (DB.length : Int) + (k : Int) by lia]
end Mine
end
section
-- W18
open PySem PySem.W PyProof.Rows
set_option Elab.async false
set_option linter.all false
set_option maxRecDepth 100000
set_option exponentiation.threshold 30000
namespace Mine
structure Fm (f : Nat) (P : Int) (T DA DB R : List Nat) (dot : Bool) (ex : Option Int) (k : Nat) : Prop where
  text : T = txt DA DB dot ex
  da : ∀ d ∈ DA, d < 10
  db : ∀ d ∈ DB, d < 10
  la : DA.length ≤ 100
  lb : DB.length ≤ 60
  nodot : dot = false → DB = []
  one : dot = true ∨ ex.isSome = true
  ex100 : ∀ E, ex = some E → E.natAbs ≤ 100
  cut : DA ++ DB = R ++ List.replicate k 0
  r0 : R ≠ []
  r1 : R.getLastD 0 ≠ 0
  lr : R.length ≤ 60
  worth : worthD 10 R = f
  power : ex.getD 0 - DB.length + k = P
  a0 : DA ≠ []
  k40 : k ≤ 40
theorem worth_zeros (z : Nat) (l : List Nat) : worthD 10 (List.replicate z 0 ++ l) = worthD 10 l := by
  rw [worth_app]
  have : worthD 10 (List.replicate z 0) = 0 := by
    induction z with
    | zero => rfl
    | succ z ih => rw [List.replicate_succ]; exact ih
  rw [this]; lia
theorem laid_form {f : Nat} {P : Int} (h10 : f % 10 ≠ 0) (hl : (digs 10 f).length ≤ 40) (hP1 : -30 ≤ P) (hP2 : P ≤ 30) : ∃ DA DB R dot ex k, Fm f P (laidT (figs 10 f) P) DA DB R dot ex k := by
  have f0 : 0 < f := by lia
  have gd := digs_lt (r := 10) (by decide) f
  have gne := digs_ne (r := 10) (by decide) f
  have glast : (digs 10 f).getLastD 0 ≠ 0 := by rw [digs_last (by decide) f0]; exact h10
  have gw := worth_digs (r := 10) (by decide) f
  have glen : (figs 10 f).length = (digs 10 f).length := figs_len 10 f
  have gpos : 0 < (digs 10 f).length := List.length_pos_iff.mpr gne
  unfold laidT
  rw [glen]
  unfold figs
  generalize digs 10 f = G at *
  by_cases h1 : 0 < (G.length : Int) + P ∧ (G.length : Int) + P ≤ 21
  · rw [if_pos h1]
    by_cases h2 : 0 ≤ P
    · rw [if_pos h2]
      refine ⟨G ++ List.replicate P.toNat 0, [0], G, true, none, P.toNat + 1, ?_, ?_, ?_, ?_, ?_, ?_, .inl rfl, ?_, ?_, gne, glast, by lia, gw, ?_, ?_, by lia⟩
      · unfold txt mnt expT
        rw [List.map_append, List.map_replicate]
        simp [fig]
      · intro d hd
        rcases List.mem_append.mp hd with h | h
        · exact gd d h
        · rw [(List.mem_replicate.mp h).2]; decide
      · intro d hd; rw [List.mem_singleton.mp hd]; decide
      · simp; lia
      · decide
      · intro h; cases h
      · intro E h; cases h
      · rw [List.append_assoc, List.replicate_succ']
      · simp; lia
      · simp [gne]
    · rw [if_neg h2]
      refine ⟨G.take (G.length + P).toNat, G.drop (G.length + P).toNat, G, true, none, 0, ?_, ?_, ?_, ?_, ?_, ?_, .inl rfl, ?_, ?_, gne, glast, by lia, gw, ?_, ?_, by lia⟩
      · unfold txt mnt expT
        rw [List.map_take, List.map_drop]; simp
      · intro d hd; exact gd d (List.mem_of_mem_take hd)
      · intro d hd; exact gd d (List.mem_of_mem_drop hd)
      · rw [List.length_take]; lia
      · rw [List.length_drop]; lia
      · intro h; cases h
      · intro E h; cases h
      · rw [List.take_append_drop, List.replicate_zero, List.append_nil]
      · rw [List.length_drop]; show (0 : Int) - _ + _ = _; lia
      · intro h; rw [List.take_eq_nil_iff] at h; rcases h with h | h
        · lia
        · exact gne h
  · rw [if_neg h1]
    by_cases h2 : -6 ≤ (G.length : Int) + P ∧ (G.length : Int) + P ≤ 0
    · rw [if_pos h2]
      refine ⟨[0], List.replicate (-((G.length : Int) + P)).toNat 0 ++ G, 0 :: List.replicate (-((G.length : Int) + P)).toNat 0 ++ G, true, none, 0, ?_, ?_, ?_, ?_, ?_, ?_, .inl rfl, ?_, ?_, ?_, ?_, ?_, ?_, ?_, ?_, by lia⟩
      · unfold txt mnt expT
        rw [List.map_append, List.map_replicate]; simp [fig]
      · intro d hd; rw [List.mem_singleton.mp hd]; decide
      · intro d hd
        rcases List.mem_append.mp hd with h | h
        · rw [(List.mem_replicate.mp h).2]; decide
        · exact gd d h
      · decide
      · rw [List.length_append, List.length_replicate]; lia
      · intro h; cases h
      · intro E h; cases h
      · simp
      · simp
      · rw [List.getLastD_eq_getLast?, List.getLast?_append, List.getLast?_eq_some_getLast gne]
        rw [List.getLastD_eq_getLast?, List.getLast?_eq_some_getLast gne] at glast
        simpa using glast
      · rw [List.length_append, List.length_cons, List.length_replicate]; lia
      · have := worth_zeros ((-((G.length : Int) + P)).toNat + 1) G
        rw [List.replicate_succ] at this
        rw [this, gw]
      · rw [List.length_append, List.length_replicate]; show (0 : Int) - _ + _ = _; lia
      · simp
    · rw [if_neg h2]
      obtain ⟨g, G', rfl⟩ : ∃ g G', G = g :: G' := by cases G with | nil => exact absurd rfl gne | cons g G' => exact ⟨g, G', rfl⟩
      rw [List.length_cons] at *
      refine ⟨[g], G', g :: G', decide (0 < G'.length), some (((G'.length + 1 : Nat) : Int) + P - 1), 0, ?_, ?_, ?_, ?_, ?_, ?_, .inr rfl, ?_, ?_, gne, glast, ?_, gw, ?_, ?_, by lia⟩
      · unfold txt mnt expT
        cases G' with
        | nil => simp
        | cons a l => simp
      · intro d hd; exact gd d (by rw [List.mem_singleton.mp hd]; exact .head _)
      · intro d hd; exact gd d (.tail _ hd)
      · simp
      · lia
      · intro h; have := of_decide_eq_false h; exact List.length_eq_zero_iff.mp (by lia)
      · intro E h; cases h; lia
      · simp
      · rw [List.length_cons]; lia
      · show ((G'.length + 1 : Nat) : Int) + P - 1 - _ + _ = _; lia
      · simp
/-- a decimal is read -/
theorem read_txt_gf {c : Cx} (F : Facts c) {f : Nat} {P : Int} {T DA DB R : List Nat} {dot : Bool} {ex : Option Int} {k : Nat} (m : Fm f P T DA DB R dot ex k) :
    GF c (Str.ofString "read_unsigned") 6 [.str (S T), .int 10] (ReadD ((worthD 10 (DA ++ DB) * 10 ^ (ex.getD 0).toNat : Nat) : Int) ((10 ^ DB.length * 10 ^ (-(ex.getD 0)).toNat : Nat) : Int) false) := by
  obtain ⟨h1, h2, h3, h4, h5, h6, h7, h8, h9, h10, h11, h12, h13, h14, h15, h16⟩ := m
  subst h1
  have hM := mnt_no (dot := dot) h2 h3
  have hml : (mnt DA DB dot).length ≤ 200 := by unfold mnt; cases dot <;> simp <;> lia
  have hmk : ∀ n ∈ mnt DA DB dot, n ∉ marks := fun n hn h => by
    unfold marks at h
    simp only [List.mem_cons, List.not_mem_nil, or_false] at h
    have := hM n hn; lia
  have hAB : ∀ d ∈ DA ++ DB, d < 10 := fun d hd => by
    rcases List.mem_append.mp hd with h | h
    · exact h2 d h
    · exact h3 d h
  have hman : GF c (Str.ofString "read_mantissa") 4 [.str (S (mnt DA DB dot))] (ReadD ((worthD 10 (DA ++ DB) : Nat) : Int) ((10 ^ DB.length : Nat) : Int) false) := by
    unfold mnt
    cases dot with
    | false =>
      rw [h6 rfl]
      simp only [Bool.false_eq_true, if_false, List.append_nil]
      exact read_mantissaW_gf F DA h15 h2 (by lia)
    | true =>
      simp only [if_true]
      exact read_mantissaD_gf F DA DB (by simp [h15]) h2 h3 (by lia) (by lia)
  unfold txt
  have no47 : 47 ∉ mnt DA DB dot := fun h => by have := hM _ h; lia
  cases ex with
  | none =>
    have hdot : dot = true := by rcases h7 with h | h; exact h; cases h
    subst hdot
    rw [expT, List.append_nil]
    simp only [Option.getD_none, Int.toNat_zero, Int.neg_zero, Nat.pow_zero, Nat.mul_one]
    exact read_unsignedD_gf F _ (mnt DA DB true).length _ _ (by lia) no47 (.inl ⟨mkp_none _ _ hmk, rfl⟩) (.inl (by unfold mnt; simp)) (read_decimal1_gf F _ _ _ hmk (by lia) hman)
  | some E =>
    have hE := h8 E rfl
    rw [expT]
    simp only [Option.getD_some]
    have hwl := wholeT_len (r := 10) (n := E) (k := 20) (by decide) (by decide) (by lia)
    have hll : (mnt DA DB dot ++ 101 :: wholeT 10 E).length = (mnt DA DB dot).length + 1 + (wholeT 10 E).length := by simp; lia
    have wAB : worthD 10 (DA ++ DB) < 2 ^ 20000 := by
      have : ∀ l : List Nat, (∀ d ∈ l, d < 10) → worthD 10 l < 10 ^ l.length := by
        intro l
        induction l with
        | nil => intro _; decide
        | cons d l ih =>
          intro hl
          have a := worth_app 10 [d] l
          rw [List.singleton_append] at a
          have b := ih fun x hx => hl x (.tail _ hx)
          have c : worthD 10 [d] = d := by show 0 * 10 + d = d; lia
          have d1 := hl d (.head _)
          have : d * 10 ^ l.length ≤ 9 * 10 ^ l.length := Nat.mul_le_mul_right _ (by lia)
          rw [a, c, List.length_cons, Nat.pow_succ]; lia
      refine Nat.lt_of_lt_of_le (this _ hAB) (Nat.le_trans (ten_le _) (Nat.pow_le_pow_right (by decide) ?_))
      rw [List.length_append]; lia
    exact read_unsignedD_gf F _ (mnt DA DB dot).length _ _ (by lia) (fun h => by
        rcases List.mem_append.mp h with h | h
        · exact no47 h
        · rcases List.mem_cons.mp h with h | h
          · cases h
          · have := whole_dig _ h; lia)
      (.inr (by have := mkp_one (mnt DA DB dot) 0 101 (wholeT 10 E) hmk (by decide) (whole_marks E); rwa [Nat.zero_add] at this)) (.inr (by lia))
      (read_decimal2_gf F _ E (by lia) _ _ wAB (Nat.lt_of_le_of_lt (ten_le _) (Nat.pow_lt_pow_right (by decide) (by lia))) hmk (by lia) hman)
end Mine
end
section
-- W19
open PySem PySem.W PyProof.Rows
set_option Elab.async false
set_option linter.all false
set_option maxRecDepth 100000
set_option exponentiation.threshold 30000
namespace Mine
section
variable {p m n z o : Nat} {e P : Int}
theorem two_pw (e : Int) : 2 ^ (2 - e).toNat * 2 ^ e.toNat = 4 * 2 ^ (-e).toNat * 2 ^ (e - 2).toNat := by
  have a := tn0 e
  have b := tn2 e
  generalize e.toNat = x at *
  generalize (-e).toNat = y at *
  generalize (2 - e).toNat = u at *
  generalize (e - 2).toNat = v at *
  rw [show (4 : Nat) = 2 ^ 2 from rfl, ← Nat.pow_add, ← Nat.pow_add, ← Nat.pow_add, show u + x = 2 + y + v by lia]
/-- the decimal's own fraction lies within -/
theorem back_dec (hw : Within p m (n * U4 e P) (YY e)) {T B : Nat} (hB : 0 < B) (hTB : T * 10 ^ 40 = n * 10 ^ (P + 40).toNat * B) : Within p m (T * 2 ^ (2 - e).toNat) (2 ^ (e - 2).toNat * B) := by
  refine (Within.ratio (YY_pos e) (Nat.mul_pos (Nat.two_pow_pos _) hB) ?_).mp hw
  have h1 : n * U4 e P * (2 ^ (e - 2).toNat * B) = (n * 10 ^ (P + 40).toNat * B) * (4 * 2 ^ (-e).toNat * 2 ^ (e - 2).toNat) := by unfold U4; ac_rfl
  have h2 : T * 2 ^ (2 - e).toNat * YY e = (T * 10 ^ 40) * (2 ^ (2 - e).toNat * 2 ^ e.toNat) := by unfold YY; ac_rfl
  rw [h1, h2, hTB, two_pw]
theorem back_exact (hp : 2 ≤ p) (h1 : 2 ^ (p - 1) ≤ m) (hm : m = 2 ^ z * o) : Within p m (o * 2 ^ (e + z).toNat * 2 ^ (2 - e).toNat) (2 ^ (e - 2).toNat * 2 ^ (-(e + z)).toNat) := by
  have m1 : 1 ≤ m := Nat.le_trans (Nat.two_pow_pos _) h1
  have hw : Within p m (4 * m) 1 := by
    unfold Within lowQ
    split <;> split <;> lia
  refine (Within.ratio (by decide) (Nat.mul_pos (Nat.two_pow_pos _) (Nat.two_pow_pos _)) ?_).mp hw
  rw [Nat.mul_one, hm, show 4 * (2 ^ z * o) * (2 ^ (e - 2).toNat * 2 ^ (-(e + z)).toNat) = o * (4 * 2 ^ z * 2 ^ (e - 2).toNat * 2 ^ (-(e + z)).toNat) by ac_rfl, Nat.mul_assoc o, show (4 : Nat) = 2 ^ 2 from rfl]
  have a := tn0 (e + z)
  have b := tn2 e
  clear hw hm m1 h1
  generalize (e + (z : Int)).toNat = x at *
  generalize (-(e + (z : Int))).toNat = y at *
  generalize (2 - e).toNat = u at *
  generalize (e - 2).toNat = v at *
  rw [← Nat.pow_add, ← Nat.pow_add, ← Nat.pow_add, ← Nat.pow_add, show x + u = 2 + z + v + y by lia]
/-- few figures -/
theorem Good.few (G : Good (ev m) (lowQ p m * YY e) ((4 * m + 2) * YY e) (4 * m * YY e) (U4 e P) n) (hp : p ≤ 90) (hm : m < 2 ^ p) (hm1 : 1 ≤ m) (hP : -26 ≤ P) (hpe : p + e ≤ 39) (he : -70 ≤ e) : n < 2 ^ 129 := by
  have h := G.inn
  have h1 : n * U4 e P ≤ (4 * m + 2) * YY e := by unfold Inn at h; split at h <;> lia
  have h2 : 4 * m + 2 < 2 ^ (p + 3) := by rw [Nat.pow_add]; have : (2 : Nat) ^ 3 = 8 := rfl; lia
  have h3 : 4 * 10 ^ 14 * 2 ^ (-e).toNat ≤ U4 e P := by
    unfold U4
    refine Nat.mul_le_mul_right _ (Nat.mul_le_mul_left _ (Nat.pow_le_pow_right (by decide) (by lia)))
  have h4 := Nat.mul_le_mul_left n h3
  have h5 : (4 * m + 2) * YY e < 2 ^ (p + 3) * YY e := Nat.mul_lt_mul_of_pos_right h2 (YY_pos e)
  have h6 : 2 ^ (p + 3) * YY e ≤ 10 ^ 40 * (2 ^ 42 * 2 ^ (-e).toNat) := by
    unfold YY
    rw [show 2 ^ (p + 3) * (10 ^ 40 * 2 ^ e.toNat) = 10 ^ 40 * (2 ^ (p + 3) * 2 ^ e.toNat) by ac_rfl, ← Nat.pow_add, ← Nat.pow_add]
    exact Nat.mul_le_mul_left _ (Nat.pow_le_pow_right (by decide) (by lia))
  have h7 : n * (4 * 10 ^ 14) * 2 ^ (-e).toNat < 10 ^ 40 * 2 ^ 42 * 2 ^ (-e).toNat := by
    rw [Nat.mul_assoc n, Nat.mul_assoc (10 ^ 40)]; lia
  have h8 := Nat.lt_of_mul_lt_mul_right h7
  have : (10 : Nat) ^ 40 * 2 ^ 42 = (25 * 10 ^ 24 * 2 ^ 42) * (4 * 10 ^ 14) := by decide
  rw [this] at h8
  have h9 := Nat.lt_of_mul_lt_mul_right h8
  exact Nat.lt_trans h9 (by decide)
end
theorem txt_low {DA DB : List Nat} {dot : Bool} {ex : Option Int} (hA : ∀ d ∈ DA, d < 10) (hB : ∀ d ∈ DB, d < 10) : ∀ c ∈ txt DA DB dot ex, c < 128 ∧ ¬ (65 ≤ c ∧ c ≤ 90) := fun c hc => by
  unfold txt at hc
  rcases List.mem_append.mp hc with h | h
  · have := mnt_no hA hB c h; lia
  · cases ex with
    | none => cases h
    | some E =>
      rcases List.mem_cons.mp h with h | h
      · lia
      · have := whole_dig _ h; lia
/-- a decimal text comes back as the number -/
theorem parse_dec_gf {c : Cx} (F : Facts c) {s : Int} (hs : s = 1 ∨ s = -1) {p m z n : Nat} {b e P : Int} (hp : 2 ≤ p) (hp2 : p ≤ 90) (h1 : 2 ^ (p - 1) ≤ m) (h2 : m < 2 ^ p) (hm : (m : Int) = 2 ^ z * (2 * b + 1)) (he : e.natAbs ≤ 100) (hP1 : -30 ≤ P) (hP2 : P ≤ 30)
    (h10 : n % 10 ≠ 0) (hn : n < 2 ^ 129) (hw : Within p m (n * U4 e P) (YY e)) :
    GF c (Str.ofString "parse_number") 7 [.int p, .str (S (decT s n P)), .int 10] (RealD (s * (2 * b + 1)) (e + z)) := by
  have hl : (digs 10 n).length ≤ 40 := digs_lenR (by decide) (by decide) (Nat.lt_trans hn (by decide))
  obtain ⟨DA, DB, R, dot, ex, k, m0⟩ := laid_form h10 hl hP1 hP2
  have hread := read_txt_gf F m0
  obtain ⟨t1, t2, t3, t4, t5, t6, t7, t8, t9, t10, t11, t12, t13, t14, t15, t16⟩ := m0
  have hworth : worthD 10 (DA ++ DB) = n * 10 ^ k := by
    rw [t9, worth_app, t13, List.length_replicate]
    have := worth_zeros k []
    rw [List.append_nil] at this
    rw [this]; rfl
  have hex : (ex.getD 0).natAbs ≤ 100 := by
    cases ex with
    | none => decide
    | some E => exact t8 E rfl
  have hT0 : 0 < worthD 10 (DA ++ DB) * 10 ^ (ex.getD 0).toNat := Nat.mul_pos (by rw [hworth]; exact Nat.mul_pos (by lia) (Nat.pow_pos (by decide))) (Nat.pow_pos (by decide))
  have hB0 : 0 < 10 ^ DB.length * 10 ^ (-(ex.getD 0)).toNat := Nat.mul_pos (Nat.pow_pos (by decide)) (Nat.pow_pos (by decide))
  have hT2 : worthD 10 (DA ++ DB) * 10 ^ (ex.getD 0).toNat < 2 ^ 1000 := by
    rw [hworth]
    have q1 : 10 ^ k < 2 ^ 161 := Nat.lt_of_le_of_lt (ten_le k) (pow_lt (by lia))
    have q2 : 10 ^ (ex.getD 0).toNat < 2 ^ 401 := Nat.lt_of_le_of_lt (ten_le _) (pow_lt (by lia))
    exact Nat.lt_trans (mul_pow (mul_pow hn q1) q2) (pow_lt (by decide))
  have hB2 : 10 ^ DB.length * 10 ^ (-(ex.getD 0)).toNat < 2 ^ 1000 := by
    have q1 : 10 ^ DB.length < 2 ^ 241 := Nat.lt_of_le_of_lt (ten_le _) (pow_lt (by lia))
    have q2 : 10 ^ (-(ex.getD 0)).toNat < 2 ^ 401 := Nat.lt_of_le_of_lt (ten_le _) (pow_lt (by lia))
    exact Nat.lt_trans (mul_pow q1 q2) (pow_lt (by decide))
  have hTB : worthD 10 (DA ++ DB) * 10 ^ (ex.getD 0).toNat * 10 ^ 40 = n * 10 ^ (P + 40).toNat * (10 ^ DB.length * 10 ^ (-(ex.getD 0)).toNat) := by
    have a := tn0 (ex.getD 0)
    have b := Int.toNat_of_nonneg (show 0 ≤ P + 40 by clear hread t1 t9 t13 t14 hworth hT0 hB0 hT2 hB2 hex h1 h2 hm hn h10 he hl; lia)
    rw [hworth, Nat.mul_assoc n, Nat.mul_assoc n, Nat.mul_assoc n, ← Nat.pow_add, ← Nat.pow_add, ← Nat.pow_add, ← Nat.pow_add]
    congr 2
    clear hread t1 t9 t13 hworth hT0 hB0 hT2 hB2 hex h1 h2 hm hn h10 he hl
    generalize (ex.getD 0).toNat = x at *
    generalize (-(ex.getD 0)).toNat = y at *
    generalize (P + 40).toNat = w at *
    generalize DB.length = v at *
    generalize ex.getD 0 = E at *
    clear t4 t5 t6 t7 t8 t10 t11 t12 t15 t16 hP1 hP2 hp hp2
    lia
  have hr := rounded_gf F hs hp (Nat.le_trans hp2 (by decide)) h1 h2 hT0 hB0 hT2 hB2 (by lia) hm (back_dec hw hB0 hTB)
  have hlow := txt_low (dot := dot) (ex := ex) t2 t3
  have hlen : (laidT (figs 10 n) P).length ≤ 9000 := laidT_len _ _ (by unfold figs; intro h; exact digs_ne (by decide) n (List.map_eq_nil_iff.mp h)) (by rw [figs_len]; lia) (by lia)
  obtain ⟨d, DA', rfl⟩ : ∃ d DA', DA = d :: DA' := by cases DA with | nil => exact absurd rfl t15 | cons d l => exact ⟨d, l, rfl⟩
  have hcons : laidT (figs 10 n) P = fig d :: (DA'.map fig ++ (if dot then 46 :: DB.map fig else []) ++ expT ex) := by rw [t1]; unfold txt mnt; simp
  rw [hcons] at hread hlen
  rw [← t1, hcons] at hlow
  have := parse_number_gf F p false s hs (fig d) _ 10 _ _ false _ (Nat.lt_trans hT2 (pow_lt (by decide))) (fig_ge d) hlow (by simp only [List.length_cons] at hlen; lia) (fun _ => rfl) hread hr
  rw [← hcons] at this
  exact this
theorem fig_low {r : Nat} (hr : r ≤ 16) {L : List Nat} (h : ∀ d ∈ L, d < r) : ∀ c ∈ L.map fig, c < 128 ∧ ¬ (65 ≤ c ∧ c ≤ 90) := fun c hc => by
  obtain ⟨d, hd, rfl⟩ := List.mem_map.mp hc
  have := h d hd
  unfold fig; split <;> lia
/-- in another radix: the ratio, and back -/
theorem parse_rad_gf {c : Cx} (F : Facts c) {s : Int} (hs : s = 1 ∨ s = -1) {p m z : Nat} {b e : Int} (r : Nat) (hr : 2 ≤ r) (hr2 : r ≤ 16) (hr10 : r ≠ 10) (hp : 2 ≤ p) (hp2 : p ≤ 90) (h1 : 2 ^ (p - 1) ≤ m) (h2 : m < 2 ^ p) (hm : (m : Int) = 2 ^ z * (2 * b + 1)) (he : e.natAbs ≤ 100) :
    ∃ W, GF c (Str.ofString "number_text") 7 [.int p, RealD (s * (2 * b + 1)) (e + z), .int r] (.str W) ∧ GF c (Str.ofString "parse_number") 7 [.int p, .str W, .int r] (RealD (s * (2 * b + 1)) (e + z)) := by
  have hz : (0 : Int) < 2 ^ z := kbt_pos z
  have hb : 0 < 2 * b + 1 := by
    have h0 : 0 < (m : Int) := by have := Nat.two_pow_pos (p - 1); lia
    rw [hm] at h0
    rcases Int.lt_or_le 0 (2 * b + 1) with h | h
    · exact h
    · have := Int.mul_le_mul_of_nonneg_left h (Int.le_of_lt hz)
      lia
  obtain ⟨o, ho⟩ := Int.eq_ofNat_of_zero_le (Int.le_of_lt hb)
  have hmo : m = 2 ^ z * o := by rw [ho, pow2_cast] at hm; exact_mod_cast hm
  have ho0 : 0 < o := by lia
  have hoz : o ≤ m := by rw [hmo]; exact Nat.le_mul_of_pos_left _ (Nat.two_pow_pos z)
  have hzp : z ≤ 90 := by
    have : 2 ^ z ≤ m := by rw [hmo]; exact Nat.le_mul_of_pos_right _ ho0
    have h3 : 2 ^ z < 2 ^ 90 := Nat.lt_of_le_of_lt this (Nat.lt_of_lt_of_le h2 (Nat.pow_le_pow_right (by decide) hp2))
    exact Nat.le_of_lt ((Nat.pow_lt_pow_iff_right (by decide)).mp h3)
  have ho90 : o < 2 ^ 90 := Nat.lt_of_le_of_lt hoz (Nat.lt_of_lt_of_le h2 (Nat.pow_le_pow_right (by decide) hp2))
  have hodd : o % 2 = 1 := by lia
  have hna : (s * (2 * b + 1)).natAbs = o := by rw [ho]; rcases hs with h | h <;> subst h <;> lia
  have hT0 : 0 < o * 2 ^ (e + z).toNat := Nat.mul_pos ho0 (Nat.two_pow_pos _)
  have hB0 : 0 < 2 ^ (-(e + z)).toNat := Nat.two_pow_pos _
  have hT2 : o * 2 ^ (e + z).toNat < 2 ^ 1000 := Nat.lt_trans (mul_pow ho90 (pow_lt (i := 200) (by lia))) (pow_lt (by decide))
  have hB2 : 2 ^ (-(e + z)).toNat < 2 ^ 1000 := pow_lt (by lia)
  have hTn : s * (2 * b + 1) * 2 ^ (e + (z : Int)).toNat = s * ((o * 2 ^ (e + z).toNat : Nat) : Int) := by
    rw [ho, pow2_cast, Int.natCast_mul, Int.mul_assoc]
  have hTna : (s * (2 * b + 1) * 2 ^ (e + (z : Int)).toNat).natAbs = o * 2 ^ (e + z).toNat := by rw [hTn]; rcases hs with h | h <;> subst h <;> lia
  have hgcd : Nat.gcd (s * (2 * b + 1) * 2 ^ (e + (z : Int)).toNat).natAbs (2 ^ (-(e + (z : Int))).toNat) = 1 := by
    rw [hTna]
    rcases Int.lt_or_le (e + z) 0 with h | h
    · rw [show (e + (z : Int)).toNat = 0 by lia, Nat.pow_zero, Nat.mul_one]
      exact Nat.Coprime.pow_right _ (show Nat.gcd o 2 = 1 by rw [Nat.gcd_comm, Nat.gcd_rec, hodd]; rfl)
    · rw [show (-(e + (z : Int))).toNat = 0 by lia, Nat.pow_zero, Nat.gcd_one_right]
  have ht := number_textR_gf F p (s * (2 * b + 1)) (e + z) r hr hr2 hr10 (by rw [hna]; exact Nat.lt_trans ho90 (pow_lt (by decide))) (by lia) hgcd
  refine ⟨_, ht, ?_⟩
  have hrd := rounded_gf F hs hp (Nat.le_trans hp2 (by decide)) h1 h2 hT0 hB0 hT2 hB2 (by lia) hm (back_exact hp h1 hmo)
  rw [hTn]
  generalize hT : o * 2 ^ (e + z).toNat = T at *
  generalize hB : 2 ^ (-(e + (z : Int))).toNat = B at *
  have hsg : (if s * (T : Int) < 0 then [45] else ([] : List Nat)) = sgP s := by
    unfold sgP
    rcases hs with h | h <;> subst h
    · rw [if_neg (by lia), if_neg (by decide)]
    · rw [if_pos (by lia), if_pos (by decide)]
  have hsn : (s * (T : Int)).natAbs = T := by rcases hs with h | h <;> subst h <;> lia
  have dT := digs_lt (r := r) hr T
  have dB := digs_lt (r := r) hr B
  have nT := digs_ne (r := r) hr T
  have nB := digs_ne (r := r) hr B
  have lT := digs_len (r := r) hr (by decide) hT2
  have lB := digs_len (r := r) hr (by decide) hB2
  obtain ⟨d, L, hdl⟩ : ∃ d L, digs r T = d :: L := by
    cases hx : digs r T with
    | nil => exact absurd hx nT
    | cons d l => exact ⟨d, l, rfl⟩
  by_cases h1B : B = 1
  · have hform : [35, 105] ++ exactT r (s * (T : Int)) B = hiP true ++ (sgP s ++ fig d :: L.map fig) := by
      unfold exactT wholeT hiP figs
      rw [if_pos h1B, hsg, hsn, hdl, if_pos rfl, List.map_cons]
    have hread := read_unsignedW_gf F (digs r T) r hr2 hr10 nT dT (by lia)
    rw [worth_digs hr, hdl, List.map_cons, ← Int.natCast_one, ← h1B] at hread
    rw [hform]
    have hlow := fig_low hr2 dT
    rw [hdl, List.map_cons] at hlow
    rw [hdl, List.length_cons] at lT
    exact parse_number_gf F p true s hs (fig d) _ r T B true _ (Nat.lt_trans hT2 (pow_lt (by decide))) (fig_ge d) hlow (by rw [List.length_map]; lia) (fun h => by cases h) hread hrd
  · have hform : [35, 105] ++ exactT r (s * (T : Int)) B = hiP true ++ (sgP s ++ fig d :: (L.map fig ++ 47 :: figs r B)) := by
      unfold exactT wholeT hiP
      rw [if_neg h1B, hsg, hsn, if_neg (by lia), if_pos rfl, Int.natAbs_natCast]
      unfold figs
      rw [hdl, List.map_cons]
      simp
    have hread := read_unsignedR_gf F (digs r T) (digs r B) r hr2 nT nB dT dB (by lia) (by lia) (by rw [worth_digs hr]; exact hB0)
    rw [worth_digs hr, worth_digs hr, hdl, List.map_cons, List.cons_append] at hread
    rw [hform]
    have hlow := fig_low hr2 dT
    rw [hdl, List.map_cons] at hlow
    have hlowB := fig_low hr2 dB
    rw [hdl, List.length_cons] at lT
    refine parse_number_gf F p true s hs (fig d) _ r T B true _ (Nat.lt_trans hT2 (pow_lt (by decide))) (fig_ge d) (fun ch hc => ?_) (by rw [List.length_append, List.length_map, List.length_cons, figs_len]; lia) (fun h => by cases h) hread hrd
    rw [← List.cons_append] at hc
    rcases List.mem_append.mp hc with h | h
    · exact hlow ch h
    · rcases List.mem_cons.mp h with h | h
      · lia
      · exact hlowB ch h
end Mine
end
section
-- W20
open PySem PySem.W PyProof.Rows
set_option Elab.async false
set_option linter.all false
set_option maxRecDepth 100000
set_option exponentiation.threshold 30000
namespace Mine
/-- all that one turn of the law asks of the number drawn -/
theorem turn_facts {c : Cx} (F : Facts c) {p m z : Nat} {b e : Int} (hp : 2 ≤ p) (hp2 : p ≤ 21) (h1 : 2 ^ (p - 1) ≤ m) (h2 : m < 2 ^ p) (hm : (m : Int) = 2 ^ z * (2 * b + 1)) (hn1 : -40 ≤ p + e) (hn2 : p + e ≤ 39) :
    ∃ (W : List Nat) (n : Nat) (P : Int), GF c (Str.ofString "number_text") 7 [.int p, RealD (2 * b + 1) (e + z)] (.str (S W)) ∧ GF c (Str.ofString "number_text") 7 [.int p, RealD (0 - (2 * b + 1)) (e + z)] (.str (S (45 :: W))) ∧
      GF c (Str.ofString "_law_told") 1 [.str (S W)] (.tup [.int n, .int P]) ∧
      GF c (Str.ofString "_law_is_shortest") 5 [.int p, .tup [.int n, .int P], .int (m * 2 ^ e.toNat : Nat), .int (2 ^ (-e).toNat : Nat), RealD (2 * b + 1) (e + z)] (.bool true) ∧ W.length ≤ 9000 ∧
      ∀ r : Nat, r = 2 ∨ r = 8 ∨ r = 10 ∨ r = 16 → ∀ x : Int, x = 2 * b + 1 ∨ x = 0 - (2 * b + 1) → ∃ V, GF c (Str.ofString "number_text") 7 [.int p, RealD x (e + z), .int r] (.str V) ∧ GF c (Str.ofString "parse_number") 7 [.int p, .str V, .int r] (RealD x (e + z)) := by
  have he : e.natAbs ≤ 61 := by lia
  have he70 : -70 ≤ e := by lia
  have hp90 : p ≤ 90 := by lia
  have m1 : 1 ≤ m := Nat.le_trans (Nat.two_pow_pos _) h1
  obtain ⟨P0, q1, q2, q3, q4⟩ := stop_at (e := e) hp h1 h2 hn1 hn2 he70
  obtain ⟨-, t1, t2⟩ := tens_at hn1 hn2
  have hsf := shortest_figures_gf F hp hp90 h1 h2 hm (by lia) P0 (by lia) (by lia) (by lia) q3 q4
  obtain ⟨G, hP'⟩ := good_short (P := P0) (by lia) hp h1 q3 (q4 (P0 + 1) (by lia) (by lia))
  generalize (shortR (4 * m) (lowQ p m) (4 * m + 2) (ev m) (e - 2).toNat (2 - e).toNat P0).1 = n at *
  generalize (shortR (4 * m) (lowQ p m) (4 * m + 2) (ev m) (e - 2).toNat (2 - e).toNat P0).2 = P at *
  have hn := G.few hp90 h2 m1 (by lia) hn2 he70
  have h10 := G.ten
  have hz : (0 : Int) < 2 ^ z := kbt_pos z
  have hb : 0 < 2 * b + 1 := by
    have h0 : 0 < (m : Int) := by lia
    rw [hm] at h0
    rcases Int.lt_or_le 0 (2 * b + 1) with h | h
    · exact h
    · have := Int.mul_le_mul_of_nonneg_left h (Int.le_of_lt hz)
      lia
  obtain ⟨M, hM⟩ := Int.eq_ofNat_of_zero_le (Int.le_of_lt hb)
  have hM0 : 0 < M := by lia
  have hl : (digs 10 n).length ≤ 40 := digs_lenR (by decide) (by decide) (Nat.lt_trans hn (by decide))
  have hlen : (laidT (figs 10 n) P).length ≤ 9000 := laidT_len _ _ (by unfold figs; intro h; exact digs_ne (by decide) n (List.map_eq_nil_iff.mp h)) (by rw [figs_len]; lia) (by lia)
  have hdec : ∀ s : Int, s = 1 ∨ s = -1 → GF c (Str.ofString "decimal_text") 6 [.int p, RealD (s * (2 * b + 1)) (e + z)] (.str (S (decT s n P))) := fun s hs => by
    rw [hM] at hsf ⊢
    exact decimal_text_gf F p s hs M hM0 (e + z) n P hsf h10 (Nat.lt_trans hn (pow_lt (by decide))) (by lia)
  have d1 := hdec 1 (.inl rfl)
  have d2 := hdec (-1) (.inr rfl)
  have e1 : (1 : Int) * (2 * b + 1) = 2 * b + 1 := by lia
  have e2 : (-1 : Int) * (2 * b + 1) = 0 - (2 * b + 1) := by lia
  have f1 : decT 1 n P = laidT (figs 10 n) P := rfl
  have f2 : decT (-1) n P = 45 :: laidT (figs 10 n) P := rfl
  rw [e1, f1] at d1
  rw [e2, f2] at d2
  refine ⟨laidT (figs 10 n) P, n, P, number_text2_gf F p _ _ _ d1, number_text2_gf F p _ _ _ d2, ?_, law_is_shortest_gf F hp hp90 h1 h2 hm (by lia) n P (by lia) (by lia) G, hlen, fun r hr x hx => ?_⟩
  · obtain ⟨DA, DB, R, dot, ex, k, m0⟩ := laid_form (P := P) h10 hl (by lia) (by lia)
    obtain ⟨t1, t2, t3, t4, t5, t6, t7, t8, t9, t10, t11, t12, t13, t14, t15, t16⟩ := m0
    have := law_told_gf F DA DB R dot ex k t2 t3 (by lia) (by lia) t6 t7 (fun E hE => Nat.lt_of_le_of_lt (t8 E hE) (by decide)) t9 t10 t11 (by lia)
    rw [t13, t14, ← t1] at this
    exact this
  · obtain ⟨s, hs, rfl⟩ : ∃ s : Int, (s = 1 ∨ s = -1) ∧ x = s * (2 * b + 1) := by
      rcases hx with rfl | rfl
      · exact ⟨1, .inl rfl, e1.symm⟩
      · exact ⟨-1, .inr rfl, e2.symm⟩
    by_cases r10 : r = 10
    · subst r10
      exact ⟨S (decT s n P), number_text3_gf F p _ _ _ (hdec s hs), parse_dec_gf F hs hp hp90 h1 h2 hm (by lia) (by lia) (by lia) h10 hn (G.near (by lia))⟩
    · exact parse_rad_gf F hs r (by lia) (by lia) r10 hp hp90 h1 h2 hm (by lia)
end Mine
end
section
-- A18
open PySem PySem.W PyProof.Rows
set_option Elab.async false
set_option linter.all false
set_option maxRecDepth 100000
set_option exponentiation.threshold 30000
namespace Mine
section
variable {c : Cx} {k : Nat} {nl : NL} {ρ ρ' : Names} {μ μ' : Mu}
/-- a def that hands back a new list -/
noncomputable def FNL (c : Cx) (k : Nat) (f : Value) (ds : List D) (l : List D) : Prop :=
  ∀ {A : Around} {S : Addr → Prop} {s : Shared} {vs : List Value} {R : Result → Shared → Prop}, Room (k + 1) A → Live c S s.heap → c.In s.heap → Reps S s.heap ds vs →
    (∀ b s', s.heap.get? b = none → Kp No s s' → (∃ us, s'.heap.IsList b (List.toArray us) ∧ Reps (fun x => S x ∨ x = b) s'.heap l us) → R (.ok (.ret (.ref b))) s') → codeAny (model c.prog c.w) A (.call f ⟨vs, []⟩) R s
noncomputable def EXL (c : Cx) (k : Nat) (nl : NL) (ρ : Names) (ss : List Stmt) (l : List D) : Prop :=
  ∀ {A : Around} {env : Env} {S : Addr → Prop} {s : Shared} {Q : Flow → Shared → Prop} {E : Value → Shared → Prop}, At c k nl ρ .no A env S s →
    (∀ b s', s.heap.get? b = none → Kp No s s' → (∃ us, s'.heap.IsList b (List.toArray us) ∧ Reps (fun x => S x ∨ x = b) s'.heap l us) → Q (.ret (.ref b)) s') → wpAny (model c.prog c.w) A (execs ss env) Q E s
theorem EXL.ret {es : List Expr} {pos pos' : Pos} {ds : List D} {rest : List Stmt} (h : EVs c k nl ρ .no es ds) (hz : ds.length ≤ sizeLine := by exact Nat.le_of_ble_eq_true (by with_unfolding_all rfl)) : EXL c k nl ρ (.Return (some (.List es pos)) pos' :: rest) ds := fun {A env S s Q E} a q =>
  wpAny_execs_cons (wpAny_Return_some (PyProof.Rows.List_ (h a fun vs s1 k1 r => by
    refine wpAny_newObj_type ?_ (by show vs.toArray.size ≤ sizeLine; rw [List.size_toArray, r.length]; exact hz)
    refine q _ _ ?_ (k1.trans (Kp.push (t := s1.toks))) ⟨vs, ⟨_, Heap.get?_push_size _ rfl, rfl, _, rfl⟩, Reps.mono (fun a o' _ e => Heap.get?_push_of_some _ e) (fun x nx hx hs => by
      rcases hs with hs | hs
      · exact nx hs
      · obtain ⟨o', e'⟩ := Option.isSome_iff_exists.mp hx
        rw [hs] at e'
        exact Nat.lt_irrefl _ (Heap.lt_size e')) r⟩
    cases e : s.heap.get? s1.heap.objs.size with
    | none => rfl
    | some o =>
      by_cases hb : s1.heap.objs.size = builtinsNs
      · have := a.live.all _ a.live.blt
        obtain ⟨o', e'⟩ := Option.isSome_iff_exists.mp (((a.kp k1).live.all _ (a.kp k1).live.blt).1)
        rw [← hb] at e'
        exact absurd (Heap.lt_size e') (Nat.lt_irrefl _)
      · exact absurd (Heap.lt_size (k1.keep _ o id hb e)) (Nat.lt_irrefl _))))
theorem FNL.intro {f : Addr} {as : List Arg} {sc : Scope} {body : List Stmt} {ds dd : List D} {L : List D} (F : FnAt c f as sc body dd) (ok : stOk as sc = true) (hl : ds.length + dd.length = as.length) (h : EXL c k sc.names (initEnv sc.names (ds ++ dd)) body L) : FNL c (k + 1) (.ref f) ds L := by
  intro A S s vs Q ro l i r q
  refine FN.core (μ := .no) F ok hl ro l i trivial (fun b hb => hb.elim) r fun {env S' s1} at0 nf k0 hS kpf => ?_
  refine h at0 fun b s' hb kp ⟨us, hl2, rs⟩ => q b s' ?_ (k0.trans kp) ⟨us, hl2, Reps.mono (fun _ _ _ e => e) (fun a n _ h => n (h.elim (fun z => .inl (hS a z)) .inr)) rs⟩
  cases e : s.heap.get? b with
  | none => rfl
  | some o => have := k0.keep0 b o id e; rw [hb] at this; cases this
theorem At.still {A : Around} {env : Env} {S : Addr → Prop} {s s' : Shared} (a : At c k nl ρ μ A env S s') : Still (Own env μ) s s' := fun b hb _ => (a.live.all b (Own.sub a b hb)).1
/-- an expression that changes the one list -/
noncomputable def EVM (c : Cx) (k : Nat) (nl : NL) (ρ : Names) (a : Addr) (l : List D) (e : Expr) (d : D) (l' : List D) : Prop :=
  ∀ {A : Around} {env : Env} {S : Addr → Prop} {s : Shared} {Q : Value → Shared → Prop} {E : Value → Shared → Prop}, At c k nl ρ (.lst a l) A env S s →
    (∀ v s', Kp (Own env (.lst a l)) s s' → At c k nl ρ (.lst a l') A env S s' → Rep S s'.heap d v → Q v s') → wpAny (model c.prog c.w) A (eval e env) Q E s
noncomputable def EVsM (c : Cx) (k : Nat) (nl : NL) (ρ : Names) (a : Addr) (l : List D) (es : List Expr) (ds : List D) (l' : List D) : Prop :=
  ∀ {A : Around} {env : Env} {S : Addr → Prop} {s : Shared} {pos : Pos} {Q : List Value → Shared → Prop} {E : Value → Shared → Prop}, At c k nl ρ (.lst a l) A env S s →
    (∀ vs s', Kp (Own env (.lst a l)) s s' → At c k nl ρ (.lst a l') A env S s' → Reps S s'.heap ds vs → Q vs s') → wpAny (model c.prog c.w) A (spliced (backTo pos (starEach es env))) Q E s
variable {a : Addr} {l l1 l2 l3 : List D}
theorem EVM.of {e : Expr} {d : D} (h : EV c k nl ρ (.lst a l) e d) : EVM c k nl ρ a l e d l := fun at0 q => h at0 fun v s' k1 r => q v s' k1.of_no (at0.kp k1) r
theorem EVM.eq {e : Expr} {d d' : D} (h : EVM c k nl ρ a l e d l1) (q : d = d') : EVM c k nl ρ a l e d' l1 := q ▸ h
theorem EVM.bin {e1 e2 : Expr} {op : Operator} {pos : Pos} {x y d : D} (h1 : EVM c k nl ρ a l e1 x l1) (h2 : EVM c k nl ρ a l1 e2 y l2) (h : BinD c op x y d) : EVM c k nl ρ a l (.BinOp e1 op e2 pos) d l2 := fun {A env S s Q E} at0 q =>
  wpAny_BinOp (h1 at0 fun v s1 k1 a1 r1 => h2 a1 fun u s2 k2 a2 r2 => h a2.live a2.inn (r1.kp at0.live.blt (Own.sub a1) k2) r2 fun w s3 k3 r3 => q _ _ ((k1.trans k2).trans k3.of_no) (a2.kp k3) r3)
theorem EVM.cmp {e1 e2 : Expr} {op : CmpOp} {pos : Pos} {x y : D} {b : Bool} (h1 : EVM c k nl ρ a l e1 x l1) (h2 : EVM c k nl ρ a l1 e2 y l2) (h : CmpD c op x y b) (hm : behindInMarks op e2 = false := by with_unfolding_all rfl) : EVM c k nl ρ a l (.Compare e1 [op] [e2] pos) (.bool b) l2 := fun {A env S s Q E} at0 q =>
  wpAny_Compare1 (h1 at0 fun v s1 k1 a1 r1 => h2 a1 fun u s2 k2 a2 r2 => h a2.room1 a2.live a2.inn (r1.kp at0.live.blt (Own.sub a1) k2) r2 fun s3 k3 => q _ _ ((k1.trans k2).trans k3.of_no) (a2.kp k3) Rep.bool_mk) hm
theorem EVsM.nil : EVsM c k nl ρ a l [] [] l := fun at0 q => args_nil (q _ _ Kp.refl at0 (by simp [Reps]))
theorem EVsM.cons {e : Expr} {es : List Expr} {d : D} {ds : List D} (h : EVM c k nl ρ a l e d l1) (hs : EVsM c k nl ρ a l1 es ds l2) (hp : plainExpr e = true := by with_unfolding_all rfl) : EVsM c k nl ρ a l (e :: es) (d :: ds) l2 := fun {A env S s pos Q E} at0 q =>
  args_cons (h at0 fun v s1 k1 a1 r1 => hs a1 fun vs s2 k2 a2 rs => q _ _ (k1.trans k2) a2 (by
    simp only [Reps]; exact ⟨v, vs, rfl, r1.kp at0.live.blt (Own.sub a1) k2, rs⟩)) (starEach_plain hp)
/-- a name of the top's that is called and changes the list -/
noncomputable def GFM (c : Cx) (x : Str) (k : Nat) (a : Addr) (l : List D) (ds : List D) (d : D) (l' : List D) : Prop := ∃ f, c.mg x = some f ∧ keepIn c.K f = true ∧ FNM c k f (.lst a l) ds d (.lst a l')
theorem EVM.call {x : Str} {p pos : Pos} {e : Expr} {es : List Expr} {ds : List D} {d : D} {j : Nat} (hx : (x, NameKind.globalImplicit) ∈ nl) (h : EVsM c k nl ρ a l (e :: es) ds l1) (g : GFM c x j a l1 ds d l2)
    (hj : j ≤ k := by decide) (hp : plainExpr e = true := by with_unfolding_all rfl) (hps : es.all plainExpr = true := by with_unfolding_all rfl) : EVM c k nl ρ a l (.Call (.Name x p) (e :: es) [] pos) d l2 := fun {A env S s Q E} at0 q =>
  let ⟨_, hv, hk, g⟩ := g
  Call_ (Glo.load at0 hx hv (callWith_K at0.inn.k hk (h at0 fun vs s1 k1 a1 r1 => ⟨a1.inn.k, wpAny_call (g (a1.room.mono (by lia)) a1.live a1.inn a1.mu (fun b hb => let ⟨h1, h2, _⟩ := a1.muS b hb; ⟨h1, h2⟩) r1 fun v s2 k2 r2 m2 =>
    q v s2 (k1.trans (k2.weak fun b hb => .inr (.inr hb))) (a1.kpM (μ' := .lst a l2) k2 (fun _ => Iff.rfl) m2) r2)⟩) (starEach_plain hp) (backTo_plain es hps)))
theorem EVM.callF {x : Str} {p pos : Pos} {e : Expr} {es : List Expr} {ds : List D} {d : D} {j : Nat} (hx : (x, NameKind.globalImplicit) ∈ nl) (h : EVsM c k nl ρ a l (e :: es) ds l1) (g : GF c x j ds d)
    (hj : j ≤ k := by decide) (hp : plainExpr e = true := by with_unfolding_all rfl) (hps : es.all plainExpr = true := by with_unfolding_all rfl) : EVM c k nl ρ a l (.Call (.Name x p) (e :: es) [] pos) d l1 := fun {A env S s Q E} at0 q =>
  let ⟨_, hv, hk, g⟩ := g
  Call_ (Glo.load at0 hx hv (callWith_K at0.inn.k hk (h at0 fun vs s1 k1 a1 r1 => ⟨a1.inn.k, g.call (a1.room.mono (by lia)) a1.live a1.inn r1 fun v s2 k2 r2 =>
    q v s2 (k1.trans k2.of_no) (a1.kp k2) r2⟩) (starEach_plain hp) (backTo_plain es hps)))
theorem EVM.list {es : List Expr} {pos : Pos} {ds : List D} (h : EVsM c k nl ρ a l es ds l1) (hsz : ds.length ≤ sizeLine := by exact Nat.le_of_ble_eq_true (by with_unfolding_all rfl)) : EVM c k nl ρ a l (.List es pos) (.lst ds) l1 := fun {A env S s Q E} at0 q =>
  PyProof.Rows.List_ (h at0 fun vs s1 k1 a1 r => newList_ a1.live r hsz fun v s2 k2 r2 => q v s2 (k1.trans k2.of_no) (a1.kp k2) r2)
theorem EVM.subL {value slice : Expr} {pos : Pos} {L : List D} {i : Int} {d : D} (h1 : EV c k nl ρ (.lst a l) value (.lst L)) (h2 : EVM c k nl ρ a l slice (.int i) l1) (hx : L[i.toNat]? = some d) (hi : 0 ≤ i) (hl : (L.length : Int) < 2 ^ 63) (hs : plainSlice slice := by with_unfolding_all (intro _ _; rfl)) :
    EVM c k nl ρ a l (.Subscript value slice pos) d l1 := fun {A env S s Q E} at0 q =>
  Subscript_ (h1 at0 fun v s1 k1 r1 => h2 (at0.kp k1) fun u s2 k2 a2 r2 => by
    obtain ⟨t, rfl⟩ := r2.int_inv
    obtain ⟨b, vs, rfl, _, ht, rs⟩ := (r1.kp at0.live.blt (Own.sub (at0.kp k1)) k2).list
    obtain ⟨x, hx1, rx⟩ := rs.at hx
    have hlt : i.toNat < vs.length := (List.getElem?_eq_some_iff.mp hx1).1
    have hle := rs.length
    exact tail_any ht.typeIs slot_list_getitem.lookup (wpAny_getItem_list ht hi (by lia) (by simpa using hx1) (q _ _ (k1.of_no.trans k2) a2 rx)) (hs _ _))
/-- an item of the one list -/
theorem EV.subM {y : Str} {p pos : Pos} {slice : Expr} {i : Int} {d : D} (hy : (y, some (.ptr a)) ∈ ρ) (h2 : EV c k nl ρ (.lst a l) slice (.int i)) (hx : l[i.toNat]? = some d) (hi : 0 ≤ i := by decide) (hl : (l.length : Int) < 2 ^ 63 := by decide) (hs : plainSlice slice := by with_unfolding_all (intro _ _; rfl)) :
    EV c k nl ρ (.lst a l) (.Subscript (.Name y p) slice pos) d := fun {A env S s Q E} at0 q =>
  Subscript_ (EV.name hy at0 fun v s1 k1 r1 => h2 (at0.kp k1) fun u s2 k2 r2 => by
    obtain ⟨t, rfl⟩ := r2.int_inv
    have e1 : v = .ref a := by simpa [Rep] using r1
    subst e1
    obtain ⟨vs, ht, rs⟩ := ((at0.kp k1).kp k2).mu
    obtain ⟨x, hx1, rx⟩ := rs.at hx
    have hlt : i.toNat < vs.length := (List.getElem?_eq_some_iff.mp hx1).1
    have hle := rs.length
    exact tail_any ht.typeIs slot_list_getitem.lookup (wpAny_getItem_list ht hi (by lia) (by simpa using hx1) (q _ _ (k1.trans k2) rx)) (hs _ _))
theorem EX.assignM {x : Str} {p pos : Pos} {e : Expr} {rest : List Stmt} {ks : List (List Stmt)} {o : Out} {d : D} (h : EVM c k nl ρ a l e d l1) (P : Put x d ρ ρ') (n : EX c k nl ρ' (.lst a l1) rest ks o)
    (hs : ∀ env : Env, swapsWith e (some (.Name x p)) pos.line env = pure false := by with_unfolding_all (intro _; rfl)) : EX c k nl ρ (.lst a l) (.Assign [.Name x p] e pos :: rest) ks o := fun {A env S s Q E} at0 nf q =>
  wpAny_execs_cons (wpAny_Assign_Name (h at0 fun v s1 k1 a1 r => a1.store nf P r fun s2 k2 t2 a2 => n a2 nf (q.on (k1.trans k2) (a1.still.trans t2) (fun _ => Iff.rfl))) (hs _))
theorem EX.retM {e : Expr} {pos : Pos} {rest : List Stmt} {ks : List (List Stmt)} {d : D} (h : EVM c k nl ρ a l e d l1) : EX c k nl ρ (.lst a l) (.Return (some e) pos :: rest) ks (.ret d (.lst a l1)) := fun {A env S s Q E} at0 nf q =>
  wpAny_execs_cons (wpAny_Return_some (h at0 fun v s' k1 a1 r => by
    have := q v s' k1 a1.still r a1.mu
    cases ks <;> exact this))
theorem Reps.set {S : Addr → Prop} {h : Heap} : ∀ {ds : List D} {vs : List Value} (i : Nat) {d : D} {v : Value}, Reps S h ds vs → Rep S h d v → Reps S h (ds.set i d) (vs.set i v)
  | [], vs, i, d, v, r, _ => by simp only [Reps] at r; subst r; simp [Reps]
  | x :: ds, vs, i, d, v, r, r' => by
    simp only [Reps] at r
    obtain ⟨u, q, rfl, r1, r2⟩ := r
    cases i with
    | zero => simp only [List.set_cons_zero, Reps]; exact ⟨v, q, rfl, r', r2⟩
    | succ i => simp only [List.set_cons_succ, Reps]; exact ⟨u, _, rfl, r1, Reps.set i r2 r'⟩
/-- an item of the one list set anew -/
theorem EX.setitem {y : Str} {p pos pos' : Pos} {slice e : Expr} {i : Int} {d : D} {rest : List Stmt} {ks : List (List Stmt)} {o : Out} (hy : (y, some (.ptr a)) ∈ ρ) (h : EV c k nl ρ (.lst a l) e d) (h2 : EV c k nl ρ (.lst a l) slice (.int i)) (hn : i.toNat < l.length) (n : EX c k nl ρ (.lst a (l.set i.toNat d)) rest ks o) (hi : 0 ≤ i := by decide) (hl : (l.length : Int) < 2 ^ 63 := by decide)
    (hs : ∀ env : Env, swapsWith e (some (.Subscript (.Name y p) slice pos')) pos.line env = pure false := by with_unfolding_all (intro _; rfl)) : EX c k nl ρ (.lst a l) (.Assign [.Subscript (.Name y p) slice pos'] e pos :: rest) ks o := fun {A env S s Q E} at0 nf q =>
  wpAny_execs_cons (wpAny_Assign_Subscript (h at0 fun v s1 k1 r1 => EV.name hy (at0.kp k1) fun u s2 k2 r2 => h2 ((at0.kp k1).kp k2) fun w s3 k3 r3 => by
    obtain ⟨t, rfl⟩ := r3.int_inv
    have e1 : u = .ref a := by simpa [Rep] using r2
    subst e1
    have a3 := ((at0.kp k1).kp k2).kp k3
    have kk := (k1.trans k2).trans k3
    obtain ⟨vs, ht, rs⟩ := a3.mu
    have hle := rs.length
    obtain ⟨mS, mb, ml, mc⟩ := a3.muS a rfl
    refine wpAny_setItem_list ht hi (by lia) (by rw [List.size_toArray]; lia) fun h' hl' hsb => ?_
    have kp : Kp (Mu.lst a l).has s3 { s3 with heap := h' } := Kp.two (tk := s3.toks) rfl mb hsb
    have mv : ∀ {ds : List D} {us : List Value}, Reps S s3.heap ds us → Reps S h' ds us := fun r => Reps.mono (fun b o nb e => (hsb.2 b fun z => nb (z ▸ mS)).trans e) (fun _ n _ => n) r
    have rv : Rep S s3.heap d v := (r1.kp at0.live.blt (fun _ q => q.elim) (k2.trans k3))
    have a4 := a3.kpM (μ' := .lst a (l.set i.toNat d)) kp (fun _ => Iff.rfl) ⟨vs.set i.toNat v, by simpa using hl', mv (rs.set i.toNat rv)⟩
    exact n a4 nf (q.on (kk.of_no.trans (kp.weak fun b hb => .inr (.inr hb))) a4.still (fun _ => Iff.rfl))) (hs _))
/-- a name of the top's that is called and hands back a new list -/
noncomputable def GFL (c : Cx) (x : Str) (k : Nat) (ds : List D) (l : List D) : Prop := ∃ f, c.mg x = some f ∧ keepIn c.K f = true ∧ FNL c k f ds l
theorem EX.assignNew {x y : Str} {p py pc pos : Pos} {e : Expr} {es : List Expr} {rest : List Stmt} {ks : List (List Stmt)} {d : D} {ds : List D} {j : Nat} {f : Addr → Names} (hx : (y, NameKind.globalImplicit) ∈ nl) (h : EVs c k nl ρ .no (e :: es) ds) (g : GFL c y j ds l) (P : ∀ a, Put x (.ptr a) ρ (f a)) (n : ∀ a, ∃ μ', EX c k nl (f a) (.lst a l) rest ks (.ret d μ'))
    (hj : j ≤ k := by decide) (hp : plainExpr e = true := by with_unfolding_all rfl) (hps : es.all plainExpr = true := by with_unfolding_all rfl)
    (hs : ∀ env : Env, swapsWith (.Call (.Name y py) (e :: es) [] pc) (some (.Name x p)) pos.line env = pure false := by with_unfolding_all (intro _; rfl)) : EX c k nl ρ .no (.Assign [.Name x p] (.Call (.Name y py) (e :: es) [] pc) pos :: rest) ks (.ret d .no) := fun {A env S s0 Q E} at00 nf q => by
  obtain ⟨fv, hv, hk, g⟩ := g
  refine wpAny_execs_cons (wpAny_Assign_Name (Call_ (Glo.load at00 hx hv (callWith_K at00.inn.k hk (h at00 fun vs s k0 rr => ⟨(at00.kp k0).inn.k, wpAny_call (g (at00.room.mono (by lia)) (at00.kp k0).live (at00.kp k0).inn rr fun b s1 hn k1 ⟨us, hl, rs⟩ => ?_)⟩) (starEach_plain hp) (backTo_plain es hps)))) (hs _))
  have at0 := at00.kp k0
  obtain ⟨n1, n2, n3, n4⟩ := newAddr at0.inn hn
  have hsome : (s1.heap.get? b).isSome = true := by obtain ⟨o, e, _⟩ := hl; rw [e]; rfl
  have at1 := at0.grow k1 hn hsome
  have at2 : At c k nl ρ (.lst b l) A env (fun x => S x ∨ x = b) s1 :=
    { at1 with
      mu := ⟨us, hl, rs⟩
      muS := fun x hx => by
        rw [show x = b from hx]
        refine ⟨.inr rfl, n4, ?_, ?_⟩
        · intro e; obtain ⟨m, o, _, _, g, _⟩ := at0.ns; rw [← e, hn] at g; cases g
        · intro y e; obtain ⟨_, _, _, w, o, g, _⟩ := at0.cells y _ e; rw [hn] at g; cases g }
  have P' := P b
  obtain ⟨μ', n'⟩ := n b
  have q' := q.on k0.of_no (Still.of_no k0 at00.inn)
  refine at2.store nf P' (by simp [Rep]) fun s2 k2 t2 a2 => n' a2 nf fun v s3 k3 t3 r3 m3 => ?_
  have fr : ∀ x, Own env (.lst b l) x → (s.heap.get? x).isSome = true → Own env .no x := fun x hb e => by
    rcases hb with hb | hb | hb
    · exact .inl hb
    · exact .inr (.inl hb)
    · rw [show x = b from hb, hn] at e; cases e
  have kk := k2.trans k3
  refine q' v s3 ⟨(k1.of_no.trans kk).same, fun x o nb e => ?_, fun m e => kk.blt m (k1.blt m e)⟩ (fun x hb e => ?_) (r3.mono (fun _ _ _ e => e) fun b n _ h => n (.inl h)) trivial
  · exact kk.keep0 x o (fun hb => nb (fr x hb (by rw [e]; rfl))) (k1.keep0 x o id e)
  · have hb' : Own env (.lst b l) x := by
      rcases hb with hb | hb | hb
      · exact .inl hb
      · exact .inr (.inl hb)
      · exact hb.elim
    exact t3 x hb' (t2 x hb' (Still.of_no k1 at0.inn (X := fun _ => True) x trivial e))
end
end Mine
end
section
-- W21
open PySem PySem.W PyProof.Rows
set_option Elab.async false
set_option linter.all false
set_option maxRecDepth 100000
set_option exponentiation.threshold 30000
namespace Mine
section
variable {c : Cx} {k : Nat} {f : Addr} {t : Stmt} {nm bd : Str} {as po ko : List Arg} {va kw : Option Arg} {kd : List (Option Expr)} {df dl : List Expr} {b : List Stmt} {ret : Option Expr} {tp : List TypeParam} {nl : NL} {sk : ScopeKind} {g1 g2 : Bool} {mo : List (Str × Const)} {ts : Option Scope} {ps : Pos} {ds dd : List D} {ρ : Names} {L : List D}
theorem FNL.of (F : FnSt c f t dd) (ok : isPlain t = true) (h : t = .FunctionDef nm ⟨po, as, va, ko, kd, kw, df⟩ b dl ret tp ⟨sk, nl, g1, g2, mo⟩ ts bd ps) (he : initEnv nl (ds ++ dd) = ρ) (hl : ds.length + dd.length = as.length) (g : EXL c k nl ρ b L) : FNL c (k + 1) (.ref f) ds L := by
  subst h; subst he; exact FNL.intro F ok hl g
end
noncomputable def natD (l : List Nat) : List D := l.map fun (i : Nat) => .int (i : Int)
/-- the deck: its cells, the turn, the seed -/
noncomputable def DeckD (cells : List Nat) (t s : Nat) : List D := [.lst (natD cells), .int (t : Int), .int (s : Int)]
theorem natD_len (l : List Nat) : (natD l).length = l.length := by simp [natD]
theorem natD_at {l : List Nat} {i : Nat} (h : i < l.length) : (natD l)[((i : Nat) : Int).toNat]? = some (.int ((l[i] : Nat) : Int)) := by
  rw [Int.toNat_natCast]; simp [natD, h]
theorem law_draw_gf {c : Cx} (F : Facts c) (a : Addr) (cells : List Nat) (t s many : Nat) (hc : cells.length ≤ 1000) (hm : 0 < many) : ∃ x s', x < many ∧ GFM c (Str.ofString "_law_draw") 1 a (DeckD cells t s) [.ptr a, .int many] (.int (x : Nat)) (DeckD cells (t + 1) s') := by
  obtain ⟨v, hv⟩ : ∃ v, v = if h : t < cells.length then cells[t] else s / 512 := ⟨_, rfl⟩
  refine ⟨v % many, (s * 69069 + v % 1000003 + 11 * t + 1) % 4294967296, Nat.mod_lt _ hm, _, F.law_draw.name, F.law_draw.keep, ?_⟩
  refine FNM.of F.law_draw.fn (okSt 59 (by decide)) rfl (by dsimp only [initEnv, List.cons_append, List.nil_append, List.append_nil]) rfl (.inl rfl) ?_
  have t1 : (t : Int) + 1 = ((t + 1 : Nat) : Int) := by lia
  have s1 : ∀ x : Nat, (DeckD cells t s).set (1 : Int).toNat (.int (x : Int)) = DeckD cells x s := fun x => rfl
  have s2 : ∀ x : Nat, (DeckD cells (t + 1) s).set (2 : Int).toNat (.int (x : Int)) = DeckD cells (t + 1) x := fun x => rfl
  have hl63 : ((natD cells).length : Int) < 2 ^ 63 := by rw [natD_len]; lia
  have hl63n : (natD cells).length < 2 ^ 63 := by rw [natD_len]; lia
  have d63 : ∀ t s, ((DeckD cells t s).length : Int) < 2 ^ 63 := fun t s => by show ((3 : Nat) : Int) < _; decide
  with_reducible refine' EX.assign (d := .int (t : Int)) (EV.subM m0 EV.int rfl (by decide) (d63 _ _)) p2 ?_
  with_reducible refine' EX.setitem m0 (EV.of (EV.bin (EV.name m2) EV.int BinD.add) (congrArg D.int t1)) EV.int ?_ ?_ (by decide) (d63 _ _)
  · show 1 < 3; decide
  rw [s1]
  with_reducible refine' EX.assign (d := .int (v : Int)) ?_ p3 ?_
  · rcases Decidable.em (t < cells.length) with h | h
    · rw [dif_pos h] at hv
      subst hv
      with_reducible refine' EV.iteT (TR.of (TR.cmp (EV.name m2) (EV.blt m4 F.no_len bt_len (EVs.cons (EV.subM (d := .lst (natD cells)) m0 EV.int rfl (by decide) (d63 _ _)) EVs.nil) (BCall.lenL hl63n)) CmpD.lt) (decide_eq_true ?_)) (EV.subL (EV.subM (d := .lst (natD cells)) m0 EV.int rfl (by decide) (d63 _ _)) (EV.name m2) (natD_at h) (Int.natCast_nonneg t) hl63)
      rw [natD_len]; lia
    · rw [dif_neg h] at hv
      subst hv
      have fd := fdiv_nat s 512
      rw [show ((512 : Nat) : Int) = 512 from rfl] at fd
      with_reducible refine' EV.iteF (TR.of (TR.cmp (EV.name m2) (EV.blt m4 F.no_len bt_len (EVs.cons (EV.subM (d := .lst (natD cells)) m0 EV.int rfl (by decide) (d63 _ _)) EVs.nil) (BCall.lenL hl63n)) CmpD.lt) (decide_eq_false ?_)) (EV.of (EV.bin (EV.subM (d := .int (s : Int)) m0 EV.int rfl (by decide) (d63 _ _)) EV.int (BinD.fdiv (by decide) ?_)) (congrArg D.int fd))
      · rw [natD_len]; lia
      · exact nopyN (y := 512) (n := 10) (by decide) (by decide) _
  have fm := fmod_nat v 1000003
  have fm2 := fmod_nat v many
  have fs := fmod_nat (s * 69069 + v % 1000003 + 11 * t + 1) 4294967296
  rw [show ((1000003 : Nat) : Int) = 1000003 from rfl] at fm
  rw [show ((4294967296 : Nat) : Int) = 4294967296 from rfl] at fs
  have es : (s : Int) * 69069 + ((v % 1000003 : Nat) : Int) + 11 * (t : Int) + 1 = ((s * 69069 + v % 1000003 + 11 * t + 1 : Nat) : Int) := by lia
  with_reducible refine' EX.setitem m0 (EV.of (EV.bin (EV.of (EV.bin (EV.bin (EV.bin (EV.bin (EV.subM (d := .int (s : Int)) m0 EV.int rfl (by decide) (d63 _ _)) EV.int (BinD.mul ?_)) (EV.of (EV.bin (EV.name m3) EV.int (BinD.fmod ?_)) (congrArg D.int fm)) BinD.add) (EV.bin EV.int (EV.name m2) (BinD.mul ?_)) BinD.add) EV.int BinD.add) (congrArg D.int es)) EV.int (BinD.fmod ?_)) (congrArg D.int fs)) EV.int ?_ ?_ (by decide) (d63 _ _)
  · exact IntMulOk.of_right (by decide +kernel)
  · decide
  · exact IntMulOk.of_left (by decide +kernel)
  · decide
  · show 2 < 3; decide
  rw [s2]
  with_reducible refine' EX.retOf (EV.bin (EV.name m3) (EV.name m1) (BinD.fmod ?_)) (congrArg D.int fm2)
  lia
theorem law_pick_gf {c : Cx} (F : Facts c) (a : Addr) (cells : List Nat) (t s : Nat) (L : List D) (hc : cells.length ≤ 1000) (h0 : 0 < L.length) (hL : L.length ≤ 1000) : ∃ d s', d ∈ L ∧ GFM c (Str.ofString "_law_pick") 2 a (DeckD cells t s) [.ptr a, .lst L] d (DeckD cells (t + 1) s') := by
  obtain ⟨x, s', hx, hd⟩ := law_draw_gf F a cells t s L.length hc h0
  refine ⟨L[x], s', List.getElem_mem hx, _, F.law_pick.name, F.law_pick.keep, ?_⟩
  refine FNM.of F.law_pick.fn (okSt 60 (by decide)) rfl (by dsimp only [initEnv, List.cons_append, List.nil_append, List.append_nil]) rfl (.inl rfl) ?_
  with_reducible refine' EX.retM (EVM.subL (EV.name m1) (EVM.call m2 (EVsM.cons (EVM.of (EV.name m0)) (EVsM.cons (EVM.of (EV.blt m3 F.no_len bt_len (EVs.cons (EV.name m1) EVs.nil) (BCall.lenL ?_))) EVsM.nil)) hd (by decide)) ?_ ?_ ?_)
  · lia
  · rw [Int.toNat_natCast]; exact List.getElem?_eq_getElem hx
  · lia
  · lia
noncomputable def intD (l : List Int) : List D := l.map D.int
theorem law_deck_gf {c : Cx} (F : Facts c) (L : List Int) (hL : L.length ≤ 1000) : ∃ cells s, cells.length ≤ 1000 ∧ GFL c (Str.ofString "_law_deck") 1 [.lst (intD L), .int 30] (DeckD cells 0 s) := by
  refine ⟨(L.take 30).map Int.natAbs, 977 + ((L.take 30).filter fun i => decide (i < 0)).length, by rw [List.length_map, List.length_take]; lia, _, F.law_deck.name, F.law_deck.keep, ?_⟩
  refine FNL.of F.law_deck.fn (okSt 61 (by decide)) rfl (by dsimp only [initEnv, List.cons_append, List.nil_append, List.append_nil]) rfl ?_
  have hz : (intD L).length ≤ sizeLine := by rw [intD, List.length_map]; unfold sizeLine; lia
  have htake : (intD L).take 30 = intD (L.take 30) := by rw [intD, intD, List.map_take]
  have e1 : (977 : Int) + ((intD ((L.take 30).filter fun i => decide (i < 0))).length : Nat) = ((977 + ((L.take 30).filter fun i => decide (i < 0)).length : Nat) : Int) := by rw [intD, List.length_map]; lia
  have hlt : (L.take 30).length ≤ 30 := by rw [List.length_take]; lia
  have hlf : (intD ((L.take 30).filter fun i => decide (i < 0))).length < 2 ^ 63 := by
    rw [intD, List.length_map]
    have := List.length_filter_le (fun i : Int => decide (i < 0)) (L.take 30)
    lia
  with_reducible refine' EXL.ret (EVs.cons (EV.comp (fr := []) (es := natD ((L.take 30).map Int.natAbs)) ?_ ?_ (IterE.of (EV.of (EV.sliceL (j := 30) (EV.name m0) (EV.name m1) hz) (congrArg D.lst htake)) IterD.lst) ?_ ?_) (EVs.cons EV.int (EVs.cons (EV.of (EV.bin EV.int (EV.blt m2 F.no_len bt_len (EVs.cons (EV.comp (fr := []) (es := intD ((L.take 30).filter fun i => decide (i < 0))) ?_ ?_ (IterE.of (EV.of (EV.sliceL (j := 30) (EV.name m0) (EV.name m1) hz) (congrArg D.lst htake)) IterD.lst) ?_ ?_) EVs.nil) (BCall.lenL hlf)) BinD.add) (congrArg D.int e1)) EVs.nil)))
  · decide +kernel
  · intro p hp; cases hp
  · clear e1 hlf htake
    generalize L.take 30 = l
    unfold natD intD
    induction l with
    | nil => exact CL.nil
    | cons i l ih =>
      rw [List.map_cons, List.map_cons, List.map_cons]
      with_reducible refine' CL.take (fun μ => TRs.nil) (fun μ => EV.of (EV.blt ?_ F.no_abs bt_abs (EVs.cons (EV.name m0) EVs.nil) BCall.abs) (congrArg D.int (abs_nat i))) ih
      first | with_unfolding_all exact m0 | with_unfolding_all exact m1 | with_unfolding_all exact m2 | with_unfolding_all exact m3
  · rw [intD, List.length_map]; unfold sizeLine; lia
  · decide +kernel
  · intro p hp; cases hp
  · clear e1 hlf htake
    generalize L.take 30 = l
    unfold intD
    induction l with
    | nil => exact CL.nil
    | cons i l ih =>
      rw [List.map_cons, List.filter_cons]
      rcases Decidable.em (i < 0) with h | h
      · rw [if_pos (decide_eq_true h), List.map_cons]
        with_reducible exact CL.take (fun μ => TRs.yes (TR.of (TR.cmp (EV.name m0) EV.int CmpD.lt) (decide_eq_true h)) TRs.nil) (fun μ => EV.name m0) ih
      · rw [if_neg (by simpa using h)]
        with_reducible exact CL.skip (fun μ => TRs.no (TR.of (TR.cmp (EV.name m0) EV.int CmpD.lt) (decide_eq_false h))) ih
  · rw [intD, List.length_map]; unfold sizeLine; lia
end Mine
end
section
-- W22
open PySem PySem.W PyProof.Rows
set_option Elab.async false
set_option linter.all false
set_option maxRecDepth 100000
set_option exponentiation.threshold 30000
namespace Mine
theorem odd_part (m : Nat) (h : 0 < m) : ∃ z b : Nat, m = 2 ^ z * (2 * b + 1) := by
  induction m using Nat.strongRecOn with
  | ind m ih =>
    rcases Nat.mod_two_eq_zero_or_one m with e | e
    · obtain ⟨z, b, hb⟩ := ih (m / 2) (by lia) (by lia)
      exact ⟨z + 1, b, by rw [Nat.pow_succ, Nat.mul_comm (2 ^ z) 2, Nat.mul_assoc, ← hb]; lia⟩
    · exact ⟨0, m / 2, by rw [Nat.pow_zero]; lia⟩
theorem EX.forX {c : Cx} {k : Nat} {nl : NL} {ρ : Names} {μ : Mu} {x : Str} {px pos : Pos} {e : Expr} {body rest : List Stmt} {ks : List (List Stmt)} {d : D} {ds : List D} (h : IterE c k nl ρ μ e ds) (f : ∃ μ', FL c k nl x body rest ks (.ret d μ') ρ μ ds)
    (hs : ∀ env v, foldedSetIterable e env v = pure v := by with_unfolding_all (intro _ _; rfl)) : ∃ μ', EX c k nl ρ μ (.For (.Name x px) e body [] pos :: rest) ks (.ret d μ') :=
  let ⟨μ', g⟩ := f; ⟨μ', EX.for_ h g hs⟩
theorem SameHas.lst {a : Addr} {l l' : List D} : SameHas (.lst a l) (.lst a l') := fun _ => Iff.rfl
/-- what a turn draws -/
structure Drawn (c : Cx) (a : Addr) (cells : List Nat) (t s p x1 x2 x4 m r : Nat) (e : Int) (s1 s2 s3 s4 s5 : Nat) : Prop where
  lo : 2 ≤ p
  hi : p ≤ 21
  pe : p = 2 + x1
  m1 : 2 ^ (p - 1) ≤ m
  m2 : m < 2 ^ p
  ee : (x4 : Int) - 40 - p = e
  n1 : -40 ≤ p + e
  n2 : p + e ≤ 39
  rr : r = 2 ∨ r = 8 ∨ r = 10 ∨ r = 16
  g1 : GFM c (Str.ofString "_law_draw") 1 a (DeckD cells t s) [.ptr a, .int 20] (.int (x1 : Nat)) (DeckD cells (t + 1) s1)
  g2 : GFM c (Str.ofString "_law_draw") 1 a (DeckD cells (t + 1) s1) [.ptr a, .int (2 ^ (p - 1) : Nat)] (.int (x2 : Nat)) (DeckD cells (t + 1 + 1) s2)
  g3 : GFM c (Str.ofString "_law_pick") 2 a (DeckD cells (t + 1 + 1) s2) [.ptr a, .lst [.int (2 ^ (p - 1) + x2 : Nat), .int (2 ^ (p - 1) : Nat), .int (2 ^ (p - 1) + 1 : Nat), .int (2 * 2 ^ (p - 1) - 1 : Nat)]] (.int (m : Nat)) (DeckD cells (t + 1 + 1 + 1) s3)
  g4 : GFM c (Str.ofString "_law_draw") 1 a (DeckD cells (t + 1 + 1 + 1) s3) [.ptr a, .int 80] (.int (x4 : Nat)) (DeckD cells (t + 1 + 1 + 1 + 1) s4)
  g5 : GFM c (Str.ofString "_law_pick") 2 a (DeckD cells (t + 1 + 1 + 1 + 1) s4) [.ptr a, .lst [.int 2, .int 8, .int 10, .int 16]] (.int (r : Nat)) (DeckD cells (t + 1 + 1 + 1 + 1 + 1) s5)
theorem full_in {H x2 m : Nat} (h1 : x2 < H) (h2 : 2 ≤ H) (hd : D.int (m : Nat) ∈ [D.int (H + x2 : Nat), .int (H : Nat), .int (H + 1 : Nat), .int (2 * H - 1 : Nat)]) : H ≤ m ∧ m < 2 * H := by
  simp only [List.mem_cons, List.not_mem_nil, or_false, D.int.injEq, Int.natCast_inj] at hd
  lia
theorem int_mem {d : D} {l : List Nat} (h : d ∈ natD l) : ∃ m ∈ l, d = .int (m : Nat) := by
  obtain ⟨m, h1, rfl⟩ := List.mem_map.mp h
  exact ⟨m, h1, rfl⟩
theorem turn_draws {c : Cx} (F : Facts c) (a : Addr) (cells : List Nat) (hc : cells.length ≤ 1000) (t s : Nat) : ∃ p x1 x2 x4 m r e s1 s2 s3 s4 s5, Drawn c a cells t s p x1 x2 x4 m r e s1 s2 s3 s4 s5 := by
  obtain ⟨x1, s1, hx1, g1⟩ := law_draw_gf F a cells t s 20 hc (by decide)
  have hH2 : 2 ≤ 2 ^ (2 + x1 - 1) := Nat.le_trans (show 2 ≤ 2 ^ 1 by decide) (Nat.pow_le_pow_right (by decide) (Nat.le_sub_of_add_le (Nat.le_add_right 2 x1)))
  have hHp : 2 ^ (2 + x1) = 2 * 2 ^ (2 + x1 - 1) := by rw [show 2 + x1 - 1 = 1 + x1 by lia, show 2 + x1 = 1 + x1 + 1 by lia, Nat.pow_succ, Nat.mul_comm]
  obtain ⟨x2, s2, hx2, g2⟩ := law_draw_gf F a cells (t + 1) s1 (2 ^ (2 + x1 - 1)) hc (Nat.two_pow_pos _)
  obtain ⟨d3, s3, hd3, g3⟩ := law_pick_gf F a cells (t + 1 + 1) s2 (natD [2 ^ (2 + x1 - 1) + x2, 2 ^ (2 + x1 - 1), 2 ^ (2 + x1 - 1) + 1, 2 * 2 ^ (2 + x1 - 1) - 1]) hc (Nat.le_of_ble_eq_true rfl) (Nat.le_of_ble_eq_true rfl)
  obtain ⟨x4, s4, hx4, g4⟩ := law_draw_gf F a cells (t + 1 + 1 + 1) s3 80 hc (by decide)
  obtain ⟨d5, s5, hd5, g5⟩ := law_pick_gf F a cells (t + 1 + 1 + 1 + 1) s4 (natD [2, 8, 10, 16]) hc (by decide) (by decide)
  obtain ⟨m, hm, rfl⟩ := int_mem hd3
  obtain ⟨r, hr, rfl⟩ := int_mem hd5
  obtain ⟨hm1, hm2⟩ := full_in hx2 hH2 hd3
  simp only [List.mem_cons, List.not_mem_nil, or_false] at hr
  rw [← hHp] at hm2
  exact ⟨2 + x1, x1, x2, x4, m, r, (x4 : Int) - 40 - ((2 + x1 : Nat) : Int), s1, s2, s3, s4, s5, Nat.le_add_right 2 x1, Nat.add_le_add_left (Nat.le_of_lt_succ hx1) 2, rfl, hm1, hm2, rfl, by clear hHp hm1 hm2 hH2 hx2; lia, by clear hHp hm1 hm2 hH2 hx2; lia, hr, g1, g2, g3, g4, g5⟩
set_option maxHeartbeats 2000000
theorem law_gf {c : Cx} (F : Facts c) (L : List Int) (hL : L.length ≤ 63) : GF c (Str.ofString "law") 8 [.lst (intD L)] (.bool true) := by
  refine ⟨_, F.law.name, F.law.keep, ?_⟩
  refine FN.of F.law.fn (okSt 69 (by decide)) rfl (by dsimp only [initEnv, List.cons_append, List.nil_append, List.append_nil]) rfl ?_
  obtain ⟨cells, t, s0, hc, hdeck⟩ : ∃ cells t s0, cells.length ≤ 1000 ∧ GFL c (Str.ofString "_law_deck") 1 [.lst (intD L), .int 30] (DeckD cells t s0) := let ⟨x, y, h1, h2⟩ := law_deck_gf F L (by lia); ⟨x, 0, y, h1, h2⟩
  have hlen : (intD L).length < 2 ^ 63 := by rw [intD, List.length_map]; lia
  have hleni : ((intD L).length : Int) = (L.length : Nat) := by rw [intD, List.length_map]
  have hmin : (if (24 : Int) < (L.length : Nat) then (24 : Int) else (L.length : Nat)) = ((min L.length 24 : Nat) : Int) := by split <;> lia
  have hdiv := fdiv_nat (min L.length 24) 8
  rw [show ((8 : Nat) : Int) = 8 from rfl] at hdiv
  with_reducible refine' EX.assignNew m16 (EVs.cons (EV.name m0) (EVs.cons EV.int EVs.nil)) hdeck (fun a => p1) (fun a => ?_)
  with_reducible refine' EX.forX (IterE.range1 m17 F.no_range (EVs.cons (EV.bin EV.int (EV.of (EV.bin (EV.of (EV.blt m18 F.no_min bt_min (EVs.cons (EV.of (EV.blt m19 F.no_len bt_len (EVs.cons (EV.name m0) EVs.nil) (BCall.lenL hlen)) (congrArg D.int hleni)) (EVs.cons EV.int EVs.nil)) BCall.min) (congrArg D.int hmin)) EV.int (BinD.fdiv ?_ ?_)) (congrArg D.int hdiv)) BinD.add) EVs.nil) ?_ ?_) ?_
  · decide
  · exact nopyN (y := 8) (n := 5) (by decide) (by decide) _
  · lia
  · lia
  generalize dInts 0 (1 + ((min L.length 24 / 8 : Nat) : Int)) = ds
  clear hdiv hmin hleni hdeck
  induction ds generalizing t s0 with
  | nil =>
    obtain ⟨x1, s1, hx1, g1⟩ := law_draw_gf F a cells t s0 20 hc (by decide)
    have g1 : GFM c (Str.ofString "_law_draw") 1 a (DeckD cells t s0) [.ptr a, .int 20] (.int (x1 : Nat)) (DeckD cells (t + 1) s1) := g1
    have e1 : (2 : Int) + (x1 : Nat) = ((2 + x1 : Nat) : Int) := by lia
    have gz := number_text2_gf F (2 + x1) 0 0 _ (decimal_zero_gf F (2 + x1))
    refine ⟨.lst a (DeckD cells (t + 1) s1), FL.done ?_⟩
    with_reducible refine' EX.retM (EVM.eq (EVM.cmp (EVM.callF m23 (EVsM.cons (EVM.eq (EVM.bin (EVM.of EV.int) (EVM.call m20 (EVsM.cons (EVM.of (EV.name m1)) (EVsM.cons (EVM.of EV.int) EVsM.nil)) g1 (by decide)) BinD.add) (congrArg D.int e1)) (EVsM.cons (EVM.of (EV.call m26 (EVs.cons EV.int (EVs.cons EV.int EVs.nil)) (Real_gf F 0 0) (by decide))) EVsM.nil)) gz (by decide)) (EVM.of EV.str) CmpD.eqS) (congrArg D.bool (decide_eq_true S_zdz.symm)))
  | cons d ds ih =>
    obtain ⟨p, x1, x2, x4, m, r, e, s1, s2, s3, s4, s5, hp, hp2, hpp, hm1, hm2, he, hn1, hn2, hr, g1, g2, g3, g4, g5⟩ := turn_draws F a cells hc t s0
    obtain ⟨μ', h⟩ := ih (t + 1 + 1 + 1 + 1 + 1) s5
    refine ⟨μ', ?_⟩
    with_reducible refine' FL.turn p2 ?_ SameHas.lst h
    have hm0 : 0 < m := Nat.lt_of_lt_of_le (Nat.two_pow_pos _) hm1
    obtain ⟨z, b, hzb⟩ := odd_part m hm0
    have hm : (m : Int) = 2 ^ z * (2 * (b : Int) + 1) := by rw [hzb, Int.natCast_mul, pow2_cast]; congr 1
    obtain ⟨W, n, P, w1, w2, w3, w4, w5, w6⟩ := turn_facts F hp hp2 hm1 hm2 hm hn1 hn2
    have e1 : (2 : Int) + (x1 : Nat) = (p : Nat) := by lia
    have e3 : ∀ h : Nat, (h : Int) + 1 = ((h + 1 : Nat) : Int) := fun h => by lia
    have e4 : ∀ h : Nat, 0 < h → 2 * (h : Int) - 1 = ((2 * h - 1 : Nat) : Int) := fun h h0 => by lia
    with_reducible refine' EX.assignM (EVM.eq (EVM.bin (EVM.of EV.int) (EVM.call m20 (EVsM.cons (EVM.of (EV.name m1)) (EVsM.cons (EVM.of EV.int) EVsM.nil)) g1 (by decide)) BinD.add) (congrArg D.int e1)) p3 ?_
    have e2 : (1 : Int) * 2 ^ ((p : Int) - 1).toNat = ((2 ^ (p - 1) : Nat) : Int) := by rw [Int.one_mul, show ((p : Int) - 1).toNat = p - 1 by lia, pow2_cast]
    with_reducible refine' EX.assign (EV.of (EV.bin EV.int (EV.bin (EV.name m3) EV.int BinD.sub) (BinD.shl ?_ ?_)) (congrArg D.int e2)) p4 ?_
    · lia
    · rw [intBits_one]; lia
    with_reducible refine' EX.assignM (EVM.call m21 (EVsM.cons (EVM.of (EV.name m1)) (EVsM.cons (EVM.list (EVsM.cons (EVM.eq (EVM.bin (EVM.of (EV.name m4)) (EVM.call m20 (EVsM.cons (EVM.of (EV.name m1)) (EVsM.cons (EVM.of (EV.name m4)) EVsM.nil)) g2 (by decide)) BinD.add) (congrArg D.int (Int.natCast_add _ _).symm)) (EVsM.cons (EVM.of (EV.name m4)) (EVsM.cons (EVM.of (EV.of (EV.bin (EV.name m4) EV.int BinD.add) (congrArg D.int (e3 _)))) (EVsM.cons (EVM.of (EV.of (EV.bin (EV.bin EV.int (EV.name m4) (BinD.mul ?_)) EV.int BinD.sub) (congrArg D.int (e4 _ ?_)))) EVsM.nil))))) EVsM.nil)) g3 (by decide)) p5 ?_
    · exact IntMulOk.of_left (by decide +kernel)
    · exact Nat.two_pow_pos _
    with_reducible refine' EX.assignM (EVM.eq (EVM.bin (EVM.bin (EVM.call m20 (EVsM.cons (EVM.of (EV.name m1)) (EVsM.cons (EVM.of EV.int) EVsM.nil)) g4 (by decide)) (EVM.of EV.int) BinD.sub) (EVM.of (EV.name m3)) BinD.sub) (congrArg D.int he)) p6 ?_
    with_reducible refine' EX.assign (EV.call m22 (EVs.cons (EV.name m3) (EVs.cons (EV.name m5) (EVs.cons (EV.name m6) EVs.nil))) (law_real_gf F p m z b e hm) (by decide)) p7 ?_
    have m90 : m < 2 ^ 90 := Nat.lt_of_lt_of_le hm2 (Nat.pow_le_pow_right (by decide) (by lia))
    with_reducible refine' EX.assign2 (d1 := .int (m * 2 ^ e.toNat : Nat)) (d2 := .int (2 ^ (-e).toNat : Nat)) ?_ p8 p9 ?_
    · rcases Int.lt_or_le e 0 with h0 | h0
      · with_reducible refine' EV.iteF (TR.of (TR.cmp (EV.name m6) EV.int CmpD.ge) (decide_eq_false (by lia))) (EV.of (EV.tuple (EVs.cons (EV.name m5) (EVs.cons (EV.bin EV.int (EV.bin EV.int (EV.name m6) BinD.sub) (BinD.shl ?_ ?_)) EVs.nil))) ?_)
        · lia
        · rw [intBits_one]; lia
        · rw [show e.toNat = 0 by lia, Nat.pow_zero, Nat.mul_one, Int.one_mul, Int.zero_sub, pow2_cast]
      · with_reducible refine' EV.iteT (TR.of (TR.cmp (EV.name m6) EV.int CmpD.ge) (decide_eq_true h0)) (EV.of (EV.tuple (EVs.cons (EV.bin (EV.name m5) (EV.name m6) (BinD.shl ?_ ?_)) (EVs.cons EV.int EVs.nil))) ?_)
        · exact h0
        · rw [intBits_nat]; have := bits_le_of m90; lia
        · rw [show (-e).toNat = 0 by lia, Nat.pow_zero, pow2_cast, ← Int.natCast_mul]; rfl
    with_reducible refine' EX.assign (EV.call m23 (EVs.cons (EV.name m3) (EVs.cons (EV.name m7) EVs.nil)) w1 (by decide)) p10 ?_
    with_reducible refine' EX.assign (EV.call m24 (EVs.cons (EV.name m10) EVs.nil) w3 (by decide)) p11 ?_
    have key1 : (isNone (.tup [.int (n : Nat), .int P]) || ((!true) || false)) = false := rfl
    with_reducible refine' EX.iteF (TR.of (TR.or (TR.cmp (EV.name m11) EV.none CmpD.isNone) (fun h => TR.or (TR.not (TR.plain (EV.call m25 (EVs.cons (EV.name m3) (EVs.cons (EV.name m11) (EVs.cons (EV.name m8) (EVs.cons (EV.name m9) (EVs.cons (EV.name m7) EVs.nil))))) w4 (by decide)))) (fun h => TR.or_nil))) key1) ?_
    refine EX.pop ?_
    with_reducible refine' EX.assign (EV.call m26 (EVs.cons (EV.bin EV.int (EV.attr (EV.name m7) (AttrOk.of F.Real F.Real_mantissa) f_Real_mantissa) BinD.sub) (EVs.cons (EV.attr (EV.name m7) (AttrOk.of F.Real F.Real_exponent) f_Real_exponent) EVs.nil)) (Real_gf F (0 - (2 * (b : Int) + 1)) (e + z)) (by decide)) p12 ?_
    have key2 : (!decide (S (45 :: W) = Str.ofString "-" ++ S W)) = false := by rw [S_minus, S_cat, decide_eq_true (by rfl)]; rfl
    with_reducible refine' EX.iteF (TR.of (TR.cmp (EV.call m23 (EVs.cons (EV.name m3) (EVs.cons (EV.name m12) EVs.nil)) w2 (by decide)) (EV.bin EV.str (EV.name m10) (BinD.cat ?_)) CmpD.neS) key2) ?_
    · rw [S_minus, S_len, S_len]; unfold sizeLine; simp; lia
    refine EX.pop ?_
    with_reducible refine' EX.assignM (EVM.call m21 (EVsM.cons (EVM.of (EV.name m1)) (EVsM.cons (EVM.of (EV.list (EVs.cons EV.int (EVs.cons EV.int (EVs.cons EV.int (EVs.cons EV.int EVs.nil)))))) EVsM.nil)) g5 (by decide)) p13 ?_
    obtain ⟨V1, t1, b1⟩ := w6 r hr _ (.inl rfl)
    obtain ⟨V2, t2, b2⟩ := w6 r hr _ (.inr rfl)
    have key3 : ∀ i j : Int, ((!true) || ((!(i == i && j == j)) || false)) = false := fun i j => by simp
    with_reducible refine' EX.for_ (IterE.of (EV.list (EVs.cons (EV.name m7) (EVs.cons (EV.name m12) EVs.nil))) IterD.lst) (FL.turn p14 (EX.assign (EV.call m27 (EVs.cons (EV.name m3) (EVs.cons (EV.call m23 (EVs.cons (EV.name m3) (EVs.cons (EV.name m14) (EVs.cons (EV.name m13) EVs.nil))) t1 (by decide)) (EVs.cons (EV.name m13) EVs.nil))) b1 (by decide)) p15 (EX.iteF (TR.of (TR.or (TR.not (TR.plain (EV.blt m28 F.no_isinstance bt_isinstance (EVs.cons (EV.name m15) (EVs.cons (EV.glo F.g_Real m26) EVs.nil)) BCall.isi))) (fun h => TR.or (TR.cmp (EV.tuple (EVs.cons (EV.attr (EV.name m15) (AttrOk.of F.Real F.Real_mantissa) f_Real_mantissa) (EVs.cons (EV.attr (EV.name m15) (AttrOk.of F.Real F.Real_exponent) f_Real_exponent) EVs.nil))) (EV.tuple (EVs.cons (EV.attr (EV.name m14) (AttrOk.of F.Real F.Real_mantissa) f_Real_mantissa) (EVs.cons (EV.attr (EV.name m14) (AttrOk.of F.Real F.Real_exponent) f_Real_exponent) EVs.nil))) CmpD.neP) (fun h => TR.or_nil))) (key3 _ _)) (EX.pop EX.nil))) SameHas.lst (FL.turn p14 (EX.assign (EV.call m27 (EVs.cons (EV.name m3) (EVs.cons (EV.call m23 (EVs.cons (EV.name m3) (EVs.cons (EV.name m14) (EVs.cons (EV.name m13) EVs.nil))) t2 (by decide)) (EVs.cons (EV.name m13) EVs.nil))) b2 (by decide)) p15 (EX.iteF (TR.of (TR.or (TR.not (TR.plain (EV.blt m28 F.no_isinstance bt_isinstance (EVs.cons (EV.name m15) (EVs.cons (EV.glo F.g_Real m26) EVs.nil)) BCall.isi))) (fun h => TR.or (TR.cmp (EV.tuple (EVs.cons (EV.attr (EV.name m15) (AttrOk.of F.Real F.Real_mantissa) f_Real_mantissa) (EVs.cons (EV.attr (EV.name m15) (AttrOk.of F.Real F.Real_exponent) f_Real_exponent) EVs.nil))) (EV.tuple (EVs.cons (EV.attr (EV.name m14) (AttrOk.of F.Real F.Real_mantissa) f_Real_mantissa) (EVs.cons (EV.attr (EV.name m14) (AttrOk.of F.Real F.Real_exponent) f_Real_exponent) EVs.nil))) CmpD.neP) (fun h => TR.or_nil))) (key3 _ _)) (EX.pop EX.nil))) SameHas.lst (FL.done (EX.nilW ?_))))
    (with_reducible repeat' (first | exact Weak.nil | refine Weak.keep ?_ | refine Weak.drop ?_))
end Mine
end
section
-- K1
open PySem PySem.W PyProof.Rows
set_option Elab.async false
set_option linter.all false
set_option maxRecDepth 100000
set_option exponentiation.threshold 30000
namespace Mine
/-- a def as the top holds it -/
noncomputable def fnData (K : Frag) (f : Addr) : Option FuncData := match K.lookup f with
  | some ⟨_, _, .func fd, _⟩ => some fd
  | _ => none
structure Sig where
  args : List Arg
  body : FuncBody
  scope : Scope
  globals : Addr
  closure : List (Str × Addr)
  builtins : Addr
noncomputable def sigOf (s : Stmt) : Sig := ⟨argsOf s, .stmts (bodyOf s), scopeOf s, mainGlobals, [], builtinsNs⟩
noncomputable def fnSig (K : Frag) (f : Addr) : Option Sig := (fnData K f).map fun fd => ⟨fd.params.args, fd.body, fd.scope, fd.globals, fd.closure, fd.builtins⟩
noncomputable def isNil {α : Type} : List α → Bool
  | [] => true
  | _ => false
/-- no argument but plain ones -/
noncomputable def plainPar (p : Arguments) : Bool := isNil p.posonlyargs && p.vararg.isNone && isNil p.kwonlyargs && isNil p.kw_defaults && p.kwarg.isNone
noncomputable def fnLook (K : Frag) (f : Addr) : Bool := (fnData K f).any fun fd => plainPar fd.params && codeIn K fd.code fd.qualname
noncomputable def noDef (K : Frag) (f : Addr) : Bool := (fnData K f).any fun fd => match fd.defaults with | .none => true | _ => false
theorem nil_of {α : Type} {l : List α} (h : isNil l = true) : l = [] := by cases l with | nil => rfl | cons => cases h
theorem none_of {α : Type} {l : Option α} (h : l.isNone = true) : l = none := by cases l with | none => rfl | some => cases h
theorem FnAt.of0 {c : Cx} {f : Addr} {s : Stmt} {dd : List D} {ex : List Value} (h : fnSig c.K f = some (sigOf s)) (hl : fnLook c.K f = true) (hb : ∀ fd, fnData c.K f = some fd → ∀ (s' : Shared) (vs : List Value), c.K.In s'.heap → vs.length + dd.length = (argsOf s).length → BindsTo s' fd ⟨vs, []⟩ (((argsOf s).map (·.arg)).zip (vs ++ ex))) (hr : ∀ S h, Reps S h dd ex) : FnSt c f s dd := by
  cases hf : fnData c.K f with
  | none => rw [fnSig, hf] at h; cases h
  | some fd =>
    rw [fnSig, hf] at h
    simp only [Option.map_some, Option.some.injEq, sigOf, Sig.mk.injEq] at h
    obtain ⟨_, h2, h3, h4, h5, h6⟩ := h
    rw [fnLook, hf] at hl
    simp only [Option.any_some, Bool.and_eq_true] at hl
    have hb := hb fd hf
    unfold fnData at hf
    split at hf
    · rename_i cl dc fd' sl ho
      cases hf
      exact ⟨⟨_, fd, ex, ho, rfl, h2, h3, h4, h5, h6, hl.2, hr, hb⟩⟩
    · cases hf
theorem FnAt.plain {c : Cx} {f : Addr} {s : Stmt} (h : fnSig c.K f = some (sigOf s)) (hl : fnLook c.K f = true) (hd : noDef c.K f = true) (hn : allFresh ((argsOf s).map (·.arg)) = true) : FnSt c f s [] := by
  refine FnAt.of0 (dd := []) (ex := []) h hl (fun fd hf s' vs X hv => ?_) fun _ _ => by simp [Reps]
  rw [fnSig, hf] at h
  simp only [Option.map_some, Option.some.injEq, sigOf, Sig.mk.injEq] at h
  rw [fnLook, hf] at hl
  simp only [Option.any_some, Bool.and_eq_true, plainPar] at hl
  obtain ⟨⟨⟨⟨⟨l1, l2⟩, l3⟩, l4⟩, l5⟩, _⟩ := hl
  rw [noDef, hf] at hd
  have hd' : fd.defaults = .none := by
    simp only [Option.any_some] at hd
    split at hd
    · assumption
    · cases hd
  rw [List.append_nil]
  refine BindsTo.of_eq (bind_plain (ds := fd.params.defaults) ?_ hd' (by simpa using hv) (allFresh_nodup hn))
  obtain ⟨h1, _⟩ := h
  have e1 := nil_of l1
  have e2 := none_of l2
  have e3 := nil_of l3
  have e4 := nil_of l4
  have e5 := none_of l5
  revert h1 e1 e2 e3 e4 e5
  cases fd.params
  intro h1 e1 e2 e3 e4 e5
  subst h1 e1 e2 e3 e4 e5
  rfl
noncomputable def nmT : List (String × Addr) := [("is_real", 81), ("size_of", 88), ("sign_of_whole", 95), ("zeros_below", 102), ("lean", 109), ("nearest_shift", 116), ("shifted_round", 123), ("with_sticky", 130), ("rounded", 137), ("exact_parts", 144), ("place_of", 151), ("sign_of", 158), ("magnitude", 165), ("full_mantissa", 172), ("gcd_of", 200), ("made", 207), ("ratio_of", 214), ("figures_of", 222), ("whole_text", 229), ("exact_text", 236), ("with_lower_ones", 299), ("tens_above", 306), ("shortest_figures", 313), ("without_noughts", 320), ("laid_out", 327), ("decimal_text", 334), ("number_text", 342), ("worth_of", 349), ("are_figures", 354), ("parted", 361), ("read_whole", 389), ("read_ratio", 396), ("are_decimal_parts", 403), ("read_exponent", 410), ("mark_place", 415), ("read_mantissa", 422), ("read_decimal", 429), ("read_unsigned", 436), ("split_prefixes", 443), ("finished", 450), ("parse_number", 458), ("_law_draw", 465), ("_law_pick", 472), ("_law_deck", 477), ("_law_is_nearest", 484), ("_law_real", 491), ("_law_told", 498), ("_law_over", 505), ("_law_gap", 512), ("_law_is_worse", 519), ("_law_is_shortest", 524), ("law", 531), ("Real", 70), ("Ratio", 189), ("Surroundings", 288), ("Reading", 378), ("RADICES", 215)]
noncomputable def noT : List String := ["isinstance", "abs", "divmod", "min", "max", "len", "all", "int", "str", "range", "enumerate", "reversed"]
noncomputable def fnT : List (Addr × Stmt) := [(81, st 6), (88, st 7), (95, st 8), (102, st 9), (109, st 10), (116, st 11), (123, st 12), (130, st 13), (137, st 14), (144, st 15), (151, st 16), (158, st 17), (165, st 18), (172, st 19), (200, st 22), (207, st 23), (214, st 24), (222, st 32), (229, st 33), (236, st 34), (299, st 36), (306, st 37), (313, st 38), (320, st 39), (327, st 40), (334, st 41), (342, st 42), (349, st 43), (354, st 44), (361, st 45), (389, st 47), (396, st 48), (403, st 49), (410, st 50), (415, st 51), (422, st 52), (429, st 53), (436, st 54), (443, st 55), (450, st 56), (458, st 57), (465, st 59), (472, st 60), (477, st 61), (484, st 62), (491, st 63), (498, st 64), (505, st 65), (512, st 66), (519, st 67), (524, st 68), (531, st 69), (257, meth 35 1), (264, meth 35 2), (271, meth 35 3), (278, meth 35 4), (285, meth 35 5), (67, meth 5 0), (186, meth 21 0), (250, meth 35 0), (375, meth 46 0)]
noncomputable def plT : List (Addr × Stmt) := [(81, st 6), (88, st 7), (95, st 8), (102, st 9), (109, st 10), (116, st 11), (123, st 12), (130, st 13), (137, st 14), (144, st 15), (151, st 16), (158, st 17), (165, st 18), (172, st 19), (200, st 22), (207, st 23), (214, st 24), (222, st 32), (229, st 33), (236, st 34), (299, st 36), (306, st 37), (313, st 38), (320, st 39), (327, st 40), (334, st 41), (349, st 43), (354, st 44), (361, st 45), (389, st 47), (396, st 48), (403, st 49), (410, st 50), (415, st 51), (422, st 52), (429, st 53), (436, st 54), (443, st 55), (450, st 56), (465, st 59), (472, st 60), (477, st 61), (484, st 62), (491, st 63), (498, st 64), (505, st 65), (512, st 66), (519, st 67), (524, st 68), (531, st 69), (257, meth 35 1), (264, meth 35 2), (271, meth 35 3), (278, meth 35 4), (285, meth 35 5), (67, meth 5 0), (186, meth 21 0), (250, meth 35 0), (375, meth 46 0)]
noncomputable def keT : List Addr := [70, 81, 88, 95, 102, 109, 116, 123, 130, 137, 144, 151, 158, 165, 172, 189, 200, 207, 214, 222, 229, 236, 257, 264, 271, 278, 285, 288, 299, 306, 313, 320, 327, 334, 342, 349, 354, 361, 378, 389, 396, 403, 410, 415, 422, 429, 436, 443, 450, 458, 465, 472, 477, 484, 491, 498, 505, 512, 519, 524, 531]
noncomputable def clT : List (Addr × Addr) := [(70, 67), (189, 186), (288, 250), (378, 375)]
noncomputable def atT : List (Addr × String) := [(70, "mantissa"), (70, "exponent"), (189, "top"), (189, "bottom"), (288, "here"), (288, "low"), (288, "high"), (288, "has_ends"), (288, "top"), (288, "bottom"), (378, "top"), (378, "bottom"), (378, "is_exact")]
noncomputable def meT : List (String × Addr) := [("over_power", 257), ("least_multiple", 264), ("greatest_multiple", 271), ("gap", 278), ("nearest_multiple", 285)]
theorem freshT : (plT.all fun p => allFresh ((argsOf p.2).map (·.arg))) = true := by decide +kernel
noncomputable def clsLook (K : Frag) (C fI : Addr) : Bool := makesIn K C && findIn K (.ref C) "__init__" == some (some (.ref fI)) && typeIn K (.ref fI) == some (.type "function") && hasDictIn K C &&
  findIn K (.ref C) "__getattribute__" == some (some (.builtin "object.__getattribute__")) && findIn K (.ref C) "__getattr__" == some none && findIn K (.ref C) "__setattr__" == some (some (.builtin "object.__setattr__")) && plainOver K C && (clsIn K C).any (·.hasDict)
noncomputable def intLook (K : Frag) (x : String) (i : Int) : Bool := match nsIn K mainGlobals (Str.ofString x) with
  | some (some (.int j _)) => j == i
  | _ => false
noncomputable def strLook (K : Frag) (x : String) (i : Str) : Bool := match nsIn K mainGlobals (Str.ofString x) with
  | some (some (.str j _)) => sq j i
  | _ => false
/-- all that is looked up of the top -/
noncomputable def topLook (K : Frag) : Bool :=
  (nmT.all fun p => nsIn K mainGlobals (Str.ofString p.1) == some (some (.ref p.2))) && (noT.all fun x => nsIn K mainGlobals (Str.ofString x) == some none) &&
  (keT.all fun a => keepIn K (.ref a)) && (clT.all fun p => clsLook K p.1 p.2) && (atT.all fun p => findIn K (.ref p.1) (Str.ofString p.2) == some none) &&
  (meT.all fun p => findIn K (.ref 288) (Str.ofString p.1) == some (some (.ref p.2)) && typeIn K (.ref p.2) == some (.type "function")) &&
  (fnT.all fun p => fnLook K p.1) && (plT.all fun p => noDef K p.1) && isNotIn K "int" 189 &&
  intLook K "REACH" 65536 && intLook K "MOST_EXPONENT_FIGURES" 5 && intLook K "MOST_BEFORE_POINT" 21 && intLook K "MOST_NOUGHTS_BEHIND_POINT" 6 &&
  strLook K "FIGURES" (Str.ofString "0123456789abcdef") && strLook K "MARKS" (Str.ofString "esfdl")
noncomputable def argNames (s : Stmt) : List Str := (argsOf s).map (·.arg)
theorem BindsTo.of_look {K : Frag} {f : Addr} {fd : FuncData} {s : Shared} {args : Args} {binds : List (Str × Value)} (X : K.In s.heap) (hf : fnData K f = some fd) (h : ∀ S, ((fnData K f).bind fun fd => peek K S (bindArgs fd args)) = some binds) : BindsTo s fd args binds :=
  kp_binds X fun S => by have := h S; rw [hf] at this; exact this
theorem FnAt.three {c : Cx} {f : Addr} {s : Stmt} (h : fnSig c.K f = some (sigOf s)) (hl : fnLook c.K f = true) (hn : (argsOf s).length = 3) (hb : ∀ S u v w, ((fnData c.K f).bind fun fd => peek c.K S (bindArgs fd ⟨[u, v, w], []⟩)) = some ((argNames s).zip [u, v, w])) : FnSt c f s [] :=
  FnAt.of0 (dd := []) (ex := []) h hl (fun fd hf s' vs X hv => by
    rw [hn] at hv
    match vs, hv with
    | [u, v, w], _ => exact BindsTo.of_look X hf fun S => hb S u v w) fun _ _ => by simp [Reps]
theorem FnAt.two {c : Cx} {f : Addr} {s : Stmt} {i : Int} {t : Tok} (h : fnSig c.K f = some (sigOf s)) (hl : fnLook c.K f = true) (hn : (argsOf s).length = 3) (hb : ∀ S u v, ((fnData c.K f).bind fun fd => peek c.K S (bindArgs fd ⟨[u, v], []⟩)) = some ((argNames s).zip [u, v, .int i t])) : FnSt c f s [.int i] :=
  FnAt.of0 (dd := [.int i]) (ex := [.int i t]) h hl (fun fd hf s' vs X hv => by
    rw [hn] at hv
    match vs, hv with
    | [u, v], _ => exact BindsTo.of_look X hf fun S => hb S u v) fun _ _ => by simp [Reps, Rep]
theorem Facts.of {c : Cx} {t : Tok} (hg : ∀ x v, nsIn c.K mainGlobals x = some (some v) → c.mg x = some v) (h0 : ∀ x, nsIn c.K mainGlobals x = some none → c.mg x = none) (hB : topLook c.K = true) (hS : (fnT.map fun p => fnSig c.K p.1) = fnT.map fun p => some (sigOf p.2))
    (b1 : ∀ S u v w, ((fnData c.K 342).bind fun fd => peek c.K S (bindArgs fd ⟨[u, v, w], []⟩)) = some ((argNames (st 42)).zip [u, v, w])) (b2 : ∀ S u v, ((fnData c.K 342).bind fun fd => peek c.K S (bindArgs fd ⟨[u, v], []⟩)) = some ((argNames (st 42)).zip [u, v, .int 10 t]))
    (b3 : ∀ S u v w, ((fnData c.K 458).bind fun fd => peek c.K S (bindArgs fd ⟨[u, v, w], []⟩)) = some ((argNames (st 57)).zip [u, v, w])) (hT : ∀ h, c.K.In h → StrTab c.prog c.w h 215 (radD.map fun p => (PyData.str p.1, p.2))) : Facts c := by
  simp only [topLook, Bool.and_eq_true, List.all_eq_true, beq_iff_eq] at hB
  obtain ⟨⟨⟨⟨⟨⟨⟨⟨⟨⟨⟨⟨⟨⟨q1, q2⟩, q3⟩, q4⟩, q5⟩, q6⟩, q7⟩, q8⟩, q9⟩, q10⟩, q11⟩, q12⟩, q13⟩, q14⟩, q15⟩ := hB
  have hS := List.map_inj_left.mp hS
  have fr := List.all_eq_true.mp freshT
  have pl : ∀ f s, (f, s) ∈ fnT → (f, s) ∈ plT → FnSt c f s [] := fun f s m m' => FnAt.plain (hS _ m) (q7 _ m) (q8 _ m') (fr _ m')
  have fn : ∀ x f s, (x, f) ∈ nmT → f ∈ keT → (f, s) ∈ fnT → (f, s) ∈ plT → FnG c x f s [] := fun x f s m1 m2 m3 m4 => ⟨hg _ _ (q1 _ m1), q3 _ m2, pl f s m3 m4⟩
  have cl : ∀ x C fI, (x, C) ∈ nmT → C ∈ keT → (C, fI) ∈ clT → ClsG c x C fI := fun x C fI m1 m2 m3 => by
    have := q4 _ m3
    simp only [clsLook, Bool.and_eq_true, beq_iff_eq] at this
    obtain ⟨⟨⟨⟨⟨⟨⟨⟨a1, a2⟩, a3⟩, a4⟩, a5⟩, a6⟩, a7⟩, a8⟩, a9⟩ := this
    exact ⟨hg _ _ (q1 _ m1), q3 _ m2, ⟨a1, a2, a3⟩, a4, a5, a6, a7, a8, a9⟩
  have me : ∀ x f s, (x, f) ∈ meT → f ∈ keT → (f, s) ∈ fnT → (f, s) ∈ plT → MeG c 288 x f s := fun x f s m1 m2 m3 m4 => ⟨(q6 _ m1).1, (q6 _ m1).2, q3 _ m2, pl f s m3 m4⟩
  have nt : ∀ x, x ∈ noT → c.mg (Str.ofString x) = none := fun x m => h0 _ (q2 _ m)
  have gi : ∀ x i, intLook c.K x i = true → GlD c (Str.ofString x) (.int i) := fun x i h => by
    unfold intLook at h
    split at h
    · rename_i j t e
      have := beq_iff_eq.mp h
      subst this
      exact ⟨_, hg _ _ e, fun _ _ => by simp [Rep]⟩
    · cases h
  have gs : ∀ x i, strLook c.K x i = true → GlD c (Str.ofString x) (.str i) := fun x i h => by
    unfold strLook at h
    split at h
    · rename_i j t e
      have := sq_iff.mp h
      subst this
      exact ⟨_, hg _ _ e, fun _ _ => by simp [Rep]⟩
    · cases h
  have gr : ∀ x a, (x, a) ∈ nmT → GlD c (Str.ofString x) (.ptr a) := fun x a m => ⟨_, hg _ _ (q1 _ m), fun _ _ => by simp [Rep]⟩
  exact {
    Real := cl _ _ _ (List.mem_of_getElem? (i := 52) rfl) (List.mem_of_getElem? (i := 0) rfl) (List.mem_of_getElem? (i := 0) rfl)
    Real_i := pl _ _ (List.mem_of_getElem? (i := 57) rfl) (List.mem_of_getElem? (i := 55) rfl)
    Real_mantissa := q5 _ (List.mem_of_getElem? (i := 0) rfl)
    Real_exponent := q5 _ (List.mem_of_getElem? (i := 1) rfl)
    Ratio := cl _ _ _ (List.mem_of_getElem? (i := 53) rfl) (List.mem_of_getElem? (i := 15) rfl) (List.mem_of_getElem? (i := 1) rfl)
    Ratio_i := pl _ _ (List.mem_of_getElem? (i := 58) rfl) (List.mem_of_getElem? (i := 56) rfl)
    Ratio_top := q5 _ (List.mem_of_getElem? (i := 2) rfl)
    Ratio_bottom := q5 _ (List.mem_of_getElem? (i := 3) rfl)
    Surroundings := cl _ _ _ (List.mem_of_getElem? (i := 54) rfl) (List.mem_of_getElem? (i := 27) rfl) (List.mem_of_getElem? (i := 2) rfl)
    Surroundings_i := pl _ _ (List.mem_of_getElem? (i := 59) rfl) (List.mem_of_getElem? (i := 57) rfl)
    Surroundings_here := q5 _ (List.mem_of_getElem? (i := 4) rfl)
    Surroundings_low := q5 _ (List.mem_of_getElem? (i := 5) rfl)
    Surroundings_high := q5 _ (List.mem_of_getElem? (i := 6) rfl)
    Surroundings_has_ends := q5 _ (List.mem_of_getElem? (i := 7) rfl)
    Surroundings_top := q5 _ (List.mem_of_getElem? (i := 8) rfl)
    Surroundings_bottom := q5 _ (List.mem_of_getElem? (i := 9) rfl)
    Reading := cl _ _ _ (List.mem_of_getElem? (i := 55) rfl) (List.mem_of_getElem? (i := 38) rfl) (List.mem_of_getElem? (i := 3) rfl)
    Reading_i := pl _ _ (List.mem_of_getElem? (i := 60) rfl) (List.mem_of_getElem? (i := 58) rfl)
    Reading_top := q5 _ (List.mem_of_getElem? (i := 10) rfl)
    Reading_bottom := q5 _ (List.mem_of_getElem? (i := 11) rfl)
    Reading_is_exact := q5 _ (List.mem_of_getElem? (i := 12) rfl)
    is_real := fn _ _ _ (List.mem_of_getElem? (i := 0) rfl) (List.mem_of_getElem? (i := 1) rfl) (List.mem_of_getElem? (i := 0) rfl) (List.mem_of_getElem? (i := 0) rfl)
    size_of := fn _ _ _ (List.mem_of_getElem? (i := 1) rfl) (List.mem_of_getElem? (i := 2) rfl) (List.mem_of_getElem? (i := 1) rfl) (List.mem_of_getElem? (i := 1) rfl)
    sign_of_whole := fn _ _ _ (List.mem_of_getElem? (i := 2) rfl) (List.mem_of_getElem? (i := 3) rfl) (List.mem_of_getElem? (i := 2) rfl) (List.mem_of_getElem? (i := 2) rfl)
    zeros_below := fn _ _ _ (List.mem_of_getElem? (i := 3) rfl) (List.mem_of_getElem? (i := 4) rfl) (List.mem_of_getElem? (i := 3) rfl) (List.mem_of_getElem? (i := 3) rfl)
    lean := fn _ _ _ (List.mem_of_getElem? (i := 4) rfl) (List.mem_of_getElem? (i := 5) rfl) (List.mem_of_getElem? (i := 4) rfl) (List.mem_of_getElem? (i := 4) rfl)
    nearest_shift := fn _ _ _ (List.mem_of_getElem? (i := 5) rfl) (List.mem_of_getElem? (i := 6) rfl) (List.mem_of_getElem? (i := 5) rfl) (List.mem_of_getElem? (i := 5) rfl)
    shifted_round := fn _ _ _ (List.mem_of_getElem? (i := 6) rfl) (List.mem_of_getElem? (i := 7) rfl) (List.mem_of_getElem? (i := 6) rfl) (List.mem_of_getElem? (i := 6) rfl)
    with_sticky := fn _ _ _ (List.mem_of_getElem? (i := 7) rfl) (List.mem_of_getElem? (i := 8) rfl) (List.mem_of_getElem? (i := 7) rfl) (List.mem_of_getElem? (i := 7) rfl)
    rounded := fn _ _ _ (List.mem_of_getElem? (i := 8) rfl) (List.mem_of_getElem? (i := 9) rfl) (List.mem_of_getElem? (i := 8) rfl) (List.mem_of_getElem? (i := 8) rfl)
    exact_parts := fn _ _ _ (List.mem_of_getElem? (i := 9) rfl) (List.mem_of_getElem? (i := 10) rfl) (List.mem_of_getElem? (i := 9) rfl) (List.mem_of_getElem? (i := 9) rfl)
    place_of := fn _ _ _ (List.mem_of_getElem? (i := 10) rfl) (List.mem_of_getElem? (i := 11) rfl) (List.mem_of_getElem? (i := 10) rfl) (List.mem_of_getElem? (i := 10) rfl)
    sign_of := fn _ _ _ (List.mem_of_getElem? (i := 11) rfl) (List.mem_of_getElem? (i := 12) rfl) (List.mem_of_getElem? (i := 11) rfl) (List.mem_of_getElem? (i := 11) rfl)
    magnitude := fn _ _ _ (List.mem_of_getElem? (i := 12) rfl) (List.mem_of_getElem? (i := 13) rfl) (List.mem_of_getElem? (i := 12) rfl) (List.mem_of_getElem? (i := 12) rfl)
    full_mantissa := fn _ _ _ (List.mem_of_getElem? (i := 13) rfl) (List.mem_of_getElem? (i := 14) rfl) (List.mem_of_getElem? (i := 13) rfl) (List.mem_of_getElem? (i := 13) rfl)
    gcd_of := fn _ _ _ (List.mem_of_getElem? (i := 14) rfl) (List.mem_of_getElem? (i := 16) rfl) (List.mem_of_getElem? (i := 14) rfl) (List.mem_of_getElem? (i := 14) rfl)
    made := fn _ _ _ (List.mem_of_getElem? (i := 15) rfl) (List.mem_of_getElem? (i := 17) rfl) (List.mem_of_getElem? (i := 15) rfl) (List.mem_of_getElem? (i := 15) rfl)
    ratio_of := fn _ _ _ (List.mem_of_getElem? (i := 16) rfl) (List.mem_of_getElem? (i := 18) rfl) (List.mem_of_getElem? (i := 16) rfl) (List.mem_of_getElem? (i := 16) rfl)
    figures_of := fn _ _ _ (List.mem_of_getElem? (i := 17) rfl) (List.mem_of_getElem? (i := 19) rfl) (List.mem_of_getElem? (i := 17) rfl) (List.mem_of_getElem? (i := 17) rfl)
    whole_text := fn _ _ _ (List.mem_of_getElem? (i := 18) rfl) (List.mem_of_getElem? (i := 20) rfl) (List.mem_of_getElem? (i := 18) rfl) (List.mem_of_getElem? (i := 18) rfl)
    exact_text := fn _ _ _ (List.mem_of_getElem? (i := 19) rfl) (List.mem_of_getElem? (i := 21) rfl) (List.mem_of_getElem? (i := 19) rfl) (List.mem_of_getElem? (i := 19) rfl)
    with_lower_ones := fn _ _ _ (List.mem_of_getElem? (i := 20) rfl) (List.mem_of_getElem? (i := 28) rfl) (List.mem_of_getElem? (i := 20) rfl) (List.mem_of_getElem? (i := 20) rfl)
    tens_above := fn _ _ _ (List.mem_of_getElem? (i := 21) rfl) (List.mem_of_getElem? (i := 29) rfl) (List.mem_of_getElem? (i := 21) rfl) (List.mem_of_getElem? (i := 21) rfl)
    shortest_figures := fn _ _ _ (List.mem_of_getElem? (i := 22) rfl) (List.mem_of_getElem? (i := 30) rfl) (List.mem_of_getElem? (i := 22) rfl) (List.mem_of_getElem? (i := 22) rfl)
    without_noughts := fn _ _ _ (List.mem_of_getElem? (i := 23) rfl) (List.mem_of_getElem? (i := 31) rfl) (List.mem_of_getElem? (i := 23) rfl) (List.mem_of_getElem? (i := 23) rfl)
    laid_out := fn _ _ _ (List.mem_of_getElem? (i := 24) rfl) (List.mem_of_getElem? (i := 32) rfl) (List.mem_of_getElem? (i := 24) rfl) (List.mem_of_getElem? (i := 24) rfl)
    decimal_text := fn _ _ _ (List.mem_of_getElem? (i := 25) rfl) (List.mem_of_getElem? (i := 33) rfl) (List.mem_of_getElem? (i := 25) rfl) (List.mem_of_getElem? (i := 25) rfl)
    number_text := ⟨hg _ _ (q1 _ (List.mem_of_getElem? (i := 26) rfl)), q3 _ (List.mem_of_getElem? (i := 34) rfl), FnAt.three (hS _ (List.mem_of_getElem? (i := 26) rfl)) (q7 _ (List.mem_of_getElem? (i := 26) rfl)) (by decide +kernel) b1⟩
    worth_of := fn _ _ _ (List.mem_of_getElem? (i := 27) rfl) (List.mem_of_getElem? (i := 35) rfl) (List.mem_of_getElem? (i := 27) rfl) (List.mem_of_getElem? (i := 26) rfl)
    are_figures := fn _ _ _ (List.mem_of_getElem? (i := 28) rfl) (List.mem_of_getElem? (i := 36) rfl) (List.mem_of_getElem? (i := 28) rfl) (List.mem_of_getElem? (i := 27) rfl)
    parted := fn _ _ _ (List.mem_of_getElem? (i := 29) rfl) (List.mem_of_getElem? (i := 37) rfl) (List.mem_of_getElem? (i := 29) rfl) (List.mem_of_getElem? (i := 28) rfl)
    read_whole := fn _ _ _ (List.mem_of_getElem? (i := 30) rfl) (List.mem_of_getElem? (i := 39) rfl) (List.mem_of_getElem? (i := 30) rfl) (List.mem_of_getElem? (i := 29) rfl)
    read_ratio := fn _ _ _ (List.mem_of_getElem? (i := 31) rfl) (List.mem_of_getElem? (i := 40) rfl) (List.mem_of_getElem? (i := 31) rfl) (List.mem_of_getElem? (i := 30) rfl)
    are_decimal_parts := fn _ _ _ (List.mem_of_getElem? (i := 32) rfl) (List.mem_of_getElem? (i := 41) rfl) (List.mem_of_getElem? (i := 32) rfl) (List.mem_of_getElem? (i := 31) rfl)
    read_exponent := fn _ _ _ (List.mem_of_getElem? (i := 33) rfl) (List.mem_of_getElem? (i := 42) rfl) (List.mem_of_getElem? (i := 33) rfl) (List.mem_of_getElem? (i := 32) rfl)
    mark_place := fn _ _ _ (List.mem_of_getElem? (i := 34) rfl) (List.mem_of_getElem? (i := 43) rfl) (List.mem_of_getElem? (i := 34) rfl) (List.mem_of_getElem? (i := 33) rfl)
    read_mantissa := fn _ _ _ (List.mem_of_getElem? (i := 35) rfl) (List.mem_of_getElem? (i := 44) rfl) (List.mem_of_getElem? (i := 35) rfl) (List.mem_of_getElem? (i := 34) rfl)
    read_decimal := fn _ _ _ (List.mem_of_getElem? (i := 36) rfl) (List.mem_of_getElem? (i := 45) rfl) (List.mem_of_getElem? (i := 36) rfl) (List.mem_of_getElem? (i := 35) rfl)
    read_unsigned := fn _ _ _ (List.mem_of_getElem? (i := 37) rfl) (List.mem_of_getElem? (i := 46) rfl) (List.mem_of_getElem? (i := 37) rfl) (List.mem_of_getElem? (i := 36) rfl)
    split_prefixes := fn _ _ _ (List.mem_of_getElem? (i := 38) rfl) (List.mem_of_getElem? (i := 47) rfl) (List.mem_of_getElem? (i := 38) rfl) (List.mem_of_getElem? (i := 37) rfl)
    finished := fn _ _ _ (List.mem_of_getElem? (i := 39) rfl) (List.mem_of_getElem? (i := 48) rfl) (List.mem_of_getElem? (i := 39) rfl) (List.mem_of_getElem? (i := 38) rfl)
    parse_number := ⟨hg _ _ (q1 _ (List.mem_of_getElem? (i := 40) rfl)), q3 _ (List.mem_of_getElem? (i := 49) rfl), FnAt.three (hS _ (List.mem_of_getElem? (i := 40) rfl)) (q7 _ (List.mem_of_getElem? (i := 40) rfl)) (by decide +kernel) b3⟩
    law_draw := fn _ _ _ (List.mem_of_getElem? (i := 41) rfl) (List.mem_of_getElem? (i := 50) rfl) (List.mem_of_getElem? (i := 41) rfl) (List.mem_of_getElem? (i := 39) rfl)
    law_pick := fn _ _ _ (List.mem_of_getElem? (i := 42) rfl) (List.mem_of_getElem? (i := 51) rfl) (List.mem_of_getElem? (i := 42) rfl) (List.mem_of_getElem? (i := 40) rfl)
    law_deck := fn _ _ _ (List.mem_of_getElem? (i := 43) rfl) (List.mem_of_getElem? (i := 52) rfl) (List.mem_of_getElem? (i := 43) rfl) (List.mem_of_getElem? (i := 41) rfl)
    law_is_nearest := fn _ _ _ (List.mem_of_getElem? (i := 44) rfl) (List.mem_of_getElem? (i := 53) rfl) (List.mem_of_getElem? (i := 44) rfl) (List.mem_of_getElem? (i := 42) rfl)
    law_real := fn _ _ _ (List.mem_of_getElem? (i := 45) rfl) (List.mem_of_getElem? (i := 54) rfl) (List.mem_of_getElem? (i := 45) rfl) (List.mem_of_getElem? (i := 43) rfl)
    law_told := fn _ _ _ (List.mem_of_getElem? (i := 46) rfl) (List.mem_of_getElem? (i := 55) rfl) (List.mem_of_getElem? (i := 46) rfl) (List.mem_of_getElem? (i := 44) rfl)
    law_over := fn _ _ _ (List.mem_of_getElem? (i := 47) rfl) (List.mem_of_getElem? (i := 56) rfl) (List.mem_of_getElem? (i := 47) rfl) (List.mem_of_getElem? (i := 45) rfl)
    law_gap := fn _ _ _ (List.mem_of_getElem? (i := 48) rfl) (List.mem_of_getElem? (i := 57) rfl) (List.mem_of_getElem? (i := 48) rfl) (List.mem_of_getElem? (i := 46) rfl)
    law_is_worse := fn _ _ _ (List.mem_of_getElem? (i := 49) rfl) (List.mem_of_getElem? (i := 58) rfl) (List.mem_of_getElem? (i := 49) rfl) (List.mem_of_getElem? (i := 47) rfl)
    law_is_shortest := fn _ _ _ (List.mem_of_getElem? (i := 50) rfl) (List.mem_of_getElem? (i := 59) rfl) (List.mem_of_getElem? (i := 50) rfl) (List.mem_of_getElem? (i := 48) rfl)
    law := fn _ _ _ (List.mem_of_getElem? (i := 51) rfl) (List.mem_of_getElem? (i := 60) rfl) (List.mem_of_getElem? (i := 51) rfl) (List.mem_of_getElem? (i := 49) rfl)
    number_text_d := FnAt.two (hS _ (List.mem_of_getElem? (i := 26) rfl)) (q7 _ (List.mem_of_getElem? (i := 26) rfl)) (by decide +kernel) b2
    Surroundings_over_power := me _ _ _ (List.mem_of_getElem? (i := 0) rfl) (List.mem_of_getElem? (i := 22) rfl) (List.mem_of_getElem? (i := 52) rfl) (List.mem_of_getElem? (i := 50) rfl)
    Surroundings_least_multiple := me _ _ _ (List.mem_of_getElem? (i := 1) rfl) (List.mem_of_getElem? (i := 23) rfl) (List.mem_of_getElem? (i := 53) rfl) (List.mem_of_getElem? (i := 51) rfl)
    Surroundings_greatest_multiple := me _ _ _ (List.mem_of_getElem? (i := 2) rfl) (List.mem_of_getElem? (i := 24) rfl) (List.mem_of_getElem? (i := 54) rfl) (List.mem_of_getElem? (i := 52) rfl)
    Surroundings_gap := me _ _ _ (List.mem_of_getElem? (i := 3) rfl) (List.mem_of_getElem? (i := 25) rfl) (List.mem_of_getElem? (i := 55) rfl) (List.mem_of_getElem? (i := 53) rfl)
    Surroundings_nearest_multiple := me _ _ _ (List.mem_of_getElem? (i := 4) rfl) (List.mem_of_getElem? (i := 26) rfl) (List.mem_of_getElem? (i := 56) rfl) (List.mem_of_getElem? (i := 54) rfl)
    no_isinstance := nt _ (List.mem_of_getElem? (i := 0) rfl)
    no_abs := nt _ (List.mem_of_getElem? (i := 1) rfl)
    no_divmod := nt _ (List.mem_of_getElem? (i := 2) rfl)
    no_min := nt _ (List.mem_of_getElem? (i := 3) rfl)
    no_max := nt _ (List.mem_of_getElem? (i := 4) rfl)
    no_len := nt _ (List.mem_of_getElem? (i := 5) rfl)
    no_all := nt _ (List.mem_of_getElem? (i := 6) rfl)
    no_int := nt _ (List.mem_of_getElem? (i := 7) rfl)
    no_str := nt _ (List.mem_of_getElem? (i := 8) rfl)
    no_range := nt _ (List.mem_of_getElem? (i := 9) rfl)
    no_enumerate := nt _ (List.mem_of_getElem? (i := 10) rfl)
    no_reversed := nt _ (List.mem_of_getElem? (i := 11) rfl)
    g_REACH := gi _ _ q10
    g_MEF := gi _ _ q11
    g_MBP := gi _ _ q12
    g_MNB := gi _ _ q13
    g_FIGURES := gs _ _ q14
    g_MARKS := gs _ _ q15
    g_Real := gr _ _ (List.mem_of_getElem? (i := 52) rfl)
    g_Ratio := gr _ _ (List.mem_of_getElem? (i := 53) rfl)
    g_RADICES := gr _ _ (List.mem_of_getElem? (i := 56) rfl)
    notRatio := q9
    radT := hT }
end Mine
end
section
-- K2
open PySem PySem.W PyProof.Rows
set_option Elab.async false
set_option linter.all false
set_option maxRecDepth 100000
set_option exponentiation.threshold 30000
namespace Mine
theorem ints_rep {S : Addr → Prop} {h : Heap} : ∀ {vs : List Value} {ns : List Int}, IntsAre vs ns → Reps S h (intD ns) vs
  | _, _, .nil => by simp [intD, Reps]
  | _, _, .cons n t r => by
    show Reps S h (.int n :: intD _) (.int n t :: _)
    simp only [Reps]
    exact ⟨_, _, rfl, by simp [Rep], ints_rep r⟩
theorem room9 : Room 9 callerA := ⟨rfl, by decide +kernel, by decide +kernel⟩
/-- the law, called by the statement -/
theorem law_end {K : Frag} {prog : Program} {w : World} {p : Program} {loose : List Str} {mean : ExcName → Option Value} {mg mb : Str → Option Value} {s : Shared} {fa a : Addr} {vs : List Value} {ns : List Int} {R : Result → Shared → Prop} {t : Tok}
    (T : Top p loose mean mg mb s.heap) (KX : K.In s.heap) (hK0 : (K.lookup builtinsNs).isNone = true) (hB : topLook K = true) (hS : (fnT.map fun p => fnSig K p.1) = fnT.map fun p => some (sigOf p.2))
    (b1 : ∀ S u v w, ((fnData K 342).bind fun fd => peek K S (bindArgs fd ⟨[u, v, w], []⟩)) = some ((argNames (st 42)).zip [u, v, w])) (b2 : ∀ S u v, ((fnData K 342).bind fun fd => peek K S (bindArgs fd ⟨[u, v], []⟩)) = some ((argNames (st 42)).zip [u, v, .int 10 t]))
    (b3 : ∀ S u v w, ((fnData K 458).bind fun fd => peek K S (bindArgs fd ⟨[u, v, w], []⟩)) = some ((argNames (st 57)).zip [u, v, w])) (r1 : KTD.tabLook KTD.flatLooks (fun b => K.lookup b) 215 radD = true) (r2 : KTD.hashesOf (fun b => K.lookup b) 215 = radD.map fun p => PyData.keyHash w.params p.1)
    (hmg : mg (Str.ofString "law") = some (.ref fa)) (hL : s.heap.IsList a vs.toArray) (hI : IntsAre vs ns) (hn : ¬ (63 : Int) < (ns.length : Nat))
    (hR : ∀ s', (∀ b o, s.heap.get? b = some o → s'.heap.get? b = some o) → (∃ h t, s' = { s with heap := h, toks := t }) → R (.ok (.ret (.bool true))) s') : codeAny (model prog w) callerA (.call (.ref fa) ⟨[.ref a], []⟩) R s := by
  let c : Cx := ⟨prog, w, mg, mb, K, hK0⟩
  have F : Facts c := Facts.of (c := c) (fun x v e => mg_of KX T.g e) (fun x e => mg_none_of KX T.g e) hB hS b1 b2 b3 fun h X => kt_tab_in prog w X r1 (allFresh_nodup (by decide +kernel)) r2
  obtain ⟨f, e, _, fn⟩ := law_gf F ns (by lia)
  have ef : f = .ref fa := by
    have : mg (Str.ofString "law") = some f := e
    rw [hmg] at this; cases this; rfl
  subst ef
  have hbs : (s.heap.get? builtinsNs).isSome = true := by obtain ⟨o, _, _, e, _⟩ := T.b; rw [e]; rfl
  have hk : K.lookup builtinsNs = none := by
    cases h : K.lookup builtinsNs with
    | none => rfl
    | some o => rw [h] at hK0; cases hK0
  have live : Live c (fun b => b = builtinsNs) s.heap := ⟨rfl, fun b hb => by
    rw [show b = builtinsNs from hb]
    exact ⟨hbs, hk, by decide, by decide⟩⟩
  have inn : c.In s.heap := ⟨KX, T.g, T.b, T.nolimit, T.builtins⟩
  have nb : a ≠ builtinsNs := by
    intro e
    obtain ⟨o, es, ep, e1, e2, _⟩ := T.b
    obtain ⟨o', f1, _, n, f2⟩ := hL
    rw [e, e1] at f1
    cases f1
    rw [e2] at f2
    cases f2
  refine fn (S := fun b => b = builtinsNs) room9 live inn ?_ fun v s' kp r => ?_
  · simp only [Reps, Rep]
    exact ⟨_, _, rfl, ⟨a, vs, rfl, nb, hL, ints_rep hI⟩, rfl⟩
  · rw [r.bool_inv]
    exact hR s' (fun b o e => kp.keep0 b o id e) kp.same
end Mine
end
section
-- the head
open PySem PySem.W PyProof.Rows
set_option Elab.async true
set_option maxRecDepth 100000
set_option maxHeartbeats 8000000
namespace Mine
noncomputable def holds.tw9638990691586225099 : Nat := 0
noncomputable def holds.tw4422276619278600727 : Nat := 0
noncomputable def holds.tw13860560629476652642 : Nat := 0
noncomputable def holds.tw2682973687022302978 : Nat := 0
noncomputable def holds.tw16568243084613897719 : Nat := 0
noncomputable def holds.tw13980644296350529377 : Nat := 0
noncomputable def holds.tw14374762386000251392 : Nat := 0
noncomputable def holds.tw11379536335273661636 : Nat := 0
noncomputable def holds.tw2936799095737714382 : Nat := 0
noncomputable def holds.tw8564859838321607590 : Nat := 0
noncomputable def holds.tw10322258209740374209 : Nat := 0
noncomputable def holds.tw8551410553514715252 : Nat := 0
noncomputable def holds.tw9321796208036801940 : Nat := 0
noncomputable def holds.tw4998001990490953706 : Nat := 0
noncomputable def holds.tw12736823529576279204 : Nat := 0
noncomputable def holds.tw4553857577973276502 : Nat := 0
noncomputable def holds.tw945861476033566700 : Nat := 0
noncomputable def holds.tw185807328385624810 : Nat := 0
noncomputable def holds.tw11612728935029869629 : Nat := 0
noncomputable def holds.tw7873036012977236159 : Nat := 0
noncomputable def holds.tw6735552807121987811 : Nat := 0
noncomputable def holds.tw8571184235532366510 : Nat := 0
noncomputable def holds.tw3280128972450656526 : Nat := 0
noncomputable def holds.tw16500857126356320474 : Nat := 0
noncomputable def holds.tw6606875086121380550 : Nat := 0
noncomputable def holds.tw3092724735428445279 : Nat := 0
noncomputable def holds.tw1569810199879761147 : Nat := 0
noncomputable def holds.tw9430090754398894584 : Nat := 0
noncomputable def holds.tw6489310206099298910 : Nat := 0
noncomputable def holds.tw9160933379109621080 : Nat := 0
noncomputable def holds.tw13651502964188933756 : Nat := 0
noncomputable def holds.tw4475622257904601326 : Nat := 0
noncomputable def holds.tw4197124852483764760 : Nat := 0
noncomputable def holds.tw685634667276709000 : Nat := 0
noncomputable def holds.tw3279077582325829838 : Nat := 0
noncomputable def holds.tw7145057240379410032 : Nat := 0
noncomputable def holds.tw6817751937963910627 : Nat := 0
noncomputable def holds.tw4772410448533662562 : Nat := 0
noncomputable def holds.tw14027143162585244968 : Nat := 0
noncomputable def holds.tw4624323801304008105 : Nat := 0
noncomputable def holds.tw4532548537324856634 : Nat := 0
noncomputable def holds.tw14456359579513077766 : Nat := 0
noncomputable def holds.tw1477864382951527211 : Nat := 0
noncomputable def holds.tw1672651397029140864 : Nat := 0
noncomputable def holds.tw15663057623668237757 : Nat := 0
noncomputable def holds.tw4485590747672999114 : Nat := 0
noncomputable def holds.tw9866653766423218390 : Nat := 0
noncomputable def holds.tw3930379177928381544 : Nat := 0
noncomputable def holds.tw10705761992013847755 : Nat := 0
noncomputable def holds.tw5315595546894873642 : Nat := 0
noncomputable def holds.tw6987649320729488474 : Nat := 0
noncomputable def holds.tw1986877004247180340 : Nat := 0
noncomputable def holds.tw9441326970708011783 : Nat := 0
noncomputable def holds.tw14751579383510745608 : Nat := 0
noncomputable def holds.tw14571696787620697854 : Nat := 0
noncomputable def holds.tw17294395744611713098 : Nat := 0
noncomputable def holds.tw12629177860411813126 : Nat := 0
noncomputable def holds.tw12762722769849151566 : Nat := 0
noncomputable def holds.tw6396523623945614605 : Nat := 0
noncomputable def holds.tw8102643725754146565 : Nat := 0
noncomputable def holds.tw5857794014393010482 : Nat := 0
noncomputable def holds.tw3210078786618844196 : Nat := 0
noncomputable def holds.tw5350216910946226995 : Nat := 0
noncomputable def holds.tw17450472940649059298 : Nat := 0
noncomputable def holds.tw8684541073956307770 : Nat := 0
noncomputable def holds.tw9408521175777228426 : Nat := 0
noncomputable def holds.tw5915465848944024539 : Nat := 0
noncomputable def holds.tw10292701021901942622 : Nat := 0
noncomputable def holds.tw12542415522573167287 : Nat := 0
noncomputable def holds.tw2003794701753356343 : Nat := 0
noncomputable def holds.tw11969870226463516586 : Nat := 0
noncomputable def holds.tw5647443022808110450 : Nat := 0
noncomputable def holds.tw17148229171239856432 : Nat := 0
noncomputable def holds.tw4496467784121089108 : Nat := 0
noncomputable def holds.tw9245723823536211039 : Nat := 0
noncomputable def holds.tw6816380694822836728 : Nat := 0
noncomputable def holds.tw17647985033660283594 : Nat := 0
noncomputable def holds.tw10817008591213730988 : Nat := 0
noncomputable def holds.tw13676757877788619591 : Nat := 0
noncomputable def holds.tw6871585250140865760 : Nat := 0
noncomputable def holds.tw10677865647760817919 : Nat := 0
noncomputable def holds.tw854715265852234644 : Nat := 0
noncomputable def holds.tw10637851664137882224 : Nat := 0
noncomputable def holds.tw4381757428849502282 : Nat := 0
noncomputable def holds.tw9072656965561520583 : Nat := 0
noncomputable def holds.tw1974762919298152056 : Nat := 0
noncomputable def holds.tw11866763835798034582 : Nat := 0
noncomputable def holds.tw11341941285841758863 : Nat := 0
noncomputable def holds.tw14271935136423247726 : Nat := 0
noncomputable def holds.tw7400771686186127474 : Nat := 0
noncomputable def holds.tw7221694943082674061 : Nat := 0
noncomputable def holds.tw11502601298335438083 : Nat := 0
noncomputable def holds.tw10494946348260405530 : Nat := 0
noncomputable def holds.tw6027180799015181879 : Nat := 0
noncomputable def holds.tw13219762378693318442 : Nat := 0
noncomputable def holds.tw11413208387583891290 : Nat := 0
noncomputable def holds.tw13942211991455542721 : Nat := 0
noncomputable def holds.tw14400433609042604536 : Nat := 0
noncomputable def holds.tw3117193011312037209 : Nat := 0
noncomputable def holds.tw9569093901706499007 : Nat := 0
noncomputable def holds.tw14947864908287233490 : Nat := 0
noncomputable def holds.tw10840139340582571922 : Nat := 0
noncomputable def holds.tw15985840036639034899 : Nat := 0
noncomputable def holds.tw4079574721724423606 : Nat := 0
noncomputable def holds.tw8115153917610635543 : Nat := 0
noncomputable def holds.tw9518972631687950247 : Nat := 0
noncomputable def holds.tw13563289320671947111 : Nat := 0
noncomputable def holds.tw2752272122444995253 : Nat := 0
noncomputable def holds.tw11590370405621059529 : Nat := 0
noncomputable def holds.tw10876536743886354276 : Nat := 0
noncomputable def holds.tw16887932952891968693 : Nat := 0
noncomputable def holds.tw15733542881966949079 : Nat := 0
noncomputable def holds.tw5898628582698610718 : Nat := 0
noncomputable def holds.tw14040500308302212198 : Nat := 0
noncomputable def holds.tw4231579422208925257 : Nat := 0
noncomputable def holds.tw16725066886706607050 : Nat := 0
noncomputable def holds.tw8163853742193369449 : Nat := 0
noncomputable def holds.tw7791430327242384495 : Nat := 0
noncomputable def holds.tw17549760099613038055 : Nat := 0
noncomputable def holds.tw9284948610034456067 : Nat := 0
noncomputable def holds.tw4796666493748621973 : Nat := 0
noncomputable def holds.tw12354433232887552844 : Nat := 0
noncomputable def holds.tw4137054072099604216 : Nat := 0
noncomputable def holds.tw2277698456845511444 : Nat := 0
noncomputable def holds.tw12553914923479104506 : Nat := 0
noncomputable def holds.tw14064534554856164141 : Nat := 0
noncomputable def holds.tw12091882185175152326 : Nat := 0
noncomputable def holds.tw17040301576142915119 : Nat := 0
noncomputable def holds.tw10009309266167291388 : Nat := 0
noncomputable def holds.tw9107170298555381705 : Nat := 0
noncomputable def holds.tw2697976716319701033 : Nat := 0
noncomputable def holds.tw7877780744568003191 : Nat := 0
noncomputable def holds.tw2167384251425162797 : Nat := 0
noncomputable def holds.tw16497969686579978388 : Nat := 0
noncomputable def holds.tw14747351113905286367 : Nat := 0
noncomputable def holds.tw12461706298059298081 : Nat := 0
noncomputable def holds.tw7365562674294520451 : Nat := 0
noncomputable def holds.tw7885888744534978006 : Nat := 0
noncomputable def holds.tw151567797773009622 : Nat := 0
noncomputable def holds.tw4695128735345963622 : Nat := 0
noncomputable def holds.tw12095597400677081514 : Nat := 0
noncomputable def holds.tw6305404595935261976 : Nat := 0
noncomputable def holds.tw16697607604324151607 : Nat := 0
noncomputable def holds.tw14856189802965030758 : Nat := 0
noncomputable def holds.tw15296638952792297585 : Nat := 0
noncomputable def holds.tw4374827463496512255 : Nat := 0
noncomputable def holds.tw11566098377363298415 : Nat := 0
noncomputable def holds.tw1032644102275906610 : Nat := 0
noncomputable def holds.tw16034146489351607153 : Nat := 0
noncomputable def holds.tw5531990279233569197 : Nat := 0
noncomputable def holds.tw17087466662150396210 : Nat := 0
noncomputable def holds.tw9855210162650666830 : Nat := 0
noncomputable def holds.tw16038506435190897172 : Nat := 0
noncomputable def holds.tw14777700561071354170 : Nat := 0
noncomputable def holds.tw2630425667648177072 : Nat := 0
noncomputable def holds.tw16281141667863336784 : Nat := 0
noncomputable def holds.tw5583946556138506119 : Nat := 0
noncomputable def holds.tw13416111870119765123 : Nat := 0
noncomputable def holds.tw13306226422529918579 : Nat := 0
noncomputable def holds.tw4408763645494598628 : Nat := 0
noncomputable def holds.tw7580357766596436714 : Nat := 0
noncomputable def holds.tw4659233104850659043 : Nat := 0
noncomputable def holds.tw3969078344035082030 : Nat := 0
noncomputable def holds.tw150268843892594924 : Nat := 0
noncomputable def holds.tw303617358959260456 : Nat := 0
noncomputable def holds.tw13564983018704479910 : Nat := 0
noncomputable def holds.tw13108245259352980691 : Nat := 0
noncomputable def holds.tw8253004272172430988 : Nat := 0
noncomputable def holds.tw1438057683635843531 : Nat := 0
noncomputable def holds.tw2395783193375807797 : Nat := 0
noncomputable def holds.tw150996046204071931 : Nat := 0
noncomputable def holds.tw10066566674380323332 : Nat := 0
noncomputable def holds.tw4921510776622977656 : Nat := 0
noncomputable def holds.tw2296293446034493066 : Nat := 0
noncomputable def holds.tw5635654813233479639 : Nat := 0
noncomputable def holds.tw2720468260678641542 : Nat := 0
noncomputable def holds.tw12870647732520690006 : Nat := 0
noncomputable def holds.tw15349486494167490861 : Nat := 0
noncomputable def holds.tw16569799976186059295 : Nat := 0
noncomputable def holds.tw4529002996912422141 : Nat := 0
noncomputable def holds.tw6654929391614583909 : Nat := 0
noncomputable def holds.tw9367411864662104596 : Nat := 0
noncomputable def holds.tw3466363876706589048 : Nat := 0
noncomputable def holds.tw2562329033357795767 : Nat := 0
noncomputable def holds.tw1389151227800987198 : Nat := 0
noncomputable def holds.tw10684964147190113176 : Nat := 0
noncomputable def holds.tw15383290158734973844 : Nat := 0
noncomputable def holds.tw11210861575573996130 : Nat := 0
noncomputable def holds.tw17533166617710000329 : Nat := 0
noncomputable def holds.tw7840918076549728228 : Nat := 0
noncomputable def holds.tw4043779546988386903 : Nat := 0
noncomputable def holds.tw7405762614669717487 : Nat := 0
noncomputable def holds.tw5588498093969417903 : Nat := 0
noncomputable def holds.tw10595842591828190984 : Nat := 0
noncomputable def holds.tw1466284255255076664 : Nat := 0
noncomputable def holds.tw11899092608841805274 : Nat := 0
noncomputable def holds.tw14432740918813763817 : Nat := 0
noncomputable def holds.tw10280545108713110612 : Nat := 0
noncomputable def holds.tw13130249910395747862 : Nat := 0
noncomputable def holds.tw8393340031374782525 : Nat := 0
noncomputable def holds.tw3339025504875072537 : Nat := 0
noncomputable def holds.tw1154197751520073318 : Nat := 0
noncomputable def holds.tw2422663375537807432 : Nat := 0
noncomputable def holds.tw5006882278849481289 : Nat := 0
noncomputable def holds.tw8006095370074002437 : Nat := 0
noncomputable def holds.tw7074641181814816541 : Nat := 0
noncomputable def holds.tw5299926105247538484 : Nat := 0
noncomputable def holds.tw341249449185904685 : Nat := 0
noncomputable def holds.tw1316056555746827224 : Nat := 0
noncomputable def holds.tw12135579543755162760 : Nat := 0
noncomputable def holds.tw10576265454180977796 : Nat := 0
noncomputable def holds.tw18202751451028033538 : Nat := 0
noncomputable def holds.tw15969937429085165904 : Nat := 0
noncomputable def holds.tw14438757958421221462 : Nat := 0
noncomputable def holds.tw10634055019105834221 : Nat := 0
noncomputable def holds.tw4500180452004054980 : Nat := 0
noncomputable def holds.tw8868040359437915812 : Nat := 0
noncomputable def holds.tw17642598502550569490 : Nat := 0
noncomputable def holds.tw3393808461323943489 : Nat := 0
noncomputable def holds.tw17094759248423572775 : Nat := 0
noncomputable def holds.tw7753079526450916859 : Nat := 0
noncomputable def holds.tw17631178891982236634 : Nat := 0
noncomputable def holds.tw2781561513384061212 : Nat := 0
noncomputable def holds.tw12540800736699631050 : Nat := 0
noncomputable def holds.tw5932082505621288647 : Nat := 0
noncomputable def holds.tw1446027475299390936 : Nat := 0
noncomputable def holds.tw8575535491628544125 : Nat := 0
noncomputable def holds.tw14394845925615563878 : Nat := 0
noncomputable def holds.tw17943733693106108155 : Nat := 0
noncomputable def holds.tw14642846902033847964 : Nat := 0
noncomputable def holds.tw4753448620645791293 : Nat := 0
noncomputable def holds.tw10238092577321643331 : Nat := 0
noncomputable def holds.tw4397353207691548035 : Nat := 0
noncomputable def holds.tw9309047703646887916 : Nat := 0
noncomputable def holds.tw8324913547053779211 : Nat := 0
noncomputable def holds.tw759334954848157859 : Nat := 0
noncomputable def holds.tw3378624336152846145 : Nat := 0
noncomputable def holds.tw10531532615022067580 : Nat := 0
noncomputable def holds.tw4302478151189881795 : Nat := 0
noncomputable def holds.tw15773771547523477324 : Nat := 0
noncomputable def holds.tw960582308587345451 : Nat := 0
noncomputable def holds.tw5981487413272766262 : Nat := 0
noncomputable def holds.tw3529921767576855348 : Nat := 0
noncomputable def holds.tw5747684920607356772 : Nat := 0
noncomputable def holds.tw6159885450047824267 : Nat := 0
noncomputable def holds.tw16939745714101447976 : Nat := 0
noncomputable def holds.tw3381435865837020940 : Nat := 0
noncomputable def holds.tw8260078842695283502 : Nat := 0
noncomputable def holds.tw99148262030102190 : Nat := 0
noncomputable def holds.tw13338651292558784369 : Nat := 0
noncomputable def holds.tw9039863090174473464 : Nat := 0
noncomputable def holds.tw14083959995102712966 : Nat := 0
noncomputable def holds.tw8944343764007091065 : Nat := 0
noncomputable def holds.tw5295917329084666069 : Nat := 0
noncomputable def holds.tw5099458221760260784 : Nat := 0
noncomputable def holds.tw14247145606103189434 : Nat := 0
noncomputable def holds.tw1311399786705062619 : Nat := 0
noncomputable def holds.tw8903297777125119442 : Nat := 0
noncomputable def holds.tw9160814584890018001 : Nat := 0
noncomputable def holds.tw4636335402390110268 : Nat := 0
noncomputable def holds.tw8413133151647880539 : Nat := 0
noncomputable def holds.tw3232270311777372273 : Nat := 0
noncomputable def holds.tw4132201380793018340 : Nat := 0
noncomputable def holds.tw15750308709622187472 : Nat := 0
noncomputable def holds.tw1357463484097335404 : Nat := 0
noncomputable def holds.tw14781169843320478655 : Nat := 0
noncomputable def holds.tw2451063411067222376 : Nat := 0
noncomputable def holds.tw2210907455776235988 : Nat := 0
noncomputable def holds.tw11021402016762074336 : Nat := 0
noncomputable def holds.tw244668840739839672 : Nat := 0
noncomputable def holds.tw63030109126827207 : Nat := 0
noncomputable def holds.tw16239030619513480838 : Nat := 0
noncomputable def holds.tw11322816463052944642 : Nat := 0
noncomputable def holds.tw15654153127513851752 : Nat := 0
noncomputable def holds.tw1092734292537931370 : Nat := 0
noncomputable def holds.tw13208604148985916543 : Nat := 0
noncomputable def holds.tw17597196502641442581 : Nat := 0
noncomputable def holds.tw5498966250228494579 : Nat := 0
noncomputable def holds.tw3937267528351423324 : Nat := 0
noncomputable def holds.tw15566814792845459997 : Nat := 0
noncomputable def holds.tw8086972369959518483 : Nat := 0
noncomputable def holds.tw10240100896771907615 : Nat := 0
noncomputable def holds.tw10853043219271619230 : Nat := 0
noncomputable def holds.tw4717937361131159733 : Nat := 0
noncomputable def holds.tw707885073954110949 : Nat := 0
noncomputable def holds.tw16049930973857864354 : Nat := 0
noncomputable def holds.tw9486143321106344294 : Nat := 0
noncomputable def holds.tw820627826665183454 : Nat := 0
noncomputable def holds.tw17856180979147524769 : Nat := 0
noncomputable def holds.tw18348608232412713582 : Nat := 0
noncomputable def holds.tw1833173380454153921 : Nat := 0
noncomputable def holds.tw4046193847619289583 : Nat := 0
noncomputable def holds.tw13002855754428957212 : Nat := 0
noncomputable def holds.tw8868445881999480663 : Nat := 0
noncomputable def holds.tw12774209864397607762 : Nat := 0
noncomputable def holds.tw8217837808669207805 : Nat := 0
noncomputable def holds.tw7944191787301449481 : Nat := 0
noncomputable def holds.tw3626213265524300766 : Nat := 0
noncomputable def holds.tw15493915963290111440 : Nat := 0
noncomputable def holds.tw16179787414501680475 : Nat := 0
noncomputable def holds.tw1714096750540956960 : Nat := 0
noncomputable def holds.tw96072713605637463 : Nat := 0
noncomputable def holds.tw9143120035062812437 : Nat := 0
noncomputable def holds.tw1118671588950128205 : Nat := 0
noncomputable def holds.tw9732041140710341944 : Nat := 0
noncomputable def holds.tw4480811336153992742 : Nat := 0
noncomputable def holds.tw16740147826971877517 : Nat := 0
noncomputable def holds.tw12808162357026388105 : Nat := 0
noncomputable def holds.tw1272921112123746405 : Nat := 0
noncomputable def holds.tw13334661261001831826 : Nat := 0
noncomputable def holds.tw16451975095625300501 : Nat := 0
noncomputable def holds.tw9766128667603022514 : Nat := 0
noncomputable def holds.tw10491065262344570346 : Nat := 0
noncomputable def holds.tw6986334047273505590 : Nat := 0
noncomputable def holds.tw1095465085569150570 : Nat := 0
noncomputable def holds.tw8801499457356032720 : Nat := 0
noncomputable def holds.tw18145382148040430673 : Nat := 0
noncomputable def holds.tw15785218014132313688 : Nat := 0
noncomputable def holds.tw4954732016240277505 : Nat := 0
noncomputable def holds.tw4065146272016792997 : Nat := 0
noncomputable def holds.tw6357344898813262543 : Nat := 0
noncomputable def holds.tw17500814259130102135 : Nat := 0
noncomputable def holds.tw15228004617427520810 : Nat := 0
noncomputable def holds.tw5565848844497943877 : Nat := 0
noncomputable def holds.tw14149781006570564392 : Nat := 0
noncomputable def holds.tw9523873602847724419 : Nat := 0
noncomputable def holds.tw10824115321126796680 : Nat := 0
noncomputable def holds.tw13356387430892511905 : Nat := 0
noncomputable def holds.tw15815842588268232306 : Nat := 0
noncomputable def holds.tw12698916279152862973 : Nat := 0
noncomputable def holds.tw7033360832409044607 : Nat := 0
noncomputable def holds.tw7122917452565745793 : Nat := 0
noncomputable def holds.tw4876135695594978501 : Nat := 0
noncomputable def holds.tw1882270145967814011 : Nat := 0
noncomputable def holds.tw15043986215568586124 : Nat := 0
noncomputable def holds.tw14786066558164337950 : Nat := 0
noncomputable def holds.tw17822619038779606285 : Nat := 0
noncomputable def holds.tw6166532556598395850 : Nat := 0
noncomputable def holds.tw2335221107431800076 : Nat := 0
noncomputable def holds.tw4917477440793964509 : Nat := 0
noncomputable def holds.tw15305512045591798990 : Nat := 0
noncomputable def holds.tw16260029586006496120 : Nat := 0
noncomputable def holds.tw4399564789175561982 : Nat := 0
noncomputable def holds.tw12632932662738783937 : Nat := 0
noncomputable def holds.tw14205006904943715905 : Nat := 0
noncomputable def holds.tw5112738896828158680 : Nat := 0
noncomputable def holds.tw11037822914523747621 : Nat := 0
noncomputable def holds.tw2160012875989923789 : Nat := 0
noncomputable def holds.tw14533596452844920548 : Nat := 0
noncomputable def holds.tw14607219995997415800 : Nat := 0
noncomputable def holds.tw14262614435210741706 : Nat := 0
noncomputable def holds.tw2972900019843275892 : Nat := 0
noncomputable def holds.tw2946744036017948005 : Nat := 0
noncomputable def holds.tw9140063382869304120 : Nat := 0
noncomputable def holds.tw14786868411472786527 : Nat := 0
noncomputable def holds.tw10447927361281507451 : Nat := 0
noncomputable def holds.tw10705619171732726748 : Nat := 0
noncomputable def holds.tw14387954076880322906 : Nat := 0
noncomputable def holds.tw16955119412671694080 : Nat := 0
noncomputable def holds.tw3093010850272755244 : Nat := 0
noncomputable def holds.tw8566497212793173883 : Nat := 0
noncomputable def holds.tw2084331650109322480 : Nat := 0
noncomputable def holds.tw2963349702327202441 : Nat := 0
noncomputable def holds.tw4905061745869718969 : Nat := 0
noncomputable def holds.tw13370180491053348 : Nat := 0
noncomputable def holds.tw17858152450515298520 : Nat := 0
noncomputable def holds.tw13341946137322399123 : Nat := 0
noncomputable def holds.tw2041457743892144894 : Nat := 0
noncomputable def holds.tw11311999394344832113 : Nat := 0
noncomputable def holds.tw10973056549479156102 : Nat := 0
noncomputable def holds.tw13217988163062889828 : Nat := 0
noncomputable def holds.tw4583756282420477746 : Nat := 0
noncomputable def holds.tw12788872388335264594 : Nat := 0
noncomputable def holds.tw12004910477815969792 : Nat := 0
noncomputable def holds.tw6118206324766035986 : Nat := 0
noncomputable def holds.tw11818566221774970091 : Nat := 0
noncomputable def holds.tw8277820557490507997 : Nat := 0
noncomputable def holds.tw2929439407932294337 : Nat := 0
noncomputable def holds.tw9259533211598610082 : Nat := 0
noncomputable def holds.tw17779774989671706653 : Nat := 0
noncomputable def holds.tw11223116819087169764 : Nat := 0
noncomputable def holds.tw9188266559522036927 : Nat := 0
noncomputable def holds.tw12633084752571091873 : Nat := 0
noncomputable def holds.tw10859938921441162988 : Nat := 0
noncomputable def holds.tw2667925813562934949 : Nat := 0
noncomputable def holds.tw2642592217982111355 : Nat := 0
noncomputable def holds.tw11111472982789046935 : Nat := 0
noncomputable def holds.tw17476224472650253806 : Nat := 0
noncomputable def holds.tw12733908048491186811 : Nat := 0
noncomputable def holds.tw8451429660923938374 : Nat := 0
noncomputable def holds.tw13281364814482169325 : Nat := 0
noncomputable def holds.tw4381346726385406224 : Nat := 0
noncomputable def holds.tw12929723366055764138 : Nat := 0
noncomputable def holds.tw15203487316939043196 : Nat := 0
noncomputable def holds.tw5078402968320093544 : Nat := 0
noncomputable def holds.tw16035096773351161327 : Nat := 0
noncomputable def holds.tw576298715544257586 : Nat := 0
noncomputable def holds.tw14635519672683665818 : Nat := 0
noncomputable def holds.tw6099975724469302500 : Nat := 0
noncomputable def holds.tw14012497318314112844 : Nat := 0
noncomputable def holds.tw10981351503976158137 : Nat := 0
noncomputable def holds.tw11569915684508697678 : Nat := 0
noncomputable def holds.tw9260842090827677427 : Nat := 0
noncomputable def holds.tw11723004889028688699 : Nat := 0
noncomputable def holds.tw4021013208564600997 : Nat := 0
noncomputable def holds.tw15477653585598255317 : Nat := 0
noncomputable def holds.tw4399152324972305773 : Nat := 0
noncomputable def holds.tw6424660084863691381 : Nat := 0
noncomputable def holds.tw13373784697917265674 : Nat := 0
noncomputable def holds.tw7942442253511216057 : Nat := 0
noncomputable def holds.tw5887078386916838634 : Nat := 0
noncomputable def holds.tw17096001632197288867 : Nat := 0
noncomputable def holds.tw8087799500789234286 : Nat := 0
noncomputable def holds.tw2395109189467087578 : Nat := 0
noncomputable def holds.tw6674158366018852832 : Nat := 0
noncomputable def holds.tw13758948915013449397 : Nat := 0
noncomputable def holds.tw7154447938429058438 : Nat := 0
noncomputable def holds.tw8035951141280138642 : Nat := 0
noncomputable def holds.tw13222035019132090745 : Nat := 0
noncomputable def holds.tw14054693376921006050 : Nat := 0
noncomputable def holds.tw7258431392514884226 : Nat := 0
noncomputable def holds.tw2490583276235294983 : Nat := 0
noncomputable def holds.tw2406459529592591507 : Nat := 0
noncomputable def holds.tw18020473825885896052 : Nat := 0
noncomputable def holds.tw10675174832548182787 : Nat := 0
noncomputable def holds.tw1349225773494744244 : Nat := 0
noncomputable def holds.tw7399101569421298396 : Nat := 0
noncomputable def holds.tw18193256452927958525 : Nat := 0
noncomputable def holds.tw6307330118970589470 : Nat := 0
noncomputable def holds.tw7350330377624401328 : Nat := 0
noncomputable def holds.tw7129523546110730894 : Nat := 0
noncomputable def holds.tw8070350036930755802 : Nat := 0
noncomputable def holds.tw949623864930693503 : Nat := 0
noncomputable def holds.tw16141144775947785660 : Nat := 0
noncomputable def holds.tw6330134614895140133 : Nat := 0
noncomputable def holds.tw5225467491883748592 : Nat := 0
noncomputable def holds.tw10587580826675096554 : Nat := 0
noncomputable def holds.tw17611067142513779687 : Nat := 0
noncomputable def holds.tw12160635655254385198 : Nat := 0
noncomputable def holds.tw6545324650690627985 : Nat := 0
noncomputable def holds.tw5599412692616142259 : Nat := 0
noncomputable def holds.tw5878047611234877577 : Nat := 0
noncomputable def holds.tw15659084048362614264 : Nat := 0
noncomputable def holds.tw13926404443759844560 : Nat := 0
noncomputable def holds.tw17453241218497372113 : Nat := 0
noncomputable def holds.tw12941468149822085856 : Nat := 0
noncomputable def holds.tw7442186320969616419 : Nat := 0
noncomputable def holds.tw17254660705983429885 : Nat := 0
noncomputable def holds.tw8664812251140827045 : Nat := 0
noncomputable def holds.tw5252246860307943348 : Nat := 0
noncomputable def holds.tw18078616723997116376 : Nat := 0
noncomputable def holds.tw7794074229983474189 : Nat := 0
noncomputable def holds.tw7548614866355832645 : Nat := 0
noncomputable def holds.tw8943767207682116370 : Nat := 0
noncomputable def holds.tw7923702915469573346 : Nat := 0
noncomputable def holds.tw6460966521098074893 : Nat := 0
noncomputable def holds.tw6216033271563703469 : Nat := 0
noncomputable def holds.tw6896159741398044905 : Nat := 0
noncomputable def holds.tw5015485144833937494 : Nat := 0
noncomputable def holds.tw8778671856527934898 : Nat := 0
noncomputable def holds.tw5031978486770369989 : Nat := 0
noncomputable def holds.tw154871700347349385 : Nat := 0
noncomputable def holds.tw5791938023122869331 : Nat := 0
noncomputable def holds.tw915018914566706432 : Nat := 0
noncomputable def holds.tw1876284267304334591 : Nat := 0
noncomputable def holds.tw11968577826497805164 : Nat := 0
noncomputable def holds.tw13150661809386230508 : Nat := 0
noncomputable def holds.tw14977296931134136204 : Nat := 0
noncomputable def holds.tw16898140867199733807 : Nat := 0
noncomputable def holds.tw13945929957867325323 : Nat := 0
noncomputable def holds.tw1213666046027356511 : Nat := 0
noncomputable def holds.tw9232459349045140238 : Nat := 0
noncomputable def holds.tw11450275943994455990 : Nat := 0
noncomputable def holds.tw17714467908841036005 : Nat := 0
noncomputable def holds.tw17417429595627488627 : Nat := 0
noncomputable def holds.tw3811385743445658432 : Nat := 0
noncomputable def holds.tw12947342387834907416 : Nat := 0
noncomputable def holds.tw15814798929938293467 : Nat := 0
noncomputable def holds.tw9784731065822230439 : Nat := 0
noncomputable def holds.tw2207817973478938216 : Nat := 0
noncomputable def holds.tw16532224993992427823 : Nat := 0
noncomputable def holds.tw1692041494862269998 : Nat := 0
noncomputable def holds.tw10698829266838348154 : Nat := 0
noncomputable def holds.tw12563481999192008768 : Nat := 0
noncomputable def holds.tw5274829272982666545 : Nat := 0
noncomputable def holds.tw11937027079205856637 : Nat := 0
noncomputable def holds.tw10269081998898121243 : Nat := 0
noncomputable def holds.tw12306811582311103309 : Nat := 0
noncomputable def holds.tw5471403574791894133 : Nat := 0
noncomputable def holds.tw5619803957841784048 : Nat := 0
noncomputable def holds.tw11750193621415288269 : Nat := 0
noncomputable def holds.tw9157471666820141079 : Nat := 0
theorem holds : PySem.Challenge.rw_nt0183_01.Holds := by
  w_on; o_law; k_head; (case hw => w_witness2)
  k_fill
  intro w s₀ s₁ mg mb G Y fa o pm cd doc dV kV ho hd hcd hD hmg hg args vals as hpre hlay hrd hwl hlo
  have KX := kIn_of Y
  have X := (Ground.X G).1
  have V := (Ground.X G).2
  refine Ground.open G ?_
  intro T B D TE TW
  try (refine guard_noD D (by decide +kernel) ?_; clear D)
  wrow_args hpre hlay hrd hwl hlo
  all_goals (first | refine callC_kw (enter_call ?_) | refine enter_call ?_ | refine callC_kw (enter_callW ?_) | refine enter_callW ?_)
  w_top on
  refine codeAny_mono ?_ (fun _ _ g => GoodW.toG g)
  clear ho hd hcd hD
  refine law_end (t := 672) T KX (by kernel_rfl) (by kernel_rfl) (by kernel_rfl) (fun S u v w => by kernel_rfl) (fun S u v => by kernel_rfl) (fun S u v w => by kernel_rfl) (by kernel_rfl) (by kernel_rfl) hmg (by assumption) (by assumption) (by assumption) fun s' hk hs => ?_
  obtain ⟨h, t, rfl⟩ := hs
  refine ⟨.inl ⟨.bool true, .bool true, [], rfl, raisesW_false ?_, .bool true, ?_, fun _ => ⟨.nil, fun _ h => by cases h⟩⟩, hk, rfl, hg⟩
  · wrow_none_raised
  · wrow_post
end Mine
end
theorem PySem.Challenge.cw_nt0183_01_holds : PySem.Challenge.rw_nt0183_01.Holds :=
  Mine.holds
