import PyProof.Rows.All
import PyProof.AssignAttr
import PyProof.CompFree
import PyProof.DictRoadsH
import PyProof.EqAt
import PyProof.ListMulAny
import PyProof.Rows.StrInSeq
import PyProof.Rows.Chain
import KE.KItem
import KE.KEqDat
import KE.KTurns
import KE.KSliceW
import KE.KRevSl
import Wide.FinOn
import OpenK.AllK
import Wide.All
import Lean
import PySem.Challenge.RW_np0032_01
open PySem PySem.W PySem.Calls PyProof.Rows PySem.Spec
set_option Elab.async false
set_option autoImplicit false
set_option linter.unusedVariables false
namespace Mine

/-- trees as values -/
inductive T where
  | int (i : Int) | bool (b : Bool) | none | str (x : Str) | tup (ts : List T) | lst (ts : List T) | adr (a : Addr)
deriving Inhabited

noncomputable abbrev PM := Addr → Option Obj

noncomputable abbrev sq (c : String) (vs : List Value) (n : Nat) : Obj := { cls := .type c, dict := none, data := .seq vs.toArray n, slots := #[] }
mutual
inductive Rep (P : PM) : Value → T → Prop
  | int {i t} : Rep P (.int i t) (.int i)
  | bool {b} : Rep P (.bool b) (.bool b)
  | none : Rep P .none .none
  | str {x t} : Rep P (.str x t) (.str x)
  | tup {a : Addr} {n : Nat} {vs : List Value} {ts : List T} : P a = some (sq "tuple" vs n) → Reps P vs ts → Rep P (.ref a) (.tup ts)
  | lst {a : Addr} {n : Nat} {vs : List Value} {ts : List T} : P a = some (sq "list" vs n) → Reps P vs ts → Rep P (.ref a) (.lst ts)
  | adr {a} : Rep P (.ref a) (.adr a)
inductive Reps (P : PM) : List Value → List T → Prop
  | nil : Reps P [] []
  | cons {v t vs ts} : Rep P v t → Reps P vs ts → Reps P (v :: vs) (t :: ts)
end

theorem Rep.mono {P P' : PM} (k : ∀ b o, P b = some o → P' b = some o) {v : Value} {t : T} (h : Rep P v t) : Rep P' v t := by
  refine Rep.rec (motive_1 := fun v t _ => Rep P' v t) (motive_2 := fun vs ts _ => Reps P' vs ts) ?_ ?_ ?_ ?_ ?_ ?_ ?_ ?_ ?_ h
  · exact .int
  · exact .bool
  · exact .none
  · exact .str
  · intro a n vs ts h1 _ ih; exact .tup (k _ _ h1) ih
  · intro a n vs ts h1 _ ih; exact .lst (k _ _ h1) ih
  · exact .adr
  · exact .nil
  · intro v t vs ts _ _ h1 h2; exact .cons h1 h2
theorem Reps.mono {P P' : PM} (k : ∀ b o, P b = some o → P' b = some o) : ∀ {vs : List Value} {ts : List T}, Reps P vs ts → Reps P' vs ts
  | _, _, .nil => .nil
  | _, _, .cons h r => .cons (h.mono k) (r.mono k)

theorem Reps.length {P : PM} : ∀ {vs : List Value} {ts : List T}, Reps P vs ts → vs.length = ts.length
  | _, _, .nil => rfl
  | _, _, .cons _ r => by simp [r.length]
theorem Reps.get {P : PM} : ∀ {vs : List Value} {ts : List T} {i : Nat} {t : T}, Reps P vs ts → ts[i]? = some t → ∃ v, vs[i]? = some v ∧ Rep P v t
  | _, _, _, _, .nil, h => by simp at h
  | _, _, 0, _, .cons h _, e => by simp at e; subst e; exact ⟨_, rfl, h⟩
  | _, _, i + 1, _, .cons _ r, e => by simpa using r.get (by simpa using e)
theorem Reps.get' {P : PM} {vs : List Value} {ts : List T} {i : Nat} {v : Value} (h : Reps P vs ts) (e : vs[i]? = some v) : ∃ t, ts[i]? = some t ∧ Rep P v t := by
  have hl := h.length
  obtain ⟨hi, _⟩ := List.getElem?_eq_some_iff.mp e
  obtain ⟨v', e', r⟩ := h.get (i := i) (t := ts[i]'(hl ▸ hi)) (List.getElem?_eq_getElem _)
  rw [e] at e'; cases e'
  exact ⟨_, List.getElem?_eq_getElem _, r⟩
theorem Reps.append {P : PM} : ∀ {vs : List Value} {ts : List T} {vs' : List Value} {ts' : List T}, Reps P vs ts → Reps P vs' ts' → Reps P (vs ++ vs') (ts ++ ts')
  | _, _, _, _, .nil, h => h
  | _, _, _, _, .cons h r, h' => .cons h (r.append h')
theorem Reps.one {P : PM} {v : Value} {t : T} (h : Rep P v t) : Reps P [v] [t] := .cons h .nil
theorem Reps.drop {P : PM} : ∀ {vs : List Value} {ts : List T} (n : Nat), Reps P vs ts → Reps P (vs.drop n) (ts.drop n)
  | _, _, 0, h => h
  | _, _, n + 1, .nil => .nil
  | _, _, n + 1, .cons _ r => r.drop n
theorem Reps.take {P : PM} : ∀ {vs : List Value} {ts : List T} (n : Nat), Reps P vs ts → Reps P (vs.take n) (ts.take n)
  | _, _, 0, _ => by simpa using Reps.nil
  | _, _, n + 1, .nil => .nil
  | _, _, n + 1, .cons h r => .cons h (r.take n)
theorem Reps.reverse {P : PM} : ∀ {vs : List Value} {ts : List T}, Reps P vs ts → Reps P vs.reverse ts.reverse
  | _, _, .nil => .nil
  | _, _, .cons h r => by simpa using r.reverse.append (.one h)
theorem Reps.set {P : PM} : ∀ {vs : List Value} {ts : List T} (i : Nat) {v : Value} {t : T}, Reps P vs ts → Rep P v t → Reps P (vs.set i v) (ts.set i t)
  | _, _, _, _, _, .nil, _ => .nil
  | _, _, 0, _, _, .cons _ r, h => .cons h r
  | _, _, i + 1, _, _, .cons h' r, h => .cons h' (r.set i h)
theorem Reps.snoc {P : PM} {vs : List Value} {ts : List T} {v : Value} {t : T} (r : Reps P vs ts) (h : Rep P v t) : Reps P (vs ++ [v]) (ts ++ [t]) := r.append (.one h)
theorem Reps.replicate {P : PM} {v : Value} {t : T} (h : Rep P v t) : ∀ n, Reps P (List.replicate n v) (List.replicate n t)
  | 0 => .nil
  | n + 1 => .cons h (Reps.replicate h n)

structure Cfg where
  prog : Program
  w : World
  K : Frag
  g0 : Heap
  mg : Str → Option Value
  mb : Str → Option Value
  hK : K.In g0
  hg : g0.Ns mainGlobals mg
  hb : g0.Ns builtinsNs mb
  lim : g0.NoLimit

structure Room (k : Nat) (A : Around) : Prop where
  h : A.handled = none
  d : A.depth + k < recursionLimit
  u : A.units + 20 * k + 100 < cLine
theorem Room.le {k k' : Nat} {A : Around} (h : Room k A) (hk : k' ≤ k) : Room k' A := ⟨h.h, by have := h.d; omega, by have := h.u; omega⟩
theorem Room.deeper {k : Nat} {A : Around} (h : Room (k + 1) A) (env : Env) : Room k (A.deeper env) := ⟨h.h, by have := h.d; show A.depth + 1 + k < _; omega, by have := h.u; show A.units + 3 + 20 * k + 100 < _; omega⟩

structure Gd (C : Cfg) (P : PM) (h : Heap) : Prop where
  g : ∀ b o, C.g0.get? b = some o → P b = some o
  s : ∀ b o, P b = some o → h.get? b = some o
theorem Gd.top {C : Cfg} {P : PM} {h : Heap} (G : Gd C P h) : ∀ b o, C.g0.get? b = some o → h.get? b = some o := fun b o e => G.s b o (G.g b o e)


noncomputable def HasEntry (P : PM) (x : (List Int) × Addr × Value) (y : List Int × T) : Prop := x.1 = y.1 ∧ Rep P (.ref x.2.1) (.tup (y.1.map .int)) ∧ Rep P x.2.2 y.2
noncomputable def DctRep (P : PM) : List ((List Int) × Addr × Value) → List (List Int × T) → Prop
  | [], [] => True
  | x :: xs, y :: ys => HasEntry P x y ∧ DctRep P xs ys
  | _, _ => False
noncomputable def FldRep (P : PM) : List DictEntry → List (Str × T) → Prop
  | [], [] => True
  | e :: es, (x, t) :: fs => (∃ tok, e.key = .str x tok) ∧ Rep P e.val t ∧ FldRep P es fs
  | _, _ => False

inductive MObj where
  | lst (ts : List T) | raw (o : Obj) | flds (fs : List (Str × T)) | dct (kvs : List (List Int × T))

noncomputable def MRep (C : Cfg) (P : PM) (h : Heap) (a : Addr) : MObj → Prop
  | .lst ts => ∃ (vs : List Value) (n : Nat), h.get? a = some (sq "list" vs n) ∧ Reps P vs ts
  | .raw o => h.get? a = some o
  | .flds fs => ∃ es n, h.get? a = some (dictOf es n) ∧ FldRep P es fs
  | .dct kvs => ∃ xs, h.DictOfH (tupleKind (intKind C.prog C.w)) a xs ∧ DctRep P xs kvs

noncomputable abbrev Mem := List (Addr × MObj)
structure MemSt (C : Cfg) (P : PM) (h : Heap) (μ : Mem) : Prop where
  rep : ∀ e ∈ μ, MRep C P h e.1 e.2
  off : ∀ e ∈ μ, P e.1 = none
  nd : (μ.map (·.1)).Nodup

structure FrSt (env : Env) (P : PM) (h : Heap) (ρ : List (Option T)) : Prop where
  m : ∃ m, h.Ns env.locals m ∧ ∀ (i : Nat) (x : Str) (t : T), env.scope.names[i]? = some (x, NameKind.local) → ρ[i]? = some (some t) → ∃ v, m x = some v ∧ Rep P v t
  c : ∀ (i : Nat) (x : Str) (kd : NameKind) (t : T), env.scope.names[i]? = some (x, kd) → (kd = NameKind.cell ∨ kd = NameKind.free) → ρ[i]? = some (some t) → ∃ c v, env.cells.lookup x = some c ∧ h.IsCell c (some v) ∧ Rep P v t
  ce : ∀ x c, (x, c) ∈ env.cells → ∃ v, h.IsCell c v
  cx : ∀ (i : Nat) (x : Str) (kd : NameKind), env.scope.names[i]? = some (x, kd) → (kd = NameKind.cell ∨ kd = NameKind.free) → ∃ c, env.cells.lookup x = some c
  nd : (env.scope.names.map (·.1)).Nodup
  cnd : (env.cells.map (·.2)).Nodup
  lc : env.locals ∉ env.cells.map (·.2)
  kind : env.scope.kind = .function
  gl : env.globals = mainGlobals
  bi : env.builtins = builtinsNs
  off : ∀ a ∈ env.locals :: env.cells.map (·.2), P a = none

noncomputable abbrev FA (env : Env) : List Addr := env.locals :: env.cells.map (·.2)

structure St (C : Cfg) (env : Env) (P : PM) (h : Heap) (ρ : List (Option T)) (μ : Mem) : Prop where
  gd : Gd C P h
  fr : FrSt env P h ρ
  me : MemSt C P h μ
  ap : ∀ a ∈ FA env, a ∉ μ.map (·.1)

/-- a pure step: all that stood stands, the frozen part grows by new objects alone -/
structure PStep (P : PM) (h : Heap) (P' : PM) (h' : Heap) : Prop where
  keep : ∀ b o, h.get? b = some o → h'.get? b = some o
  le : ∀ b o, P b = some o → P' b = some o
  new : ∀ b o, P' b = some o → P b = some o ∨ h.get? b = none
  sub : ∀ b o, P' b = some o → h'.get? b = some o

theorem PStep.refl {P : PM} {h : Heap} (s : ∀ b o, P b = some o → h.get? b = some o) : PStep P h P h := ⟨fun _ _ e => e, fun _ _ e => e, fun _ _ e => .inl e, s⟩
theorem none_back {h h' : Heap} (k : ∀ b o, h.get? b = some o → h'.get? b = some o) {b : Addr} (e : h'.get? b = none) : h.get? b = none := by
  cases q : h.get? b with
  | none => rfl
  | some o => rw [k b o q] at e; cases e
theorem PStep.trans {P P' P'' : PM} {h h' h'' : Heap} (x : PStep P h P' h') (y : PStep P' h' P'' h'') : PStep P h P'' h'' where
  keep b o e := y.keep b o (x.keep b o e)
  le b o e := y.le b o (x.le b o e)
  new b o e := (y.new b o e).elim (fun e' => x.new b o e') fun e' => .inr (none_back x.keep e')
  sub := y.sub
theorem PStep.off {P P' : PM} {h h' : Heap} (x : PStep P h P' h') {a : Addr} (ha : P a = none) (hl : ∃ o, h.get? a = some o) : P' a = none := by
  cases e : P' a with
  | none => rfl
  | some o => rcases x.new a o e with e' | e'
              · rw [ha] at e'; cases e'
              · obtain ⟨o', q⟩ := hl; rw [q] at e'; cases e'
/-- heap grows alone, the frozen part stays -/
theorem PStep.grow {P : PM} {h h' : Heap} (s : ∀ b o, P b = some o → h.get? b = some o) (k : ∀ b o, h.get? b = some o → h'.get? b = some o) : PStep P h P h' :=
  ⟨k, fun _ _ e => e, fun _ _ e => .inl e, fun b o e => k b o (s b o e)⟩
/-- the frozen part with one object more -/
noncomputable def PM.add (P : PM) (a : Addr) (o : Obj) : PM := fun b => if b = a then some o else P b
theorem PStep.push {P : PM} {h : Heap} {o : Obj} (s : ∀ b o, P b = some o → h.get? b = some o) (hf : o.isFreed = false) : PStep P h (P.add h.objs.size o) (h.push o) where
  keep b o' e := Heap.get?_push_of_some _ e
  le b o' e := by
    have : b ≠ h.objs.size := Nat.ne_of_lt (Heap.lt_size (s b o' e))
    simp [PM.add, this, e]
  new b o' e := by
    unfold PM.add at e
    split at e
    · rename_i q; exact .inr (q ▸ Heap.get?_none_of_le (Nat.le_refl _))
    · exact .inl e
  sub b o' e := by
    unfold PM.add at e
    split at e
    · rename_i q; cases e; subst q; exact Heap.get?_push_size _ hf
    · exact Heap.get?_push_of_some _ (s b o' e)
theorem PM.add_self (P : PM) (a : Addr) (o : Obj) : P.add a o a = some o := by simp [PM.add]

theorem Gd.step {C : Cfg} {P P' : PM} {h h' : Heap} (G : Gd C P h) (x : PStep P h P' h') : Gd C P' h' := ⟨fun b o e => x.le b o (G.g b o e), x.sub⟩

theorem FldRep.mono {P P' : PM} (k : ∀ b o, P b = some o → P' b = some o) : ∀ {es : List DictEntry} {fs : List (Str × T)}, FldRep P es fs → FldRep P' es fs
  | [], [], _ => trivial
  | _ :: _, (_, _) :: _, ⟨a, b, c⟩ => ⟨a, b.mono k, c.mono k⟩
theorem DctRep.mono {P P' : PM} (k : ∀ b o, P b = some o → P' b = some o) : ∀ {xs : List ((List Int) × Addr × Value)} {ys : List (List Int × T)}, DctRep P xs ys → DctRep P' xs ys
  | [], [], _ => trivial
  | _ :: _, _ :: _, ⟨⟨a, b, c⟩, d⟩ => ⟨⟨a, b.mono k, c.mono k⟩, d.mono k⟩

theorem itemsAre_of {prog : Program} {w : World} {P : PM} : ∀ {ks : List Int} {vs : List Value}, Reps P vs (ks.map .int) → ItemsAre (intKind prog w) ks vs
  | [], _, h => by cases h; exact .nil
  | k :: ks, _, h => by
    cases h with
    | cons h r =>
      cases h
      exact .cons (by simp [intKind, Value.isInt]) (itemsAre_of r)
theorem isKey_of {prog : Program} {w : World} {P : PM} {h : Heap} {a : Addr} {ks : List Int} (s : ∀ b o, P b = some o → h.get? b = some o) (r : Rep P (.ref a) (.tup (ks.map .int))) : IsTupleKey (intKind prog w) h ks a := by
  cases r with
  | tup h1 h4 => exact ⟨_, _, _, s _ _ h1, rfl, rfl, itemsAre_of (by simpa using h4)⟩
theorem DctRep.keys {prog : Program} {w : World} {P : PM} {h : Heap} (s : ∀ b o, P b = some o → h.get? b = some o) : ∀ {xs : List ((List Int) × Addr × Value)} {ys : List (List Int × T)}, DctRep P xs ys → ∀ x ∈ xs, IsTupleKey (intKind prog w) h x.1 x.2.1
  | [], [], _, _, hx => nomatch hx
  | x :: _, _ :: _, ⟨⟨a, b, _⟩, d⟩, y, hy => by
    rcases List.mem_cons.mp hy with rfl | hy
    · rw [a]; exact isKey_of s b
    · exact d.keys s y hy

theorem MRep.live {C : Cfg} {P : PM} {h : Heap} {a : Addr} : ∀ {o : MObj}, MRep C P h a o → ∃ o, h.get? a = some o
  | .lst _, ⟨_, _, e, _⟩ => ⟨_, e⟩
  | .raw _, e => ⟨_, e⟩
  | .flds _, ⟨_, _, e, _⟩ => ⟨_, e⟩
  | .dct _, ⟨_, ⟨_, _, _, e, _⟩, _⟩ => ⟨_, e⟩
/-- what is represented at a stays so wherever a stays and the frozen part grows -/
theorem MRep.keep {C : Cfg} {P P' : PM} {h h' : Heap} {a : Addr} (k : ∀ b o, P b = some o → P' b = some o) (s : ∀ b o, P' b = some o → h'.get? b = some o) (e : ∀ o, h.get? a = some o → h'.get? a = some o) : ∀ {o : MObj}, MRep C P h a o → MRep C P' h' a o
  | .lst _, ⟨vs, n, e', q⟩ => ⟨vs, n, e _ e', q.mono k⟩
  | .raw _, e' => e _ e'
  | .flds _, ⟨es, n, e', r⟩ => ⟨es, n, e _ e', r.mono k⟩
  | .dct _, ⟨xs, ⟨o, es, ep, e', h1, h2, h3, _, h5⟩, r⟩ => ⟨xs, ⟨o, es, ep, e _ e', h1, h2, h3, (r.mono k).keys s, h5⟩, r.mono k⟩

theorem MemSt.step {C : Cfg} {P P' : PM} {h h' : Heap} {μ : Mem} (M : MemSt C P h μ) (x : PStep P h P' h') : MemSt C P' h' μ :=
  ⟨fun e he => (M.rep e he).keep x.le x.sub fun o q => x.keep _ _ q, fun e he => x.off (M.off e he) (M.rep e he).live, M.nd⟩

theorem FrSt.live {env : Env} {P : PM} {h : Heap} {ρ : List (Option T)} (F : FrSt env P h ρ) : ∀ a ∈ FA env, ∃ o, h.get? a = some o := by
  intro a ha
  rcases List.mem_cons.mp ha with rfl | ha
  · obtain ⟨m, ⟨o, _, _, e, _⟩, _⟩ := F.m; exact ⟨o, e⟩
  · obtain ⟨⟨x, c⟩, hc, rfl⟩ := List.mem_map.mp ha
    obtain ⟨v, o, e, _⟩ := F.ce x c hc
    exact ⟨o, e⟩
theorem FrSt.keep {env : Env} {P P' : PM} {h h' : Heap} {ρ : List (Option T)} (F : FrSt env P h ρ) (le : ∀ b o, P b = some o → P' b = some o) (k : ∀ b ∈ FA env, ∀ o, h.get? b = some o → h'.get? b = some o) (off : ∀ a ∈ FA env, P' a = none) : FrSt env P' h' ρ where
  m := by
    obtain ⟨m, hn, hm⟩ := F.m
    exact ⟨m, hn.at' fun o e => k _ (List.mem_cons_self ..) o e, fun i x t a b => let ⟨v, e, r⟩ := hm i x t a b; ⟨v, e, r.mono le⟩⟩
  c := fun i x kd t a b q => by
    obtain ⟨c, v, hc, ⟨o, ho, hd⟩, r⟩ := F.c i x kd t a b q
    have hmem : c ∈ FA env := List.mem_cons_of_mem _ (List.mem_map.mpr ⟨(x, c), mem_of_lookup hc, rfl⟩)
    exact ⟨c, v, hc, ⟨o, k c hmem o ho, hd⟩, r.mono le⟩
  ce := fun x c hc => by
    obtain ⟨v, o, ho, hd⟩ := F.ce x c hc
    exact ⟨v, o, k c (List.mem_cons_of_mem _ (List.mem_map.mpr ⟨(x, c), hc, rfl⟩)) o ho, hd⟩
  cx := F.cx
  nd := F.nd
  cnd := F.cnd
  lc := F.lc
  kind := F.kind
  gl := F.gl
  bi := F.bi
  off := off
theorem FrSt.step {env : Env} {P P' : PM} {h h' : Heap} {ρ : List (Option T)} (F : FrSt env P h ρ) (x : PStep P h P' h') : FrSt env P' h' ρ :=
  F.keep x.le (fun b _ o e => x.keep b o e) fun a ha => x.off (F.off a ha) (F.live a ha)
theorem St.step {C : Cfg} {env : Env} {P P' : PM} {h h' : Heap} {ρ : List (Option T)} {μ : Mem} (S : St C env P h ρ μ) (x : PStep P h P' h') : St C env P' h' ρ μ :=
  ⟨S.gd.step x, S.fr.step x, S.me.step x, S.ap⟩

/-- pure evaluation of a tree -/
noncomputable def Tr {α : Type} (C : Cfg) (k : Nat) (env : Env) (m : Sem α) (ρ : List (Option T)) (μ : Mem) (R : PM → α → Prop) : Prop :=
  ∀ (A : Around) (P : PM) (s : Shared) (Q : α → Shared → Prop), Room k A → St C env P s.heap ρ μ →
    (∀ v P' h' tk, PStep P s.heap P' h' → R P' v → Q v { s with heap := h', toks := tk }) → wpAny (model C.prog C.w) A m Q (fun _ _ => False) s

noncomputable abbrev EvP (C : Cfg) (k : Nat) (env : Env) (e : Expr) (ρ : List (Option T)) (μ : Mem) (t : T) : Prop := Tr C k env (eval e env) ρ μ fun P v => Rep P v t
noncomputable abbrev EvB (C : Cfg) (k : Nat) (env : Env) (e : Expr) (ρ : List (Option T)) (μ : Mem) (b : Bool) : Prop := Tr C k env (isTrue e env (eval e env)) ρ μ fun _ v => v = b
noncomputable abbrev EvPs (C : Cfg) (k : Nat) (env : Env) (es : List Expr) (pos : Pos) (ρ : List (Option T)) (μ : Mem) (ts : List T) : Prop := Tr C k env (spliced (backTo pos (starEach es env))) ρ μ fun P vs => Reps P vs ts

/-- an operation on values already there -/
noncomputable def Op {α : Type} (C : Cfg) (k : Nat) (μ : Mem) (m : List Value → Sem α) (ts : List T) (R : PM → α → Prop) : Prop :=
  ∀ (A : Around) (P : PM) (s : Shared) (vs : List Value) (Q : α → Shared → Prop), Room k A → Gd C P s.heap → MemSt C P s.heap μ → Reps P vs ts →
    (∀ v P' h' tk, PStep P s.heap P' h' → R P' v → Q v { s with heap := h', toks := tk }) → wpAny (model C.prog C.w) A (m vs) Q (fun _ _ => False) s
end Mine

namespace Mine

noncomputable def Op1 {α : Type} (C : Cfg) (k : Nat) (μ : Mem) (m : Value → Sem α) (a : T) (R : PM → α → Prop) : Prop :=
  ∀ (A : Around) (P : PM) (s : Shared) (v : Value) (Q : α → Shared → Prop), Room k A → Gd C P s.heap → MemSt C P s.heap μ → Rep P v a →
    (∀ u P' h' tk, PStep P s.heap P' h' → R P' u → Q u { s with heap := h', toks := tk }) → wpAny (model C.prog C.w) A (m v) Q (fun _ _ => False) s
noncomputable def Op2 {α : Type} (C : Cfg) (k : Nat) (μ : Mem) (m : Value → Value → Sem α) (a b : T) (R : PM → α → Prop) : Prop :=
  ∀ (A : Around) (P : PM) (s : Shared) (v w : Value) (Q : α → Shared → Prop), Room k A → Gd C P s.heap → MemSt C P s.heap μ → Rep P v a → Rep P w b →
    (∀ u P' h' tk, PStep P s.heap P' h' → R P' u → Q u { s with heap := h', toks := tk }) → wpAny (model C.prog C.w) A (m v w) Q (fun _ _ => False) s

section
variable {C : Cfg} {k : Nat} {env : Env} {ρ : List (Option T)} {μ : Mem}

theorem EvP.int {i : Int} {j : Nat} {p : Pos} : EvP C k env (.Constant (.int i) j p) ρ μ (.int i) := fun A P s Q hA hS hQ => wpAny_Constant_int (hQ _ P _ _ (.refl hS.gd.s) .int)
theorem EvP.str {x : Str} {j : Nat} {p : Pos} : EvP C k env (.Constant (.str x) j p) ρ μ (.str x) := fun A P s Q hA hS hQ => wpAny_Constant_str (hQ _ P _ _ (.refl hS.gd.s) .str)
theorem EvP.bool {b : Bool} {j : Nat} {p : Pos} : EvP C k env (.Constant (.bool b) j p) ρ μ (.bool b) := fun A P s Q hA hS hQ => wpAny_Constant_bool (hQ _ P _ _ (.refl hS.gd.s) .bool)
theorem EvP.none {j : Nat} {p : Pos} : EvP C k env (.Constant .none j p) ρ μ .none := fun A P s Q hA hS hQ => wpAny_Constant_none (hQ _ P _ _ (.refl hS.gd.s) .none)

theorem lookup_of_get {α : Type} : ∀ {l : List (Str × α)} {i : Nat} {x : Str} {y : α}, (l.map (·.1)).Nodup → l[i]? = some (x, y) → l.lookup x = some y
  | [], _, _, _, _, h => by simp at h
  | (a, b) :: r, 0, x, y, _, h => by simp at h; simp [h.1, h.2]
  | (a, b) :: r, i + 1, x, y, hn, h => by
    rw [List.map_cons, List.nodup_cons] at hn
    have h' : r[i]? = some (x, y) := by simpa using h
    have hne : x ≠ a := fun e => hn.1 (e ▸ List.mem_map.mpr ⟨(x, y), List.mem_of_getElem? h', rfl⟩)
    rw [List.lookup_cons, beq_eq_false_iff_ne.mpr hne]
    exact lookup_of_get hn.2 h'

/-- a name of the frame, at its place -/
theorem EvP.name {x : Str} {p : Pos} {i : Nat} {kd : NameKind} {t : T} (hi : env.scope.names[i]? = some (x, kd)) (hkd : kd = .local ∨ kd = .cell ∨ kd = .free) (hr : ρ[i]? = some (some t))
    (hx : (x == ("__debug__" : Str)) = false) (hy : (x == ("__classdict__" : Str)) = false) : EvP C k env (.Name x p) ρ μ t := fun A P s Q hA hS hQ => by
  have hl : env.kindOf x = some kd := lookup_of_get hS.fr.nd hi
  refine wpAny_Name ?_ hx
  rcases hkd with rfl | rfl | rfl
  · obtain ⟨m, hn, hm⟩ := hS.fr.m
    obtain ⟨v, e, r⟩ := hm i x t hi hr
    exact wpAny_loadName_local hS.fr.kind hl hn e (hQ _ P _ _ (.refl hS.gd.s) r)
  · obtain ⟨c, v, hc, hv, r⟩ := hS.fr.c i x _ t hi (.inl rfl) hr
    exact wpAny_loadName_cell hS.fr.kind hl hc hv (hQ _ P _ _ (.refl hS.gd.s) r)
  · obtain ⟨c, v, hc, hv, r⟩ := hS.fr.c i x _ t hi (.inr rfl) hr
    exact wpAny_loadName_free hS.fr.kind hl hc hv (hQ _ P _ _ (.refl hS.gd.s) r) hy

/-- a global name's value, as it stands -/
theorem Tr.glob {x : Str} {p : Pos} {v : Value} (hl : env.kindOf x = some .globalImplicit) (hv : C.mg x = some v) (hx : (x == ("__debug__" : Str)) = false) : Tr C k env (eval (.Name x p) env) ρ μ fun _ u => u = v := fun A P s Q hA hS hQ =>
  Name_function_global hS.fr.kind hl (loadGlobal_global (by rw [hS.fr.gl]; exact C.hg.keeps hS.gd.top) hv (hQ _ P _ _ (.refl hS.gd.s) rfl)) hx
theorem Tr.built {x : Str} {p : Pos} {v : Value} (hl : env.kindOf x = some .globalImplicit) (hv : C.mg x = none) (hb : C.mb x = some v) (hx : (x == ("__debug__" : Str)) = false) : Tr C k env (eval (.Name x p) env) ρ μ fun _ u => u = v := fun A P s Q hA hS hQ =>
  Name_function_global hS.fr.kind hl (loadGlobal_builtin (by rw [hS.fr.gl]; exact C.hg.keeps hS.gd.top) hv (by rw [hS.fr.bi]; exact C.hb.keeps hS.gd.top) hb (hQ _ P _ _ (.refl hS.gd.s) rfl)) hx
theorem EvP.glob {x : Str} {p : Pos} {v : Value} {t : T} (hl : env.kindOf x = some .globalImplicit) (hv : C.mg x = some v) (hx : (x == ("__debug__" : Str)) = false) (hr : Rep (fun b => C.g0.get? b) v t) : EvP C k env (.Name x p) ρ μ t := fun A P s Q hA hS hQ =>
  Tr.glob hl hv hx A P s Q hA hS fun u P' h' tk st e => hQ u P' h' tk st (e ▸ (hr.mono fun b o q => st.le b o (hS.gd.g b o q)))

theorem EvP.bin {l r : Expr} {op : Operator} {p : Pos} {a b t : T} (h1 : EvP C k env l ρ μ a) (h2 : EvP C k env r ρ μ b) (h3 : Op2 C k μ (binaryOp op) a b fun P v => Rep P v t) : EvP C k env (.BinOp l op r p) ρ μ t := fun A P s Q hA hS hQ =>
  wpAny_BinOp (h1 A P s _ hA hS fun v P1 h1 tk1 st1 r1 => h2 A P1 _ _ hA (hS.step st1) fun w P2 h2 tk2 st2 r2 =>
    h3 A P2 _ _ _ _ hA ((hS.step st1).step st2).gd ((hS.step st1).step st2).me (r1.mono st2.le) r2 fun u P3 h3 tk3 st3 r3 => hQ u P3 h3 tk3 ((st1.trans st2).trans st3) r3)

theorem EvP.un {e : Expr} {op : UnaryOp} {p : Pos} {a t : T} (h1 : EvP C k env e ρ μ a) (h3 : Op1 C k μ (unaryOp op) a fun P v => Rep P v t) : EvP C k env (.UnaryOp op e p) ρ μ t := fun A P s Q hA hS hQ =>
  wpAny_UnaryOp (h1 A P s _ hA hS fun v P1 h1 tk1 st1 r1 => h3 A P1 _ _ _ hA (hS.step st1).gd (hS.step st1).me r1 fun u P3 h3 tk3 st3 r3 => hQ u P3 h3 tk3 (st1.trans st3) r3)

theorem EvP.cmp {l r : Expr} {op : CmpOp} {p : Pos} {a b : T} {c : Bool} (h1 : EvP C k env l ρ μ a) (h2 : EvP C k env r ρ μ b) (h3 : Op2 C k μ (compareOp op) a b fun _ v => v = .bool c) (hb : behindInMarks op r = false) : EvP C k env (.Compare l [op] [r] p) ρ μ (.bool c) := fun A P s Q hA hS hQ =>
  wpAny_Compare1 (h1 A P s _ hA hS fun v P1 h1 tk1 st1 r1 => h2 A P1 _ _ hA (hS.step st1) fun w P2 h2 tk2 st2 r2 =>
    h3 A P2 _ _ _ _ hA ((hS.step st1).step st2).gd ((hS.step st1).step st2).me (r1.mono st2.le) r2 fun u P3 h3 tk3 st3 r3 => hQ u P3 h3 tk3 ((st1.trans st2).trans st3) (r3 ▸ .bool)) hb

theorem EvB.cmp {l r : Expr} {op : CmpOp} {p : Pos} {a b : T} {c : Bool} (h1 : EvP C k env l ρ μ a) (h2 : EvP C k env r ρ μ b) (h3 : Op2 C k μ (compareOp op) a b fun _ v => v = .bool c) (hb : behindInMarks op r = false) : EvB C k env (.Compare l [op] [r] p) ρ μ c := fun A P s Q hA hS hQ =>
  wpAny_isTrue_Compare1 (h1 A P s _ hA hS fun v P1 h1 tk1 st1 r1 => h2 A P1 _ _ hA (hS.step st1) fun w P2 h2 tk2 st2 r2 =>
    h3 A P2 _ _ _ _ hA ((hS.step st1).step st2).gd ((hS.step st1).step st2).me (r1.mono st2.le) r2 fun u P3 h3 tk3 st3 r3 => by
      subst r3; exact wpAny_truthy_bool (hQ c P3 h3 tk3 ((st1.trans st2).trans st3) rfl)) hb

theorem EvB.not {e : Expr} {p : Pos} {c : Bool} (h : EvB C k env e ρ μ c) : EvB C k env (.UnaryOp .Not e p) ρ μ (!c) := fun A P s Q hA hS hQ =>
  wpAny_isTrue_Not (h A P s _ hA hS fun b P1 h1 tk1 st1 r1 => hQ _ P1 h1 tk1 st1 (by rw [r1]))
/-- all of them, left to right, as far as they are looked at -/
noncomputable def AllB (C : Cfg) (k : Nat) (env : Env) (op : BoolOp) (es : List Expr) (ρ : List (Option T)) (μ : Mem) (c : Bool) : Prop := Tr C k env (allTrue op es env) ρ μ fun _ v => v = c
theorem AllB.and_nil : AllB C k env .And [] ρ μ true := fun A P s Q hA hS hQ => wpAny_allTrue_And_nil (hQ _ P _ _ (.refl hS.gd.s) rfl)
theorem AllB.or_nil : AllB C k env .Or [] ρ μ false := fun A P s Q hA hS hQ => wpAny_allTrue_Or_nil (hQ _ P _ _ (.refl hS.gd.s) rfl)
theorem AllB.and_cons {e : Expr} {r : List Expr} {b c : Bool} (h : EvB C k env e ρ μ b) (h' : b = true → AllB C k env .And r ρ μ c) : AllB C k env .And (e :: r) ρ μ (b && c) := fun A P s Q hA hS hQ =>
  wpAny_allTrue_And_cons (h A P s _ hA hS fun b' P1 h1 tk1 st1 e => by
    subst e
    cases b' with
    | false => exact hQ _ P1 h1 tk1 st1 rfl
    | true => exact h' rfl A P1 _ _ hA (hS.step st1) fun c' P2 h2 tk2 st2 e => hQ _ P2 h2 tk2 (st1.trans st2) (by rw [e]; rfl))
theorem AllB.or_cons {e : Expr} {r : List Expr} {b c : Bool} (h : EvB C k env e ρ μ b) (h' : b = false → AllB C k env .Or r ρ μ c) : AllB C k env .Or (e :: r) ρ μ (b || c) := fun A P s Q hA hS hQ =>
  wpAny_allTrue_Or_cons (h A P s _ hA hS fun b' P1 h1 tk1 st1 e => by
    subst e
    cases b' with
    | true => exact hQ _ P1 h1 tk1 st1 rfl
    | false => exact h' rfl A P1 _ _ hA (hS.step st1) fun c' P2 h2 tk2 st2 e => hQ _ P2 h2 tk2 (st1.trans st2) (by rw [e]; rfl))
theorem EvB.bool {op : BoolOp} {es : List Expr} {p : Pos} {c : Bool} (h : AllB C k env op es ρ μ c) : EvB C k env (.BoolOp op es p) ρ μ c := fun A P s Q hA hS hQ => wpAny_isTrue_BoolOp (h A P s Q hA hS hQ)

theorem EvP.ife {t b o : Expr} {p : Pos} {c : Bool} {u : T} (h : EvB C k env t ρ μ c) (h1 : c = true → EvP C k env b ρ μ u) (h2 : c = false → EvP C k env o ρ μ u) : EvP C k env (.IfExp t b o p) ρ μ u := fun A P s Q hA hS hQ =>
  wpAny_IfExp (h A P s _ hA hS fun c' P1 hh tk1 st1 e => by
    subst e
    cases c' with
    | true => exact h1 rfl A P1 _ _ hA (hS.step st1) fun v P2 h2 tk2 st2 r2 => hQ v P2 h2 tk2 (st1.trans st2) r2
    | false => exact h2 rfl A P1 _ _ hA (hS.step st1) fun v P2 h2 tk2 st2 r2 => hQ v P2 h2 tk2 (st1.trans st2) r2)

theorem EvPs.nil {p : Pos} : EvPs C k env [] p ρ μ [] := fun A P s Q hA hS hQ => wpAny_items_nil (hQ _ P _ _ (.refl hS.gd.s) .nil)
theorem EvPs.cons {p : Pos} {e : Expr} {r : List Expr} {t : T} {ts : List T} (h : EvP C k env e ρ μ t) (h' : EvPs C k env r p ρ μ ts) (hs : starEach (e :: r) env = (false, eval e env) :: starEach r env) : EvPs C k env (e :: r) p ρ μ (t :: ts) := fun A P s Q hA hS hQ => by
  rw [hs]
  show wpAny _ A (spliced ((false, eval e env) :: backTo p (starEach r env))) _ _ s
  exact spliced_cons (h A P s _ hA hS fun v P1 h1 tk1 st1 r1 => h' A P1 _ _ hA (hS.step st1) fun vs P2 h2 tk2 st2 r2 => hQ _ P2 h2 tk2 (st1.trans st2) (.cons (r1.mono st2.le) r2))

/-- a fresh object joins the frozen part -/
theorem new_frozen {M : Model} {A : Around} {P : PM} {s : Shared} {c : String} {vs : List Value} {Q : Value → Shared → Prop} (sub : ∀ b o, P b = some o → s.heap.get? b = some o)
    (h : PStep P s.heap (P.add s.heap.objs.size { cls := .type c, data := .seq vs.toArray }) (s.heap.push { cls := .type c, data := .seq vs.toArray }) → Q (.ref s.heap.objs.size) { s with heap := s.heap.push { cls := .type c, data := .seq vs.toArray } }) (hz : vs.length ≤ sizeLine) :
    wpAny M A (newObj (.type c) (.seq vs.toArray)) Q (fun _ _ => False) s :=
  wpAny_newObj_type (h (.push sub rfl)) (by show vs.toArray.size ≤ sizeLine; rw [List.size_toArray]; exact hz)

theorem EvP.tuple {es : List Expr} {j : Nat} {p : Pos} {ts : List T} (h : EvPs C k env es p ρ μ ts) (hz : ts.length ≤ 1000) : EvP C k env (.Tuple es j p) ρ μ (.tup ts) := fun A P s Q hA hS hQ =>
  Tuple_ (h A P s _ hA hS fun vs P1 h1 tk1 st1 r1 => new_frozen (s := { s with heap := h1, toks := tk1 }) st1.sub (fun st2 => hQ _ _ _ _ (st1.trans st2) (.tup (PM.add_self _ _ _) (r1.mono st2.le))) (by rw [r1.length]; exact Nat.le_trans hz (by decide)))
theorem EvP.list {es : List Expr} {p : Pos} {ts : List T} (h : EvPs C k env es p ρ μ ts) (hz : ts.length ≤ 1000) : EvP C k env (.List es p) ρ μ (.lst ts) := fun A P s Q hA hS hQ =>
  List_ (h A P s _ hA hS fun vs P1 h1 tk1 st1 r1 => new_frozen (s := { s with heap := h1, toks := tk1 }) st1.sub (fun st2 => hQ _ _ _ _ (st1.trans st2) (.lst (PM.add_self _ _ _) (r1.mono st2.le))) (by rw [r1.length]; exact Nat.le_trans hz (by decide)))

/-- a subscript -/
noncomputable def SubOp (C : Cfg) (k : Nat) (μ : Mem) (value slice : Expr) (a b t : T) : Prop := Op2 C k μ (subscriptTail value slice) a b fun P v => Rep P v t
theorem EvP.sub {v i : Expr} {p : Pos} {a b t : T} (h1 : EvP C k env v ρ μ a) (h2 : EvP C k env i ρ μ b) (h3 : SubOp C k μ v i a b t) : EvP C k env (.Subscript v i p) ρ μ t := fun A P s Q hA hS hQ =>
  Subscript_ (h1 A P s _ hA hS fun v P1 h1 tk1 st1 r1 => h2 A P1 _ _ hA (hS.step st1) fun w P2 h2 tk2 st2 r2 =>
    h3 A P2 _ _ _ _ hA ((hS.step st1).step st2).gd ((hS.step st1).step st2).me (r1.mono st2.le) r2 fun u P3 h3 tk3 st3 r3 => hQ u P3 h3 tk3 ((st1.trans st2).trans st3) r3)

/-- a call: of a value known, on arguments -/
noncomputable def CallOp (C : Cfg) (k : Nat) (μ : Mem) (f : Value) (ts : List T) (t : T) : Prop :=
  ∀ (A : Around) (P : PM) (s : Shared) (vs : List Value) (Q : Value → Shared → Prop), Room k A → Gd C P s.heap → MemSt C P s.heap μ → Reps P vs ts →
    (∀ v P' h' tk, PStep P s.heap P' h' → Rep P' v t → Q v { s with heap := h', toks := tk }) → wpAny (model C.prog C.w) A (call f vs) Q (fun _ _ => False) s
theorem CallOp.le {k' : Nat} {f : Value} {ts : List T} {t : T} (h : CallOp C k μ f ts t) (hk : k ≤ k') : CallOp C k' μ f ts t := fun A P s vs Q hA => h A P s vs Q (hA.le hk)

/-- what may be called through callWith: a built-in, a type, a def -/
inductive Callee (C : Cfg) : Value → Prop
  | builtin {id : String} : Callee C (.builtin id)
  | type {n : String} : Callee C (.type n)
  | fn {a : Addr} {o : Obj} {fd : FuncData} : C.g0.get? a = some o → o.data = .func fd → Callee C (.ref a)

theorem plain_star {env : Env} {p : Pos} : ∀ {es : List Expr}, (∀ e ∈ es, isStarred e = false) → (backTo p (starEach es env)).any (·.1) = false
  | [], _ => rfl
  | e :: r, h => by
    have h1 := h e List.mem_cons_self
    have : starEach (e :: r) env = (false, eval e env) :: starEach r env := by cases e <;> first | rfl | (simp [isStarred] at h1)
    rw [this]
    show ((false || (backTo p (starEach r env)).any (·.1))) = false
    rw [plain_star fun e he => h e (List.mem_cons_of_mem _ he)]; rfl
theorem callWith_all {A : Around} {M : Model} {s : Shared} {f : Value} {env : Env} {p : Pos} {es : List Expr} {Q : Value → Shared → Prop} {g0 : Heap} (hs : (backTo p (starEach es env)).any (·.1) = false)
    (hf : (∃ id, f = .builtin id) ∨ (∃ n, f = .type n) ∨ ∃ a o fd, f = .ref a ∧ g0.get? a = some o ∧ o.data = .func fd)
    (h : wpAny M A (spliced (backTo p (starEach es env))) (fun vs s₁ => (∀ b o, g0.get? b = some o → s₁.heap.get? b = some o) ∧ wpAny M A (call f vs) Q (fun _ _ => False) s₁) (fun _ _ => False) s) :
    wpAny M A (callWith p f [] (backTo p (starEach es env)) []) Q (fun _ _ => False) s := by
  have ev : wpAny M A (evalArgs f true (backTo p (starEach es env)) []) (fun a s₁ => (∀ b o, g0.get? b = some o → s₁.heap.get? b = some o) ∧ wpAny M A (call f ([] ++ a.pos) a.kw) Q (fun _ _ => False) s₁) (fun _ _ => False) s := by
    generalize hl : backTo p (starEach es env) = l at h hs
    cases l with
    | nil => 
      exact fun Γ p' hΓ => evalArgs_nil3 (M := M) (A := A) (Q := fun a s₁ => (∀ b o, g0.get? b = some o → s₁.heap.get? b = some o) ∧ wpAny M A (call f ([] ++ a.pos) a.kw) Q (fun _ _ => False) s₁) (by have q := h Γ p' hΓ; unfold spliced at q; exact q) Γ p' hΓ
    | cons x r =>
      obtain ⟨st, tr⟩ := x
      have : st = false := by simp at hs; exact hs.1
      subst this
      exact evalArgs_plain (wpAny_mono h (fun vs s₁ hh => by simpa using hh) fun _ _ x => x)
  rcases hf with ⟨id, rfl⟩ | ⟨n, rfl⟩ | ⟨a, o, fd, rfl, ho, hd⟩
  · exact callWith_builtin hs (wpAny_mono ev (fun _ _ x => x.2) fun _ _ x => x)
  · exact PyProof.Rows.callWith_type hs (wpAny_mono ev (fun _ _ x => x.2) fun _ _ x => x)
  · exact callWith_function (wpAny_mono ev (fun _ _ x => ⟨⟨x.1 _ _ ho, hd⟩, x.2⟩) fun _ _ x => x)

theorem EvP.call {fx : Str} {fp p : Pos} {es : List Expr} {f : Value} {ts : List T} {t : T} (hf : Tr C k env (eval (.Name fx fp) env) ρ μ fun _ u => u = f) (hc : Callee C f) (hs : ∀ e ∈ es, isStarred e = false) (h : EvPs C k env es p ρ μ ts) (h3 : CallOp C k μ f ts t) :
    EvP C k env (.Call (.Name fx fp) es [] p) ρ μ t := fun A P s Q hA hS hQ =>
  wpAny_Call_NameR (hf A P s _ hA hS fun f' P1 h1 tk1 st1 e => by
    subst e
    refine callWith_all (g0 := C.g0) (plain_star hs) ?_ (h A P1 _ _ hA (hS.step st1) fun vs P2 h2 tk2 st2 r2 => ⟨((hS.step st1).step st2).gd.top, h3 A P2 _ _ _ hA ((hS.step st1).step st2).gd ((hS.step st1).step st2).me r2 fun u P3 h3 tk3 st3 r3 => hQ u P3 h3 tk3 ((st1.trans st2).trans st3) r3⟩)
    cases hc with
    | builtin => exact .inl ⟨_, rfl⟩
    | type => exact .inr (.inl ⟨_, rfl⟩)
    | fn a b => exact .inr (.inr ⟨_, _, _, rfl, a, b⟩))
end
end Mine

namespace Mine

inductive Out where
  | next (ρ : List (Option T)) (μ : Mem) | ret (t : T) (μ : Mem)

/-- a step that may change the objects of N -/
structure WStep (N : Addr → Prop) (P : PM) (h : Heap) (P' : PM) (h' : Heap) : Prop where
  keep : ∀ b o, ¬ N b → h.get? b = some o → h'.get? b = some o
  le : ∀ b o, P b = some o → P' b = some o
  new : ∀ b o, P' b = some o → P b = some o ∨ N b ∨ h.get? b = none
  sub : ∀ b o, P' b = some o → h'.get? b = some o
theorem WStep.trans {N N' : Addr → Prop} {P P' P'' : PM} {h h' h'' : Heap} (x : WStep N P h P' h') (y : WStep N' P' h' P'' h'') (hn : ∀ b, N' b → N b ∨ h.get? b = none) : WStep N P h P'' h'' where
  keep b o w e := y.keep b o (fun q => (hn b q).elim w fun z => by rw [e] at z; cases z) (x.keep b o w e)
  le b o e := y.le b o (x.le b o e)
  new b o e := by
    rcases y.new b o e with e' | e' | e'
    · exact x.new b o e'
    · exact .inr (hn b e')
    · refine .inr (Classical.byCases (p := N b) .inl fun w => .inr ?_)
      cases q : h.get? b with
      | none => rfl
      | some o' => rw [x.keep b o' w q] at e'; cases e'
  sub := y.sub
theorem PStep.toW {N : Addr → Prop} {P P' : PM} {h h' : Heap} (x : PStep P h P' h') : WStep N P h P' h' :=
  ⟨fun b o _ e => x.keep b o e, x.le, fun b o e => (x.new b o e).imp id .inr, x.sub⟩
theorem Gd.wstep {C : Cfg} {N : Addr → Prop} {P P' : PM} {h h' : Heap} (G : Gd C P h) (x : WStep N P h P' h') : Gd C P' h' := ⟨fun b o e => x.le b o (G.g b o e), x.sub⟩
theorem WStep.refl {N : Addr → Prop} {P : PM} {h : Heap} (s : ∀ b o, P b = some o → h.get? b = some o) : WStep N P h P h := ⟨fun _ _ _ e => e, fun _ _ e => e, fun _ _ e => .inl e, s⟩

theorem WStep.wide {N N' : Addr → Prop} {P P' : PM} {h h' : Heap} (w : WStep N P h P' h') (hn : ∀ b, N b → N' b) : WStep N' P h P' h' :=
  ⟨fun b o q e => w.keep b o (fun z => q (hn b z)) e, w.le, fun b o e => (w.new b o e).imp id fun z => z.imp (hn b) id, w.sub⟩

/-- what the call owns -/
noncomputable abbrev NM (μ : Mem) (b : Addr) : Prop := b ∈ μ.map (·.1)
/-- what the running frame may change -/
noncomputable def NN (env : Env) (μ : Mem) (b : Addr) : Prop := b ∈ FA env ∨ b ∈ μ.map (·.1)
theorem WStep.nn {env : Env} {μ : Mem} {P P' : PM} {h h' : Heap} (w : WStep (NM μ) P h P' h') : WStep (NN env μ) P h P' h' := w.wide fun _ => .inr
/-- the objects owned later are the ones owned now or newer ones -/
noncomputable def Sub (μ : Mem) (h : Heap) (μ' : Mem) : Prop := ∀ a ∈ μ'.map (·.1), a ∈ μ.map (·.1) ∨ h.get? a = none
theorem Sub.refl {μ : Mem} {h : Heap} : Sub μ h μ := fun _ h => .inl h
theorem Sub.nn {env : Env} {μ μ' : Mem} {h : Heap} (x : Sub μ h μ') : ∀ b, NN env μ' b → NN env μ b ∨ h.get? b = none := fun b hb => hb.elim (fun q => .inl (.inl q)) fun q => (x b q).elim (fun z => .inl (.inr z)) .inr
theorem Sub.trans {env : Env} {μ μ' μ'' : Mem} {P P' : PM} {h h' : Heap} (x : Sub μ h μ') (w : WStep (NN env μ) P h P' h') (y : Sub μ' h' μ'') (ap : ∀ a ∈ FA env, a ∉ μ''.map (·.1)) : Sub μ h μ'' := fun a ha => by
  rcases y a ha with q | q
  · exact x a q
  · by_cases hm : a ∈ μ.map (·.1)
    · exact .inl hm
    · refine .inr ?_
      cases e : h.get? a with
      | none => rfl
      | some o => rw [w.keep a o (fun n => n.elim (fun f => ap a f ha) hm) e] at q; cases q
theorem Sub.trans' {N : Addr → Prop} {μ μ' μ'' : Mem} {P P' : PM} {h h' : Heap} (x : Sub μ h μ') (w : WStep N P h P' h') (hN : ∀ a, N a → a ∈ μ.map (·.1) ∨ h.get? a = none) (y : Sub μ' h' μ'') : Sub μ h μ'' := fun a ha => by
  rcases y a ha with q | q
  · exact x a q
  · by_cases hm : N a
    · exact hN a hm
    · refine .inr ?_
      cases e : h.get? a with
      | none => rfl
      | some o => rw [w.keep a o hm e] at q; cases q

noncomputable def OutOK (C : Cfg) (env : Env) (μ : Mem) (h : Heap) (P' : PM) (h' : Heap) : Out → Flow → Prop
  | .next ρ' μ', f => f = .next ∧ St C env P' h' ρ' μ' ∧ Sub μ h μ'
  | .ret t μ', f => ∃ v, f = .ret v ∧ Rep P' v t ∧ MemSt C P' h' μ' ∧ Sub μ h μ' ∧ ∀ a ∈ FA env, a ∉ μ'.map (·.1)

noncomputable def ExT (C : Cfg) (k : Nat) (env : Env) (m : Sem Flow) (ρ : List (Option T)) (μ : Mem) (Ψ : Out → Prop) : Prop :=
  ∀ (A : Around) (P : PM) (s : Shared) (Q : Flow → Shared → Prop), Room k A → St C env P s.heap ρ μ →
    (∀ f P' h' tk o, Ψ o → WStep (NN env μ) P s.heap P' h' → OutOK C env μ s.heap P' h' o f → Q f { s with heap := h', toks := tk }) → wpAny (model C.prog C.w) A m Q (fun _ _ => False) s
noncomputable abbrev Ex (C : Cfg) (k : Nat) (env : Env) (sts : List Stmt) (ρ : List (Option T)) (μ : Mem) (Ψ : Out → Prop) : Prop := ExT C k env (execs sts env) ρ μ Ψ
noncomputable abbrev Ex1 (C : Cfg) (k : Nat) (env : Env) (st : Stmt) (ρ : List (Option T)) (μ : Mem) (Ψ : Out → Prop) : Prop := ExT C k env (exec st env) ρ μ Ψ

/-- an evaluation that may change what the call owns -/
noncomputable def EvT {α : Type} (C : Cfg) (k : Nat) (env : Env) (m : Sem α) (ρ : List (Option T)) (μ : Mem) (Φ : PM → α → Mem → Prop) : Prop :=
  ∀ (A : Around) (P : PM) (s : Shared) (Q : α → Shared → Prop), Room k A → St C env P s.heap ρ μ →
    (∀ v P' h' tk μ', Φ P' v μ' → WStep (NM μ) P s.heap P' h' → St C env P' h' ρ μ' → Sub μ s.heap μ' → Q v { s with heap := h', toks := tk }) → wpAny (model C.prog C.w) A m Q (fun _ _ => False) s
noncomputable abbrev Ev (C : Cfg) (k : Nat) (env : Env) (e : Expr) (ρ : List (Option T)) (μ : Mem) (Φ : T → Mem → Prop) : Prop := EvT C k env (eval e env) ρ μ fun P v μ' => ∃ t, Rep P v t ∧ Φ t μ'

section
variable {C : Cfg} {k : Nat} {env : Env} {ρ : List (Option T)} {μ : Mem} {Ψ : Out → Prop}

theorem St.sub' {P P' : PM} {h h' : Heap} {μ' : Mem} {ρ' : List (Option T)} (hS : St C env P h ρ μ) (S' : St C env P' h' ρ' μ') : ∀ a ∈ FA env, a ∉ μ'.map (·.1) := S'.ap
theorem Tr.evT {α : Type} {m : Sem α} {R : PM → α → Prop} (h : Tr C k env m ρ μ R) : EvT C k env m ρ μ fun P v μ' => R P v ∧ μ' = μ := fun A P s Q hA hS hQ =>
  h A P s Q hA hS fun v P' h' tk st r => hQ v P' h' tk μ ⟨r, rfl⟩ st.toW (hS.step st) .refl
theorem EvP.ev {e : Expr} {t : T} {Φ : T → Mem → Prop} (h : EvP C k env e ρ μ t) (hΦ : Φ t μ) : Ev C k env e ρ μ Φ := fun A P s Q hA hS hQ =>
  h A P s Q hA hS fun v P' h' tk st r => hQ v P' h' tk μ ⟨t, r, hΦ⟩ st.toW (hS.step st) .refl

theorem Ex.mono {m : Sem Flow} {Ψ' : Out → Prop} (h : ExT C k env m ρ μ Ψ) (hi : ∀ o, Ψ o → Ψ' o) : ExT C k env m ρ μ Ψ' := fun A P s Q hA hS hQ =>
  h A P s Q hA hS fun f P' h' tk o ho => hQ f P' h' tk o (hi o ho)

/-- after a step of the same frame -/
theorem OutOK.after {P P' P'' : PM} {h h' h'' : Heap} {ρ' : List (Option T)} {μ' : Mem} (hS : St C env P' h' ρ' μ') (x : Sub μ h μ') (w : WStep (NN env μ) P h P' h') : ∀ {o : Out} {f : Flow}, OutOK C env μ' h' P'' h'' o f → OutOK C env μ h P'' h'' o f
  | .next _ _, _, ⟨e, S, y⟩ => ⟨e, S, x.trans w y S.ap⟩
  | .ret _ _, _, ⟨v, e, r, M, y, ap⟩ => ⟨v, e, r, M, x.trans w y ap, ap⟩

theorem Ex.nil (h : Ψ (.next ρ μ)) : Ex C k env [] ρ μ Ψ := fun A P s Q hA hS hQ => wpAny_execs_nil (hQ _ P _ _ _ h (.refl hS.gd.s) ⟨rfl, hS, .refl⟩)
theorem Ex.cons {st : Stmt} {rest : List Stmt} (h : Ex1 C k env st ρ μ fun o => match o with | .next ρ' μ' => Ex C k env rest ρ' μ' Ψ | .ret t μ' => Ψ (.ret t μ')) : Ex C k env (st :: rest) ρ μ Ψ := fun A P s Q hA hS hQ => by
  refine wpAny_execs_cons (h A P s _ hA hS fun f P1 h1 tk1 o ho w1 ok => ?_)
  cases o with
  | next ρ' μ' =>
    obtain ⟨rfl, hS1, x1⟩ := ok
    exact ho A P1 _ _ hA hS1 fun f P2 h2 tk2 o ho w2 ok => hQ f P2 h2 tk2 o ho (w1.trans w2 x1.nn) (ok.after hS1 x1 w1)
  | ret t μ' =>
    obtain ⟨v, rfl, r⟩ := ok
    exact hQ _ P1 h1 tk1 _ ho w1 ⟨v, rfl, r⟩

theorem Ex1.ret {e : Expr} {p : Pos} (h : Ev C k env e ρ μ fun t μ' => Ψ (.ret t μ')) : Ex1 C k env (.Return (some e) p) ρ μ Ψ := fun A P s Q hA hS hQ =>
  wpAny_Return_some (h A P s _ hA hS fun v P' h' tk μ' hΦ w st' x => by
    obtain ⟨t, r, hp⟩ := hΦ
    exact hQ _ P' h' tk _ hp w.nn ⟨v, rfl, r, st'.me, x, st'.ap⟩)

theorem Ex1.ite {t : Expr} {b o : List Stmt} {p : Pos} {c : Bool} (h : EvB C k env t ρ μ c) (h1 : c = true → Ex C k env b ρ μ Ψ) (h2 : c = false → Ex C k env o ρ μ Ψ) : Ex1 C k env (.If t b o p) ρ μ Ψ := fun A P s Q hA hS hQ =>
  wpAny_If (h A P s _ hA hS fun c' P1 hh tk1 st1 e => by
    subst e
    cases c' with
    | true => exact h1 rfl A P1 _ _ hA (hS.step st1) fun f P2 h2 tk2 o ho w2 ok => hQ f P2 h2 tk2 o ho (st1.toW.trans w2 fun _ => .inl) (ok.after (hS.step st1) .refl st1.toW)
    | false => exact h2 rfl A P1 _ _ hA (hS.step st1) fun f P2 h2 tk2 o ho w2 ok => hQ f P2 h2 tk2 o ho (st1.toW.trans w2 fun _ => .inl) (ok.after (hS.step st1) .refl st1.toW))

/-- a change at one address of the call's own, the frozen part as it is -/
theorem MemSt.but {P : PM} {h h' : Heap} {a : Addr} (M : MemSt C P h μ) (hs : Heap.SameBut a h h') (sub : ∀ b o, P b = some o → h'.get? b = some o) (ha : a ∉ μ.map (·.1)) : MemSt C P h' μ :=
  ⟨fun e he => (M.rep e he).keep (fun _ _ x => x) sub fun o q => hs.extBut _ _ (fun x => ha (x ▸ List.mem_map.mpr ⟨e, he, rfl⟩)) q, M.off, M.nd⟩
theorem sub_but {P : PM} {h h' : Heap} {a : Addr} (s : ∀ b o, P b = some o → h.get? b = some o) (hs : Heap.SameBut a h h') (ha : P a = none) : ∀ b o, P b = some o → h'.get? b = some o := fun b o e => hs.extBut b o (fun x => by rw [x, ha] at e; cases e) (s b o e)
theorem wstep_but {N : Addr → Prop} {P : PM} {h h' : Heap} {a : Addr} (s : ∀ b o, P b = some o → h.get? b = some o) (hs : Heap.SameBut a h h') (ha : P a = none) (hw : N a) : WStep N P h P h' :=
  ⟨fun b o w e => hs.extBut b o (fun x => w (x ▸ hw)) e, fun _ _ e => e, fun _ _ e => .inl e, sub_but s hs ha⟩

theorem names_ne {l : List (Str × NameKind)} {i j : Nat} {x y : Str} {a b : NameKind} (hn : (l.map (·.1)).Nodup) (hi : l[i]? = some (x, a)) (hj : l[j]? = some (y, b)) (h : j ≠ i) : y ≠ x := fun e => by
  have h1 : (l.map (·.1))[i]? = some x := by simp [hi]
  have h2 : (l.map (·.1))[j]? = some y := by simp [hj]
  obtain ⟨li, e1⟩ := List.getElem?_eq_some_iff.mp h1
  obtain ⟨lj, e2⟩ := List.getElem?_eq_some_iff.mp h2
  exact h ((List.getElem_inj hn).mp (e2.trans (e.trans e1.symm)))
theorem cells_ne {l : List (Str × Addr)} {x y : Str} {a b : Addr} (hn : (l.map (·.2)).Nodup) (hx : l.lookup x = some a) (hy : l.lookup y = some b) (h : y ≠ x) : b ≠ a := fun e => by
  have h1 := mem_of_lookup hx
  have h2 := mem_of_lookup hy
  subst e
  obtain ⟨i, hi, e1⟩ := List.getElem_of_mem h1
  obtain ⟨j, hj, e2⟩ := List.getElem_of_mem h2
  have h3 : (l.map (·.2))[i]'(by simpa using hi) = (l.map (·.2))[j]'(by simpa using hj) := by simp [e1, e2]
  have : i = j := (List.getElem_inj hn).mp h3
  subst this
  rw [e1] at e2
  exact h (Prod.mk.inj e2).1.symm
theorem set_get {α : Type} {l : List α} {i j : Nat} {x y : α} (h : (l.set i x)[j]? = some y) : (j = i ∧ y = x) ∨ (j ≠ i ∧ l[j]? = some y) := by
  rw [List.getElem?_set] at h
  split at h
  · rename_i e
    split at h
    · cases h; exact .inl ⟨e.symm, rfl⟩
    · cases h
  · rename_i e; exact .inr ⟨fun q => e q.symm, h⟩

theorem store_name {M : Model} {A : Around} {P : PM} {s : Shared} {x : Str} {i : Nat} {kd : NameKind} {v : Value} {t : T} {Q : Unit → Shared → Prop} (hS : St C env P s.heap ρ μ)
    (hi : env.scope.names[i]? = some (x, kd)) (hkd : kd = .local ∨ kd = .cell) (hr : Rep P v t)
    (h : ∀ h' tk, St C env P h' (ρ.set i (some t)) μ → WStep (NN env μ) P s.heap P h' → Q () { s with heap := h', toks := tk }) : wpAny M A (storeName env x v) Q (fun _ _ => False) s := by
  have hl : env.kindOf x = some kd := lookup_of_get hS.fr.nd hi
  rcases hkd with rfl | rfl
  · obtain ⟨m, hn, hm⟩ := hS.fr.m
    have hLoff := hS.fr.off env.locals (List.mem_cons_self ..)
    refine wpAny_storeName_local hl hn (fun h' hn' hs' => ?_) (by rw [hS.fr.kind]; rfl)
    have sub := sub_but hS.gd.s hs' hLoff
    refine h h' _ ⟨⟨hS.gd.g, sub⟩, { hS.fr with
      m := ⟨_, hn', fun j y u hj hu => ?_⟩
      c := fun j y kd' u hj hk' hu => ?_
      ce := fun y c hc => ?_ }, hS.me.but hs' sub (hS.ap _ (List.mem_cons_self ..)), hS.ap⟩ (wstep_but hS.gd.s hs' hLoff (.inl (List.mem_cons_self ..)))
    · rcases set_get hu with ⟨rfl, e⟩ | ⟨hne, hu⟩
      · cases e
        rw [hi] at hj; cases hj
        exact ⟨v, by simp, hr⟩
      · obtain ⟨v', e, r⟩ := hm j y u hj hu
        exact ⟨v', by simp [names_ne hS.fr.nd hi hj hne, e], r⟩
    · rcases set_get hu with ⟨rfl, e⟩ | ⟨hne, hu⟩
      · rw [hi] at hj; cases hj; rcases hk' with h | h <;> cases h
      · obtain ⟨c, v', hc, hv, r⟩ := hS.fr.c j y kd' u hj hk' hu
        exact ⟨c, v', hc, hv.sameBut hs' (fun e => hS.fr.lc (e ▸ List.mem_map.mpr ⟨_, mem_of_lookup hc, rfl⟩)), r⟩
    · obtain ⟨v', hv⟩ := hS.fr.ce y c hc
      exact ⟨v', hv.sameBut hs' (fun e => hS.fr.lc (e ▸ List.mem_map.mpr ⟨_, hc, rfl⟩))⟩
  · -- a cell
    cases hc : env.cells.lookup x with
    | none =>
      obtain ⟨c, e⟩ := hS.fr.cx i x _ hi (.inl rfl)
      rw [hc] at e; cases e
    | some c =>
      have hmem : c ∈ env.cells.map (·.2) := List.mem_map.mpr ⟨_, mem_of_lookup hc, rfl⟩
      have hcf : c ∈ FA env := List.mem_cons_of_mem _ hmem
      obtain ⟨v₀, hv₀⟩ := hS.fr.ce x c (mem_of_lookup hc)
      have hoff := hS.fr.off c hcf
      refine wpAny_storeName_cell hS.fr.kind hl hc hv₀ fun h' hv' hs' => ?_
      have sub := sub_but hS.gd.s hs' hoff
      refine h h' _ ⟨⟨hS.gd.g, sub⟩, { hS.fr with
        m := ?_
        c := fun j y kd' u hj hk' hu => ?_
        ce := fun y c' hc' => ?_ }, hS.me.but hs' sub (hS.ap _ hcf), hS.ap⟩ (wstep_but hS.gd.s hs' hoff (.inl hcf))
      · obtain ⟨m, hn, hm⟩ := hS.fr.m
        refine ⟨m, hn.sameBut hs' (fun e => hS.fr.lc (e ▸ hmem)), fun j y u hj hu => ?_⟩
        rcases set_get hu with ⟨rfl, e⟩ | ⟨hne, hu⟩
        · rw [hi] at hj; cases hj
        · exact hm j y u hj hu
      · rcases set_get hu with ⟨rfl, e⟩ | ⟨hne, hu⟩
        · cases e
          rw [hi] at hj; cases hj
          exact ⟨c, v, hc, hv', hr⟩
        · obtain ⟨c', v', hc', hv, r⟩ := hS.fr.c j y kd' u hj hk' hu
          exact ⟨c', v', hc', hv.sameBut hs' (cells_ne hS.fr.cnd hc hc' (names_ne hS.fr.nd hi hj hne)), r⟩
      · by_cases e : c' = c
        · exact ⟨_, e ▸ hv'⟩
        · obtain ⟨v', hv⟩ := hS.fr.ce y c' hc'
          exact ⟨v', hv.sameBut hs' e⟩
end
end Mine

namespace Mine

section
variable {C : Cfg} {k : Nat} {env : Env} {ρ : List (Option T)} {μ : Mem} {Ψ : Out → Prop}

theorem Ex1.assign {x : Str} {px p : Pos} {e : Expr} {i : Nat} {kd : NameKind} (h : Ev C k env e ρ μ fun t μ' => Ψ (.next (ρ.set i (some t)) μ'))
    (hi : env.scope.names[i]? = some (x, kd)) (hkd : kd = .local ∨ kd = .cell) (hs : swapsWith e (some (.Name x px)) p.line env = pure false) : Ex1 C k env (.Assign [.Name x px] e p) ρ μ Ψ := fun A P s Q hA hS hQ =>
  wpAny_Assign_Name (h A P s _ hA hS fun v P1 h1 tk1 μ' hΦ w1 S1 x1 => by
    obtain ⟨t, r, hp⟩ := hΦ
    exact store_name (s := { s with heap := h1, toks := tk1 }) S1 hi hkd r fun h' tk S2 w2 => hQ _ P1 h' tk _ hp (w1.nn.trans w2 x1.nn) ⟨rfl, S2, x1⟩) hs

/-- a target of an assignment: f is what it makes of the frame -/
noncomputable def Tgt (C : Cfg) (k : Nat) (env : Env) (m : Value → Sem Unit) (R : PM → Value → Prop) (f : List (Option T) → List (Option T)) : Prop :=
  ∀ (A : Around) (P : PM) (s : Shared) (v : Value) (ρ : List (Option T)) (μ : Mem) (Q : Unit → Shared → Prop), Room k A → St C env P s.heap ρ μ → R P v →
    (∀ h' tk, St C env P h' (f ρ) μ → WStep (NN env []) P s.heap P h' → Q () { s with heap := h', toks := tk }) → wpAny (model C.prog C.w) A (m v) Q (fun _ _ => False) s

theorem wstep_frame {P P' : PM} {h h' : Heap} (w : WStep (NN env []) P h P' h') : WStep (NN env μ) P h P' h' :=
  ⟨fun b o n e => w.keep b o (fun q => n (q.elim .inl fun z => by simp at z)) e, w.le, fun b o e => (w.new b o e).imp id fun q => q.imp (fun z => z.elim .inl fun y => by simp at y) id, w.sub⟩

theorem store_name0 {M : Model} {A : Around} {P : PM} {s : Shared} {x : Str} {i : Nat} {kd : NameKind} {v : Value} {t : T} {Q : Unit → Shared → Prop} (hS : St C env P s.heap ρ μ)
    (hi : env.scope.names[i]? = some (x, kd)) (hkd : kd = .local ∨ kd = .cell) (hr : Rep P v t)
    (h : ∀ h' tk, St C env P h' (ρ.set i (some t)) μ → WStep (NN env []) P s.heap P h' → Q () { s with heap := h', toks := tk }) : wpAny M A (storeName env x v) Q (fun _ _ => False) s :=
  store_name (μ := []) ⟨hS.gd, hS.fr, ⟨fun _ h => (nomatch h), fun _ h => (nomatch h), List.nodup_nil⟩, fun _ _ h => (nomatch h)⟩ hi hkd hr fun h' tk S w => h h' tk
    ⟨S.gd, S.fr, ⟨fun e he => (hS.me.rep e he).keep (fun _ _ q => q) S.gd.s fun o q => w.keep _ _ (fun n => n.elim (fun f => hS.ap _ f (List.mem_map.mpr ⟨e, he, rfl⟩)) fun z => (nomatch z)) q, hS.me.off, hS.me.nd⟩, hS.ap⟩ w

theorem Tgt.name {x : Str} {px : Pos} {i : Nat} {kd : NameKind} {t : T} (hi : env.scope.names[i]? = some (x, kd)) (hkd : kd = .local ∨ kd = .cell) : Tgt C k env (assign (.Name x px) env) (fun P v => Rep P v t) fun ρ => ρ.set i (some t) := fun A P s v ρ μ Q hA hS hr hQ =>
  PySem.wpAny_assign_Name (store_name0 hS hi hkd hr hQ)
theorem Tgt.bind {x : Str} {i : Nat} {kd : NameKind} {t : T} (hi : env.scope.names[i]? = some (x, kd)) (hkd : kd = .local ∨ kd = .cell) : Tgt C k env (bindName env x) (fun P v => Rep P v t) fun ρ => ρ.set i (some t) := fun A P s v ρ μ Q hA hS hr hQ =>
  PySem.wpAny_bindName (store_name0 hS hi hkd hr hQ)

/-- several targets in order -/
inductive Tgts (C : Cfg) (k : Nat) (env : Env) : List (Value → Sem Unit) → List T → (List (Option T) → List (Option T)) → Prop
  | nil : Tgts C k env [] [] id
  | cons {m : Value → Sem Unit} {ms : List (Value → Sem Unit)} {t : T} {ts : List T} {f g : List (Option T) → List (Option T)} : Tgt C k env m (fun P v => Rep P v t) f → Tgts C k env ms ts g → Tgts C k env (m :: ms) (t :: ts) fun ρ => g (f ρ)

theorem nn_nil {h : Heap} : ∀ b, NN env [] b → NN env [] b ∨ h.get? b = none := fun _ => .inl
theorem assignInOrder_all : ∀ {ms : List (Value → Sem Unit)} {ts : List T} {f : List (Option T) → List (Option T)}, Tgts C k env ms ts f → ∀ {A : Around} {P : PM} {s : Shared} {vs : List Value} {ρ : List (Option T)} {μ : Mem} {Q : Unit → Shared → Prop}, Room k A → St C env P s.heap ρ μ → Reps P vs ts →
    (∀ h' tk, St C env P h' (f ρ) μ → WStep (NN env []) P s.heap P h' → Q () { s with heap := h', toks := tk }) → wpAny (model C.prog C.w) A (assignInOrder ms vs) Q (fun _ _ => False) s
  | _, _, _, .nil, A, P, s, _, ρ, μ, Q, hA, hS, .nil, hQ => wpAny_pure (hQ s.heap s.toks hS (.refl hS.gd.s))
  | _, _, _, .cons h1 hr, A, P, s, _, ρ, μ, Q, hA, hS, .cons r rs, hQ => by
    unfold assignInOrder
    refine wpAny_bind (wpAny_holding (h1 A P s _ ρ μ _ hA hS r fun h' tk S1 w1 => ?_))
    exact assignInOrder_all hr (s := { s with heap := h', toks := tk }) hA S1 rs fun h'' tk' S2 w2 => hQ h'' tk' S2 (w1.trans w2 nn_nil)

theorem Rep.tupAt {P : PM} {v : Value} {ts : List T} {h : Heap} (s : ∀ b o, P b = some o → h.get? b = some o) (r : Rep P v (.tup ts)) : ∃ a vs, v = .ref a ∧ h.IsTuple a vs.toArray ∧ Reps P vs ts := by
  cases r with
  | tup h1 h4 => exact ⟨_, _, rfl, ⟨_, s _ _ h1, rfl, _, rfl⟩, h4⟩
theorem Rep.lstAt {P : PM} {v : Value} {ts : List T} {h : Heap} (s : ∀ b o, P b = some o → h.get? b = some o) (r : Rep P v (.lst ts)) : ∃ a vs, v = .ref a ∧ h.IsList a vs.toArray ∧ Reps P vs ts := by
  cases r with
  | lst h1 h4 => exact ⟨_, _, rfl, ⟨_, s _ _ h1, rfl, _, rfl⟩, h4⟩

theorem extBut_keep {h h' : Heap} (e : Heap.ExtBut h.objs.size h h') : ∀ b o, h.get? b = some o → h'.get? b = some o := fun b o q => e b o (Nat.ne_of_lt (Heap.lt_size q)) q

/-- a tuple unpacked onto targets -/
theorem unpack_all {ms : List (Bool × (Value → Sem Unit))} {ts : List T} {f : List (Option T) → List (Option T)} (hm : Tgts C k env (ms.map (·.2)) ts f) (hstar : ms.findIdx? (·.1) = none) :
    Tgt C k env (fun v => unpack v ms) (fun P v => Rep P v (.tup ts)) f := fun A P s v ρ μ Q hA hS hr hQ => by
  obtain ⟨a, vs, rfl, ht, rs⟩ := hr.tupAt hS.gd.s
  have hl : ms.length = vs.length := by
    have h1 : ∀ {ms : List (Value → Sem Unit)} {ts : List T} {f : List (Option T) → List (Option T)}, Tgts C k env ms ts f → ms.length = ts.length := by
      intro ms ts f h
      induction h with
      | nil => rfl
      | cons _ _ ih => simp [ih]
    have := h1 hm
    rw [rs.length, ← this, List.length_map]
  refine wpAny_unpack_tuple hA.h ht (by simpa using hl) hstar fun h' he => ?_
  have g : PStep P s.heap P h' := .grow hS.gd.s (extBut_keep he)
  exact assignInOrder_all hm (s := { s with heap := h' }) hA (hS.step g) (by simpa using rs) fun h'' tk S2 w2 => hQ h'' tk S2 (g.toW.trans w2 nn_nil)

theorem Tgt.tuple {es : List Expr} {j : Nat} {p : Pos} {ts : List T} {f : List (Option T) → List (Option T)} (hm : Tgts C k env ((assignEach es env).map (·.2)) ts f) (hstar : (assignEach es env).findIdx? (·.1) = none) :
    Tgt C k env (assign (.Tuple es j p) env) (fun P v => Rep P v (.tup ts)) f := fun A P s v ρ μ Q hA hS hr hQ => by
  rw [arm_assign_Tuple]
  exact wpAny_bind (wpAny_standAt (unpack_all hm hstar A P s v ρ μ Q hA hS hr hQ))

theorem Ex1.assignTup {es : List Expr} {j : Nat} {tp p : Pos} {e : Expr} {ts : List T} {f : List (Option T) → List (Option T)} (h : Ev C k env e ρ μ fun t μ' => t = .tup ts ∧ Ψ (.next (f ρ) μ'))
    (hm : Tgts C k env ((assignEach es env).map (·.2)) ts f) (hstar : (assignEach es env).findIdx? (·.1) = none)
    (hs : swapsWithSole [.Tuple es j tp] e p.line env = pure false) (hw : swappedStores [.Tuple es j tp] e env = pure none) : Ex1 C k env (.Assign [.Tuple es j tp] e p) ρ μ Ψ := fun A P s Q hA hS hQ =>
  Assign_Tuple (h A P s _ hA hS fun v P1 h1 tk1 μ' hΦ w1 S1 x1 => by
    obtain ⟨t, r, rfl, hp⟩ := hΦ
    exact Tgt.tuple hm hstar A P1 { s with heap := h1, toks := tk1 } v ρ μ' _ hA S1 r fun h' tk S2 w2 => hQ _ P1 h' tk _ hp (w1.nn.trans (wstep_frame w2) x1.nn) ⟨rfl, S2, x1⟩) hs hw

theorem Ex1.assignSwap {es : List Expr} {j : Nat} {tp p : Pos} {e : Expr} {ns : List Str} {ts : List T} {f : List (Option T) → List (Option T)} (h : Ev C k env e ρ μ fun t μ' => t = .tup ts ∧ Ψ (.next (f ρ) μ'))
    (hm : Tgts C k env (ns.reverse.map fun n => bindName env n) ts.reverse f) (hl : ns.length = ts.length)
    (hs : swapsWithSole [.Tuple es j tp] e p.line env = pure false) (hw : swappedStores [.Tuple es j tp] e env = pure (some ns)) : Ex1 C k env (.Assign [.Tuple es j tp] e p) ρ μ Ψ := fun A P s Q hA hS hQ =>
  Assign_Tuple_swapped (h A P s _ hA hS fun v P1 h1 tk1 μ' hΦ w1 S1 x1 => by
    obtain ⟨t, r, rfl, hp⟩ := hΦ
    obtain ⟨a, vs, rfl, ht, rs⟩ := r.tupAt S1.gd.s
    have hl' : ns.length = vs.toArray.size := by rw [hl, ← rs.length]; simp
    rw [hl']
    refine wpAny_unpackItems_tuple (s := { s with heap := h1, toks := tk1 }) hA.h ht fun h' he => ?_
    have g : PStep P1 h1 P1 h' := .grow S1.gd.s (extBut_keep he)
    exact assignInOrder_all hm (s := { s with heap := h', toks := tk1 }) hA (S1.step g) (by simpa using rs.reverse) fun h'' tk S2 w2 => hQ _ P1 h'' tk _ hp (w1.nn.trans (wstep_frame (g.toW.trans w2 nn_nil)) x1.nn) ⟨rfl, S2, x1⟩) hs hw
end
end Mine

namespace Mine

/-- what is known of a turn's value -/
noncomputable abbrev EltR := Nat → PM → Heap → Value → Prop
/-- the turns of an iterator over n items -/
structure Turns (C : Cfg) (target : Expr) (n : Nat) (R : EltR) (A : Around) (h0 : Heap) (P' : PM) (h' : Heap) (I : Addr) (fp wr : List Addr) (Pn Md : Nat → Value → Heap → Prop) (Sn : Nat → Heap → Prop) : Prop where
  w : KTurns C.prog C.w A target I fp wr n Pn Md Sn
  st : Sn 0 h'
  hfp : ∀ b ∈ fp, (∃ o, P' b = some o) ∨ (h0.get? b = none ∧ ∃ o, h'.get? b = some o)
  hwr : ∀ b ∈ wr, h0.get? b = none ∧ P' b = none ∧ ∃ o, h'.get? b = some o
  live : ∀ i h, Sn i h → ∀ b ∈ wr, ∃ o, h.get? b = some o
  self : ∀ i (s : Shared) (Q : Value → Shared → Prop) (E : Value → Shared → Prop), Sn i s.heap → Q (.ref I) s → wpAny (model C.prog C.w) A (pyIter (.ref I)) Q E s
  elt : ∀ (i : Nat) (v : Value) (Pc : PM) (hc : Heap), i < n → (∀ b o, P' b = some o → Pc b = some o) → (∀ b o, Pc b = some o → hc.get? b = some o) → Pn i v hc → R i Pc hc v

noncomputable def TupAt (P : PM) (h : Heap) (v : Value) (ts : List T) : Prop := ∃ (a : Addr) (vs : List Value), v = .ref a ∧ h.IsTuple a vs.toArray ∧ Reps P vs ts
noncomputable abbrev RepR (ts : Nat → T) : EltR := fun i P _ v => Rep P v (ts i)
noncomputable abbrev TupR (ts : Nat → List T) : EltR := fun i P h v => TupAt P h v (ts i)
/-- a target in a loop's turn -/
noncomputable def TgtH (C : Cfg) (k : Nat) (env : Env) (target : Expr) (R : PM → Heap → Value → Prop) (f : List (Option T) → List (Option T)) : Prop :=
  ∀ (A : Around) (P : PM) (s : Shared) (v : Value) (ρ : List (Option T)) (μ : Mem) (Q : Unit → Shared → Prop), Room k A → St C env P s.heap ρ μ → R P s.heap v →
    (∀ h' tk, St C env P h' (f ρ) μ → WStep (NN env []) P s.heap P h' → Q () { s with heap := h', toks := tk }) → wpAny (model C.prog C.w) A (assign target env v) Q (fun _ _ => False) s

/-- an iterable evaluated and its iterator made -/
noncomputable def IterOK (C : Cfg) (k : Nat) (env : Env) (iter target : Expr) (ρ : List (Option T)) (μ : Mem) (n : Nat) (R : EltR) : Prop :=
  ∀ (A : Around) (P : PM) (s : Shared) (Q : Value → Shared → Prop), Room k A → St C env P s.heap ρ μ →
    (∀ I fp wr Pn Md Sn P' h' tk, PStep P s.heap P' h' → Turns C target n R A s.heap P' h' I fp wr Pn Md Sn → Q (.ref I) { s with heap := h', toks := tk }) →
    wpAny (model C.prog C.w) A (eval iter env) (fun x s₁ => wpAny (model C.prog C.w) A (pyIter x) Q (fun _ _ => False) s₁) (fun _ _ => False) s

section
variable {C : Cfg} {k : Nat} {env : Env} {ρ : List (Option T)} {μ : Mem} {Ψ : Out → Prop}

theorem memSt_keep {P P' : PM} {h h' : Heap} (M : MemSt C P h μ) (le : ∀ b o, P b = some o → P' b = some o) (sub : ∀ b o, P' b = some o → h'.get? b = some o) (k : ∀ e ∈ μ, ∀ o, h.get? e.1 = some o → h'.get? e.1 = some o) (off : ∀ e ∈ μ, P' e.1 = none) : MemSt C P' h' μ :=
  ⟨fun e he => (M.rep e he).keep le sub (k e he), off, M.nd⟩

/-- the heap changes at objects that neither the frame, nor the owned, nor the frozen part knows -/
theorem St.aside {P : PM} {h h' : Heap} {wr : List Addr} (S : St C env P h ρ μ) (kp : ∀ b o, b ∉ wr → h.get? b = some o → h'.get? b = some o) (hP : ∀ b ∈ wr, P b = none) (hF : ∀ b ∈ wr, b ∉ FA env) (hM : ∀ b ∈ wr, b ∉ μ.map (·.1)) : St C env P h' ρ μ := by
  have sub : ∀ b o, P b = some o → h'.get? b = some o := fun b o e => kp b o (fun q => by rw [hP b q] at e; cases e) (S.gd.s b o e)
  exact ⟨⟨S.gd.g, sub⟩, S.fr.keep (fun _ _ e => e) (fun b hb o e => kp b o (fun q => hF b q hb) e) S.fr.off,
    memSt_keep S.me (fun _ _ e => e) sub (fun e he o q => kp _ o (fun z => hM _ z (List.mem_map.mpr ⟨e, he, rfl⟩)) q) S.me.off, S.ap⟩


theorem Ex1.loop {target iter : Expr} {body : List Stmt} {p : Pos} {n : Nat} {R : EltR} {tg : Nat → List (Option T) → List (Option T)} (I : Nat → List (Option T) → Mem → Prop)
    (hi : IterOK C k env iter target ρ μ n R) (htg : ∀ i, i < n → TgtH C k env target (R i) (tg i)) (h0 : I 0 ρ μ)
    (step : ∀ i ρ' μ', i < n → I i ρ' μ' → Ex C k env body (tg i ρ') μ' fun o => match o with | .next ρ'' μ'' => I (i + 1) ρ'' μ'' | .ret t μ'' => Ψ (.ret t μ''))
    (done : ∀ ρ' μ', I n ρ' μ' → Ψ (.next ρ' μ')) (hs : ∀ x, foldedSetIterable iter env x = pure x) : Ex1 C k env (.For target iter body [] p) ρ μ Ψ := fun A P s Q hA hS hQ => by
  refine wpAny_For (hi A P s _ hA hS fun It fp wr Pn Md Sn P' h' tk st0 U => ?_) hs
  have S0 := hS.step st0
  have w0 : WStep (NM μ) P s.heap P' h' := st0.toW
  have x0 : Sub μ s.heap μ := .refl
  have fpN : ∀ b ∈ fp, ∀ (Pc : PM) (hc : Heap) (ρc : List (Option T)) (μc : Mem), (∀ b o, P' b = some o → Pc b = some o) → St C env Pc hc ρc μc → Sub μ h' μc → ¬ NN env μc b := by
    intro b hb Pc hc ρc μc le Sc xc n
    rcases U.hfp b hb with ⟨o, e⟩ | ⟨e, o, e'⟩
    · rcases n with n | n
      · have := Sc.fr.off b n; rw [le b o e] at this; cases this
      · obtain ⟨q, hq, rfl⟩ := List.mem_map.mp n
        have := Sc.me.off q hq; rw [le _ o e] at this; cases this
    · rcases n with n | n
      · obtain ⟨o', e''⟩ := hS.fr.live b n
        rw [e''] at e; cases e
      · rcases xc b n with z | z
        · obtain ⟨q, hq, rfl⟩ := List.mem_map.mp z
          obtain ⟨o', e''⟩ := (hS.me.rep q hq).live
          rw [e''] at e; cases e
        · rw [z] at e'; cases e'
  let N : Addr → Prop := fun b => NN env μ b ∨ b ∈ wr
  have out0 : ∀ {P4 : PM} {h4 : Heap}, WStep N P' h' P4 h4 → WStep (NN env μ) P s.heap P4 h4 := fun w => w0.nn.trans w fun b q => q.imp id fun z => (U.hwr b z).1
  refine codeAny_forLoop_any (fun m s' => ∃ Pc hc tkc ρc μc i, s' = { s with heap := hc, toks := tkc } ∧ Sn i hc ∧ I i ρc μc ∧ St C env Pc hc ρc μc ∧ WStep N P' h' Pc hc ∧ Sub μ h' μc ∧ (∀ b ∈ wr, Pc b = none) ∧ i ≤ n ∧ m = n + 1 - i) ?_ (n + 1)
    ⟨P', h', tk, ρ, μ, 0, rfl, U.st, h0, S0, .refl S0.gd.s, .refl, fun b hb => (U.hwr b hb).2.1, Nat.zero_le _, rfl⟩
  rintro m s' ⟨Pc, hc, tkc, ρc, μc, i, rfl, hst, hI, Sc, wc, xc, hwP, hin, rfl⟩
  have wrN : ∀ b ∈ wr, ¬ NN env μc b := fun b hb => fpN b (U.w.sub b hb) Pc hc ρc μc wc.le Sc xc
  by_cases hlt : i < n
  · refine U.w.item i _ _ _ hlt hst fun v h1 tk1 hMd k1 => ?_
    refine U.w.go i v _ _ _ hMd fun h2 hP hst2 k2 => ?_
    have k12 : ∀ b o, b ∉ wr → hc.get? b = some o → h2.get? b = some o := fun b o hb e => k2 b o hb (k1 b o hb e)
    have S2 : St C env Pc h2 ρc μc := Sc.aside k12 hwP (fun b hb q => wrN b hb (.inl q)) fun b hb q => wrN b hb (.inr q)
    have w2 : WStep N Pc hc Pc h2 := ⟨fun b o q e => k12 b o (fun z => q (.inr z)) e, fun _ _ e => e, fun _ _ e => .inl e, S2.gd.s⟩
    refine PySem.wpAny_noRaise (htg i hlt A Pc { s with heap := h2, toks := tk1 } v ρc μc _ hA S2 (U.elt i v Pc h2 hlt wc.le S2.gd.s hP) fun h3 tk3 S3 w3 => ?_)
    refine PySem.wpAny_noRaise (step i ρc μc hlt hI A Pc { s with heap := h3, toks := tk3 } _ hA S3 fun f P4 h4 tk4 o ho w4 ok => ?_)
    have w3' : WStep (NN env μc) Pc h2 Pc h3 := wstep_frame w3
    have fr34 : ∀ b ∈ fp, ∀ o, h2.get? b = some o → h4.get? b = some o := fun b hb o e => by
      have hn := fpN b hb Pc h2 ρc μc wc.le S2 xc
      exact w4.keep b o hn (w3'.keep b o hn e)
    have wA : WStep N P' h' Pc h2 := wc.trans w2 fun b q => .inl q
    have nnN : ∀ b, NN env μc b → N b ∨ h'.get? b = none := fun b q => (xc.nn b q).imp .inl id
    have w03 : WStep N P' h' Pc h3 := wA.trans w3' nnN
    have wB : WStep (NN env μc) Pc h2 P4 h4 := w3'.trans w4 fun b q => .inl q
    have w04 : WStep N P' h' P4 h4 := wA.trans wB nnN
    have sub4 : ∀ μ4, Sub μc h3 μ4 → (∀ a ∈ FA env, a ∉ μ4.map (·.1)) → Sub μ h' μ4 := fun μ4 x4 ap a ha => by
      rcases x4 a ha with q | q
      · exact xc a q
      · by_cases hm : N a
        · rcases hm with (z | z) | z
          · exact absurd ha (ap a z)
          · exact .inl z
          · obtain ⟨o, e⟩ := U.live _ _ hst2 a z
            rw [w3'.keep a o (wrN a z) e] at q; cases q
        · refine .inr ?_
          cases e : h'.get? a with
          | none => rfl
          | some o => rw [w03.keep a o hm e] at q; cases q
    cases o with
    | next ρ4 μ4 =>
      obtain ⟨rfl, S4, x4⟩ := ok
      refine ⟨n + 1 - (i + 1), by omega, P4, h4, tk4, ρ4, μ4, i + 1, rfl, U.w.frame _ _ _ hst2 fr34, ho, S4, w04, sub4 μ4 x4 S4.ap, fun b hb => ?_, hlt, rfl⟩
      cases e : P4 b with
      | none => rfl
      | some o =>
        rcases wB.new b o e with z | z | z
        · rw [hwP b hb] at z; cases z
        · exact absurd z (wrN b hb)
        · obtain ⟨o', e'⟩ := U.live _ _ hst2 b hb
          rw [e'] at z; cases z
    | ret t μ4 =>
      obtain ⟨v4, rfl, r4, M4, x4, ap4⟩ := ok
      exact hQ _ P4 h4 tk4 _ ho (out0 w04) ⟨v4, rfl, r4, M4, x0.trans w0.nn (sub4 μ4 x4 ap4) ap4, ap4⟩
  · have : i = n := by omega
    subst this
    refine U.w.done _ _ _ hst fun h1 tk1 k1 => wpAny_execs_nil ?_
    have S2 : St C env Pc h1 ρc μc := Sc.aside k1 hwP (fun b hb q => wrN b hb (.inl q)) fun b hb q => wrN b hb (.inr q)
    have w2 : WStep N Pc hc Pc h1 := ⟨fun b o q e => k1 b o (fun z => q (.inr z)) e, fun _ _ e => e, fun _ _ e => .inl e, S2.gd.s⟩
    exact hQ _ Pc h1 tk1 _ (done _ _ hI) (out0 (wc.trans w2 fun b q => .inl q)) ⟨rfl, S2, x0.trans w0.nn xc Sc.ap⟩


theorem TgtH.name {x : Str} {px : Pos} {i : Nat} {kd : NameKind} {t : T} (hi : env.scope.names[i]? = some (x, kd)) (hkd : kd = .local ∨ kd = .cell) : TgtH C k env (.Name x px) (fun P _ v => Rep P v t) fun ρ => ρ.set i (some t) := fun A P s v ρ μ Q hA hS hr hQ =>
  Tgt.name (k := k) hi hkd A P s v ρ μ Q hA hS hr hQ
theorem TgtH.tuple {es : List Expr} {j : Nat} {p : Pos} {ts : List T} {f : List (Option T) → List (Option T)} (hm : Tgts C k env ((assignEach es env).map (·.2)) ts f) (hstar : (assignEach es env).findIdx? (·.1) = none) :
    TgtH C k env (.Tuple es j p) (fun P h v => TupAt P h v ts) f := fun A P s v ρ μ Q hA hS hr hQ => by
  obtain ⟨a, vs, rfl, ht, rs⟩ := hr
  have hl : (assignEach es env).length = vs.length := by
    have h1 : ∀ {ms : List (Value → Sem Unit)} {ts : List T} {f : List (Option T) → List (Option T)}, Tgts C k env ms ts f → ms.length = ts.length := by
      intro ms ts f h
      induction h with
      | nil => rfl
      | cons _ _ ih => simp [ih]
    have := h1 hm
    rw [rs.length, ← this, List.length_map]
  rw [arm_assign_Tuple]
  refine wpAny_bind (wpAny_standAt (wpAny_unpack_tuple hA.h ht (by simpa using hl) hstar fun h' he => ?_))
  have g : PStep P s.heap P h' := .grow hS.gd.s (extBut_keep he)
  exact assignInOrder_all hm (s := { s with heap := h' }) hA (hS.step g) (by simpa using rs) fun h'' tk S2 w2 => hQ h'' tk S2 (g.toW.trans w2 nn_nil)

/-- iterators on frozen lists -/
theorem iter_list_src {target : Expr} {A : Around} {P : PM} {s : Shared} {a : Addr} {vs : List Value} {ts : List T} {R : EltR} {Q : Value → Shared → Prop} (hA : Room k A) (hS : St C env P s.heap ρ μ) (hP : ∃ o, P a = some o) (hl : s.heap.IsList a vs.toArray) (rs : Reps P vs ts)
    (hgo : ∀ I i (h : Heap) v (s : Shared) (Q : Unit → Shared → Prop) (E : Value → Shared → Prop), s.heap.IsListIter I a i → Q () s → wpAny (model C.prog C.w) A (letOwnedTupleGo target (.ref I) v) Q E s)
    (hR : ∀ i v Pc hc, i < ts.length → (∀ b o, Pc b = some o → hc.get? b = some o) → Rep Pc v (ts.getD i .none) → R i Pc hc v)
    (hQ : ∀ I fp wr Pn Md Sn h' tk, PStep P s.heap P h' → Turns C target ts.length R A s.heap P h' I fp wr Pn Md Sn → Q (.ref I) { s with heap := h', toks := tk }) :
    wpAny (model C.prog C.w) A (pyIter (.ref a)) Q (fun _ _ => False) s := by
  obtain ⟨o, ho, hcls, nn, hdat⟩ := hl
  have hlt : a < s.heap.objs.size := Heap.lt_size ho
  have hne : a ≠ s.heap.objs.size := Nat.ne_of_lt hlt
  refine wpAny_pyIter_list ⟨o, ho, hcls, nn, hdat⟩ ?_
  have g : PStep P s.heap P (s.heap.push { cls := .type "list_iterator", data := .fields #[.ref a, .int 0 0] }) := .grow hS.gd.s fun b o e => Heap.get?_push_of_some _ e
  have W := Walks.list (prog := C.prog) (w := C.w) hA.h s.heap.objs.size a hne vs.toArray
  have hn : vs.toArray.size = ts.length := by simp [rs.length]
  rw [hn] at W
  refine hQ s.heap.objs.size [s.heap.objs.size, a] [s.heap.objs.size] _ _ _ _ s.toks g
    { w := KTurns.ofWalks W fun i v s Q E st q => hgo _ _ s.heap v s Q E st.1 q
      st := ⟨⟨_, Heap.get?_push_size _ rfl, rfl, rfl⟩, ⟨o, Heap.get?_push_of_some _ ho, hcls, nn, hdat⟩⟩
      hfp := fun b hb => ?_
      hwr := fun b hb => ?_
      live := fun i h st b hb => ?_
      self := W.self
      elt := fun i v Pc hc hi le sub hv => ?_ }
  · rcases List.mem_cons.mp hb with rfl | hb
    · exact .inr ⟨Heap.get?_none_of_le (Nat.le_refl _), _, Heap.get?_push_size _ rfl⟩
    · rw [List.mem_singleton.mp hb]; exact .inl hP
  · rw [List.mem_singleton.mp hb]
    refine ⟨Heap.get?_none_of_le (Nat.le_refl _), ?_, _, Heap.get?_push_size _ rfl⟩
    cases e : P s.heap.objs.size with
    | none => rfl
    | some o' => exact absurd (Heap.lt_size (hS.gd.s _ _ e)) (Nat.lt_irrefl _)
  · rw [List.mem_singleton.mp hb]
    obtain ⟨o', e, _⟩ := st.1
    exact ⟨o', e⟩
  · obtain ⟨t, et, r⟩ := rs.get' (i := i) (v := v) (by simpa using hv)
    refine hR i v Pc hc hi sub ?_
    rw [List.getD_eq_getElem?_getD, et]
    exact r.mono le

theorem IterOK.list {iter : Expr} {x : Str} {px : Pos} {ts : List T} (h : EvP C k env iter ρ μ (.lst ts)) : IterOK C k env iter (.Name x px) ρ μ ts.length (RepR fun i => ts.getD i .none) := fun A P s Q hA hS hQ =>
  h A P s _ hA hS fun v P1 h1 tk1 st1 r1 => by
    have S1 := hS.step st1
    cases r1 with
    | lst e1 rs =>
      refine iter_list_src (target := .Name x px) (R := RepR fun i => ts.getD i .none) (s := { s with heap := h1, toks := tk1 }) hA S1 ⟨_, e1⟩ ⟨_, S1.gd.s _ _ e1, rfl, _, rfl⟩ rs (fun _ _ _ _ _ _ _ _ q => by exact wpAny_pure q) (fun i v Pc hc _ _ r => r) fun I fp wr Pn Md Sn h' tk g U => ?_
      exact hQ I fp wr Pn Md Sn P1 h' tk (st1.trans g)
        { U with
          hfp := fun b hb => (U.hfp b hb).imp id fun q => ⟨none_back st1.keep q.1, q.2⟩
          hwr := fun b hb => ⟨none_back st1.keep (U.hwr b hb).1, (U.hwr b hb).2⟩ }
theorem IterOK.listT {iter : Expr} {es : List Expr} {j : Nat} {tp : Pos} {tss : List (List T)} (h : EvP C k env iter ρ μ (.lst (tss.map .tup))) : IterOK C k env iter (.Tuple es j tp) ρ μ tss.length (TupR fun i => tss.getD i []) := fun A P s Q hA hS hQ =>
  h A P s _ hA hS fun v P1 h1 tk1 st1 r1 => by
    have S1 := hS.step st1
    cases r1 with
    | lst e1 rs =>
      rw [show tss.length = (tss.map T.tup).length by simp] at hQ
      refine iter_list_src (target := .Tuple es j tp) (R := TupR fun i => tss.getD i []) (s := { s with heap := h1, toks := tk1 }) hA S1 ⟨_, e1⟩ ⟨_, S1.gd.s _ _ e1, rfl, _, rfl⟩ rs (fun _ _ _ _ _ _ _ st q => letGo_listiter st q) (fun i v Pc hc hi sub r => ?_) fun I fp wr Pn Md Sn h' tk g U => ?_
      · have hi' : i < tss.length := by simpa using hi
        have e : (tss.map T.tup).getD i T.none = .tup (tss.getD i []) := by simp [List.getD_eq_getElem?_getD, hi']
        rw [e] at r
        exact r.tupAt sub
      · exact hQ I fp wr Pn Md Sn P1 h' tk (st1.trans g)
          { U with
            hfp := fun b hb => (U.hfp b hb).imp id fun q => ⟨none_back st1.keep q.1, q.2⟩
            hwr := fun b hb => ⟨none_back st1.keep (U.hwr b hb).1, (U.hwr b hb).2⟩ }
end
end Mine

namespace Mine

/-- a call that may change what it is lent -/
noncomputable def CallM (C : Cfg) (k : Nat) (μ : Mem) (f : Value) (ts : List T) (Φ : T → Mem → Prop) : Prop :=
  ∀ (A : Around) (P : PM) (s : Shared) (vs : List Value) (R : Result → Shared → Prop), Room k A → Gd C P s.heap → MemSt C P s.heap μ → Reps P vs ts →
    (∀ v P' h' tk t μ', Φ t μ' → WStep (fun b => b ∈ μ.map (·.1)) P s.heap P' h' → MemSt C P' h' μ' → Sub μ s.heap μ' → Rep P' v t → R (.ok (.ret v)) { s with heap := h', toks := tk }) → codeAny (model C.prog C.w) A (.call f ⟨vs, []⟩) R s
theorem CallM.wp {C : Cfg} {k : Nat} {μ : Mem} {f : Value} {ts : List T} {Φ : T → Mem → Prop} (h : CallM C k μ f ts Φ) (A : Around) (P : PM) (s : Shared) (vs : List Value) (Q : Value → Shared → Prop) (hA : Room k A) (hG : Gd C P s.heap) (hM : MemSt C P s.heap μ) (hr : Reps P vs ts)
    (hQ : ∀ v P' h' tk t μ', Φ t μ' → WStep (fun b => b ∈ μ.map (·.1)) P s.heap P' h' → MemSt C P' h' μ' → Sub μ s.heap μ' → Rep P' v t → Q v { s with heap := h', toks := tk }) : wpAny (model C.prog C.w) A (call f vs) Q (fun _ _ => False) s :=
  wpAny_call (h A P s vs _ hA hG hM hr fun v P' h' tk t μ' a b c d e => hQ v P' h' tk t μ' a b c d e)

theorem MemSt.nil {C : Cfg} {P : PM} {h : Heap} : MemSt C P h [] := ⟨fun _ h => (nomatch h), fun _ h => (nomatch h), List.nodup_nil⟩
/-- a pure def: its value is a function of its arguments -/
theorem CallM.pure {C : Cfg} {k : Nat} {μ : Mem} {f : Value} {ts : List T} {t : T} (h : CallM C k [] f ts fun t' _ => t' = t) : CallOp C k μ f ts t := fun A P s vs Q hA hG hM hr hQ =>
  h.wp A P s vs Q hA hG .nil hr fun v P' h' tk t' μ' e w _ _ r => hQ v P' h' tk ⟨fun b o q => w.keep b o (fun z => by simp at z) q, w.le, fun b o q => (w.new b o q).imp id fun z => z.elim (fun y => by simp at y) id, w.sub⟩ (e ▸ r)

theorem bindL_off {kindOf : Str → Option NameKind} {x : Str} : ∀ (bs : List (Str × Value)) (m : Str → Option Value), (∀ b ∈ bs, b.1 ≠ x) → bindL kindOf bs m x = m x
  | [], _, _ => rfl
  | (n, v) :: r, m, h => by
    unfold bindL
    rw [bindL_off r _ fun b hb => h b (List.mem_cons_of_mem _ hb)]
    have hn : x ≠ n := Ne.symm (h (n, v) List.mem_cons_self)
    split
    · simp [hn]
    · rfl
theorem bindC_off {kindOf : Str → Option NameKind} {x : Str} : ∀ (bs : List (Str × Value)) (m : Str → Option Value), (∀ b ∈ bs, b.1 ≠ x) → bindC kindOf bs m x = m x
  | [], _, _ => rfl
  | (n, v) :: r, m, h => by
    unfold bindC
    rw [bindC_off r _ fun b hb => h b (List.mem_cons_of_mem _ hb)]
    have hn : x ≠ n := Ne.symm (h (n, v) List.mem_cons_self)
    split
    · rfl
    · simp [hn]
theorem zip_fst_mem {ps : List Str} {vs : List Value} {b : Str × Value} (h : b ∈ ps.zip vs) : b.1 ∈ ps := (List.of_mem_zip h).1
theorem bindL_zip {kindOf : Str → Option NameKind} {x : Str} {v : Value} : ∀ {ps : List Str} {vs : List Value} {i : Nat} (m : Str → Option Value), ps.Nodup → ps[i]? = some x → vs[i]? = some v → kindOf x = some .local → bindL kindOf (ps.zip vs) m x = some v
  | [], _, _, _, _, h, _, _ => by simp at h
  | _ :: _, [], _, _, _, _, h, _ => by simp at h
  | p :: ps, w :: vs, 0, m, hn, h, h', hk => by
    simp at h h'
    subst h h'
    rw [List.zip_cons_cons]
    unfold bindL
    rw [bindL_off _ _ (fun b hb e => (List.nodup_cons.mp hn).1 (by rw [← e]; exact zip_fst_mem hb)), if_pos hk]
    simp
  | p :: ps, w :: vs, i + 1, m, hn, h, h', hk => by
    rw [List.zip_cons_cons]
    unfold bindL
    exact bindL_zip _ (List.nodup_cons.mp hn).2 (by simpa using h) (by simpa using h') hk
theorem bindC_zip {kindOf : Str → Option NameKind} {x : Str} {v : Value} : ∀ {ps : List Str} {vs : List Value} {i : Nat} (m : Str → Option Value), ps.Nodup → ps[i]? = some x → vs[i]? = some v → kindOf x ≠ some .local → bindC kindOf (ps.zip vs) m x = some v
  | [], _, _, _, _, h, _, _ => by simp at h
  | _ :: _, [], _, _, _, _, h, _ => by simp at h
  | p :: ps, w :: vs, 0, m, hn, h, h', hk => by
    simp at h h'
    subst h h'
    rw [List.zip_cons_cons]
    unfold bindC
    rw [bindC_off _ _ (fun b hb e => (List.nodup_cons.mp hn).1 (by rw [← e]; exact zip_fst_mem hb)), if_neg hk]
    simp
  | p :: ps, w :: vs, i + 1, m, hn, h, h', hk => by
    rw [List.zip_cons_cons]
    unfold bindC
    exact bindC_zip _ (List.nodup_cons.mp hn).2 (by simpa using h) (by simpa using h') hk

/-- what a def's scope must show -/
structure ScopeOK (scope : Scope) (ps : List Str) : Prop where
  hps : (scope.names.map (·.1)).take ps.length = ps
  nd : (scope.names.map (·.1)).Nodup
  kd : ∀ y ∈ ps, scope.names.lookup y = some .local ∨ scope.names.lookup y = some .cell
  nf : ∀ y ∈ scope.names, y.2 ≠ .free
  cn : ((cellsFrom 0 scope.names []).map (·.1)).Nodup
  co : scope.isCoroutine = false
  ge : scope.isGenerator = false
  ki : scope.kind = .function

structure FnC (C : Cfg) (f : Addr) (fd : FuncData) (body : List Stmt) (ps : List Str) : Prop where
  o : ∃ o, C.g0.get? f = some o ∧ o.data = .func fd
  cd : C.g0.CodeRec fd.code fd.qualname
  bd : fd.body = .stmts body
  cl : fd.closure = []
  gl : fd.globals = mainGlobals
  bi : fd.builtins = builtinsNs
  sc : ScopeOK fd.scope ps
  bind : ∀ vs : List Value, vs.length = ps.length → bindArgs fd ⟨vs, []⟩ = pure (ps.zip vs)
theorem FnC.callee {C : Cfg} {f : Addr} {fd : FuncData} {body : List Stmt} {ps : List Str} (F : FnC C f fd body ps) : Callee C (.ref f) := let ⟨_, a, b⟩ := F.o; .fn a b

/-- the frame at a def's start -/
noncomputable def ρ0 (m : Nat) (ts : List T) : List (Option T) := ts.map some ++ List.replicate m none

noncomputable def Ret (Φ : T → Mem → Prop) : Out → Prop
  | .ret t μ' => Φ t μ'
  | .next _ μ' => Φ .none μ'

theorem call_body {C : Cfg} {k : Nat} {f : Addr} {fd : FuncData} {body : List Stmt} {ps : List Str} {ts : List T} {μ : Mem} {Φ : T → Mem → Prop} (m : Nat) (F : FnC C f fd body ps) (hl : ts.length = ps.length)
    (hb : ∀ L, Ex C k (callEnvC fd L f) body (ρ0 m ts) μ (Ret Φ)) : CallM C (k + 1) μ (.ref f) ts Φ := fun A P s vs Q hA hG hM hr hQ => by
  obtain ⟨o, ho, hd⟩ := F.o
  have hvl : vs.length = ps.length := hr.length.trans hl
  have hpn : ps.Nodup := by rw [← F.sc.hps]; exact F.sc.nd.sublist (List.take_sublist _ _)
  have cellsome : ∀ x, fd.scope.names.lookup x = some .cell → ∀ n, ((cellsFrom n fd.scope.names []).lookup x).isSome = true := fun x hx n => cellsFrom_some _ _ _ (.inl hx)
  have top := hG.top
  refine codeAny_call_cells (vals := vs) (binds := ps.zip vs) (by have := hA.d; omega) (top _ _ ho) hd (C.lim.keeps top) (F.cd.keeps top) F.bd (F.bind vs hvl) F.cl (fun x hx => ?_) (fun s₁ x => ?_) F.sc.co F.sc.ge F.sc.ki
  · exact (F.sc.kd x.1 (zip_fst_mem hx)).imp id fun e => ⟨e, cellsome _ e _⟩
  · obtain ⟨h₁, tk₁, rfl, hk₁⟩ := x.done
    let env := callEnvC fd s.heap.objs.size f
    have hfr : ∀ a ∈ FA env, s.heap.get? a = none := fun a ha => by
      rcases List.mem_cons.mp ha with rfl | ha
      · exact Heap.get?_none_of_le (Nat.le_refl _)
      · obtain ⟨⟨n, c⟩, hc, rfl⟩ := List.mem_map.mp ha
        exact Heap.get?_none_of_le (Nat.le_of_lt (x.above n c hc))
    have hcn : (env.cells.map (·.1)).Nodup := by
      have := F.sc.cn
      rw [cellsFrom_names fd.scope.names 0 (s.heap.objs.size + 1) [] [] rfl] at this
      exact this
    have hgrow : PStep P s.heap P h₁ := .grow hG.s hk₁
    have offF : ∀ a ∈ FA env, P a = none := fun a ha => by
      cases e : P a with
      | none => rfl
      | some o' => have := hG.s _ _ e; rw [hfr a ha] at this; cases this
    have S : St C env P h₁ (ρ0 m ts) μ := by
      refine ⟨hG.step hgrow, ⟨?_, ?_, ?_, ?_, F.sc.nd, ?_, ?_, F.sc.ki, F.gl, F.bi, offF⟩, hM.step hgrow, fun a ha q => ?_⟩
      · refine ⟨_, x.toInCall.ns, fun i y t hi hρ => ?_⟩
        have hlt : i < ts.length := by
          refine Classical.byContradiction fun hn => ?_
          unfold ρ0 at hρ
          rw [List.getElem?_append_right (by simpa using hn)] at hρ
          obtain ⟨_, e⟩ := List.getElem?_eq_some_iff.mp hρ
          rw [List.getElem_replicate] at e; cases e
        have et : ts[i]? = some t := by
          unfold ρ0 at hρ
          rw [List.getElem?_append_left (by simpa using hlt)] at hρ
          simpa using hρ
        obtain ⟨v, ev, r⟩ := hr.get et
        have hy : ps[i]? = some y := by
          rw [← F.sc.hps, List.getElem?_take, if_pos (hl ▸ hlt)]
          simp only [List.getElem?_map]
          have hi' : fd.scope.names[i]? = some (y, NameKind.local) := hi
          rw [hi']; rfl
        exact ⟨v, bindL_zip _ hpn hy ev (lookup_of_get F.sc.nd hi), r⟩
      · intro i y kd t hi hkd hρ
        have hlt : i < ts.length := by
          refine Classical.byContradiction fun hn => ?_
          unfold ρ0 at hρ
          rw [List.getElem?_append_right (by simpa using hn)] at hρ
          obtain ⟨_, e⟩ := List.getElem?_eq_some_iff.mp hρ
          rw [List.getElem_replicate] at e; cases e
        have et : ts[i]? = some t := by
          unfold ρ0 at hρ
          rw [List.getElem?_append_left (by simpa using hlt)] at hρ
          simpa using hρ
        obtain ⟨v, ev, r⟩ := hr.get et
        have hi' : fd.scope.names[i]? = some (y, kd) := hi
        have hy : ps[i]? = some y := by
          rw [← F.sc.hps, List.getElem?_take, if_pos (hl ▸ hlt)]
          simp only [List.getElem?_map]
          rw [hi']; rfl
        rcases hkd with rfl | rfl
        · have hlk : fd.scope.names.lookup y = some .cell := lookup_of_get F.sc.nd hi'
          obtain ⟨c, hc⟩ := Option.isSome_iff_exists.mp (cellsome y hlk (s.heap.objs.size + 1))
          have hcv := x.cell y c hc
          rw [bindC_zip _ hpn hy ev (by show fd.scope.names.lookup y ≠ _; rw [hlk]; intro q; cases q)] at hcv
          exact ⟨c, v, hc, hcv, r⟩
        · exact absurd rfl (F.sc.nf _ (List.mem_of_getElem? hi'))
      · intro y c hc
        exact ⟨_, x.cell y c (lookup_of_mem_nodup hcn hc)⟩
      · intro i y kd hi hkd
        have hi' : fd.scope.names[i]? = some (y, kd) := hi
        rcases hkd with rfl | rfl
        · exact Option.isSome_iff_exists.mp (cellsome y (lookup_of_get F.sc.nd hi') _)
        · exact absurd rfl (F.sc.nf _ (List.mem_of_getElem? hi'))
      · exact List.pairwise_map.mpr x.apart
      · intro q
        obtain ⟨⟨n, c⟩, hc, e⟩ := List.mem_map.mp q
        have := x.above n c hc
        simp only at e
        rw [e] at this
        exact Nat.lt_irrefl _ this
      · obtain ⟨e, he, rfl⟩ := List.mem_map.mp q
        obtain ⟨o', e'⟩ := (hM.rep e he).live
        rw [hfr _ ha] at e'; cases e'
    refine PySem.wpAny_noRaise (hb s.heap.objs.size _ P _ _ (hA.deeper _) S fun fl P' h' tk oo hoo w ok => ?_)
    have wtot : WStep (fun b => b ∈ μ.map (·.1)) P s.heap P' h' := (hgrow.toW (N := fun b => b ∈ μ.map (·.1))).trans w fun b q => q.elim (fun z => .inr (hfr b z)) .inl
    cases oo with
    | next ρ' μ' =>
      obtain ⟨rfl, S', x'⟩ := ok
      exact hQ _ P' h' tk _ _ hoo wtot S'.me (fun a ha => (x' a ha).imp id fun z => none_back hk₁ z) .none
    | ret t μ' =>
      obtain ⟨v, rfl, r, M', x', _⟩ := ok
      exact hQ _ P' h' tk _ _ hoo wtot M' (fun a ha => (x' a ha).imp id fun z => none_back hk₁ z) r
end Mine

namespace Mine

section
variable {C : Cfg} {k : Nat} {env : Env} {ρ : List (Option T)} {μ : Mem}

theorem op_add {a b : Int} : Op2 C k μ (binaryOp .Add) (.int a) (.int b) fun P v => Rep P v (.int (a + b)) := fun A P s v w Q hA hG hM r1 r2 hQ => by
  cases r1; cases r2; exact add_int (hQ _ P _ _ (.refl hG.s) .int)
theorem op_sub {a b : Int} : Op2 C k μ (binaryOp .Sub) (.int a) (.int b) fun P v => Rep P v (.int (a - b)) := fun A P s v w Q hA hG hM r1 r2 hQ => by
  cases r1; cases r2; exact sub_int (hQ _ P _ _ (.refl hG.s) .int)
theorem op_mul {a b : Int} (h : IntMulOk a b) : Op2 C k μ (binaryOp .Mult) (.int a) (.int b) fun P v => Rep P v (.int (a * b)) := fun A P s v w Q hA hG hM r1 r2 hQ => by
  cases r1; cases r2; exact mul_int (hQ _ P _ _ (.refl hG.s) .int) h
theorem op_mod {a b : Int} (h : b ≠ 0) : Op2 C k μ (binaryOp .Mod) (.int a) (.int b) fun P v => Rep P v (.int (Int.fmod a b)) := fun A P s v w Q hA hG hM r1 r2 hQ => by
  cases r1; cases r2; exact mod_int' h (hQ _ P _ _ (.refl hG.s) .int)
theorem op_neg {a : Int} : Op1 C k μ (unaryOp .USub) (.int a) fun P v => Rep P v (.int (-a)) := fun A P s v Q hA hG hM r1 hQ => by
  cases r1; exact neg_int (hQ _ P _ _ (.refl hG.s) .int)
theorem op_lt {a b : Int} : Op2 C k μ (compareOp .Lt) (.int a) (.int b) fun _ v => v = .bool (decide (a < b)) := fun A P s v w Q hA hG hM r1 r2 hQ => by
  cases r1; cases r2; exact lt_int (hQ _ P _ _ (.refl hG.s) rfl)
theorem op_le {a b : Int} : Op2 C k μ (compareOp .LtE) (.int a) (.int b) fun _ v => v = .bool (decide (a ≤ b)) := fun A P s v w Q hA hG hM r1 r2 hQ => by
  cases r1; cases r2; exact le_int (hQ _ P _ _ (.refl hG.s) rfl)
theorem op_gt {a b : Int} : Op2 C k μ (compareOp .Gt) (.int a) (.int b) fun _ v => v = .bool (decide (b < a)) := fun A P s v w Q hA hG hM r1 r2 hQ => by
  cases r1; cases r2; exact gt_int (hQ _ P _ _ (.refl hG.s) rfl)
theorem op_ge {a b : Int} : Op2 C k μ (compareOp .GtE) (.int a) (.int b) fun _ v => v = .bool (decide (b ≤ a)) := fun A P s v w Q hA hG hM r1 r2 hQ => by
  cases r1; cases r2; exact ge_int (hQ _ P _ _ (.refl hG.s) rfl)
theorem op_eqI {a b : Int} : Op2 C k μ (compareOp .Eq) (.int a) (.int b) fun _ v => v = .bool (a == b) := fun A P s v w Q hA hG hM r1 r2 hQ => by
  cases r1; cases r2; exact eq_int (hQ _ P _ _ (.refl hG.s) rfl)
theorem op_eqS {a b : Str} : Op2 C k μ (compareOp .Eq) (.str a) (.str b) fun _ v => v = .bool (a == b) := fun A P s v w Q hA hG hM r1 r2 hQ => by
  cases r1; cases r2; exact eq_str (hQ _ P _ _ (.refl hG.s) rfl)

/-! deep equality -/
mutual
noncomputable def T.toD : T → Dat
  | .int i => .int i
  | .bool b => .bool b
  | .none => .none
  | .str x => .str x
  | .tup ts => .tuple (toDs ts)
  | .lst ts => .list (toDs ts)
  | .adr _ => .bool false
noncomputable def toDs : List T → List Dat
  | [] => []
  | t :: ts => t.toD :: toDs ts
end
mutual
theorem Rep.reads {P : PM} {h : Heap} (s : ∀ b o, P b = some o → h.get? b = some o) : ∀ (t : T) {v : Value} (n : Nat), Rep P v t → kqdOk n t.toD = true → ∃ as, Reads h v (kqdP t.toD) as
  | .int _, _, _, .int, _ => ⟨_, Reads.int _ _⟩
  | .bool b, _, n, _, hk => by cases n <;> simp [T.toD, kqdOk] at hk
  | .none, _, _, .none, _ => ⟨_, Reads.none⟩
  | .str _, _, _, .str, _ => ⟨_, Reads.str _ _⟩
  | .adr _, _, n, _, hk => by cases n <;> simp [T.toD, kqdOk] at hk
  | .tup ts, _, 0, _, hk => by simp [T.toD, kqdOk] at hk
  | .lst ts, _, 0, _, hk => by simp [T.toD, kqdOk] at hk
  | .tup ts, _, n + 1, .tup h1 r, hk => by
    obtain ⟨as, q⟩ := Reps.reads s ts n r (by simpa [T.toD, kqdOk] using hk)
    rw [T.toD, kqdP]
    exact ⟨as, reads_tuple_at (s _ _ h1) rfl rfl (by simpa using q)⟩
  | .lst ts, _, n + 1, .lst h1 r, hk => by
    obtain ⟨as, q⟩ := Reps.reads s ts n r (by simpa [T.toD, kqdOk] using hk)
    rw [T.toD, kqdP]
    exact ⟨_, reads_list_at (s _ _ h1) rfl rfl (by simpa using q)⟩
theorem Reps.reads {P : PM} {h : Heap} (s : ∀ b o, P b = some o → h.get? b = some o) : ∀ (ts : List T) {vs : List Value} (n : Nat), Reps P vs ts → (∀ d ∈ toDs ts, kqdOk n d = true) → ∃ as, ReadsAll h vs (kqdPs (toDs ts)) as
  | [], _, _, .nil, _ => ⟨_, ReadsAll.nil⟩
  | t :: ts, _, n, .cons hd r, hk => by
    obtain ⟨as, q⟩ := Rep.reads s t n hd (hk _ (by rw [toDs]; exact .head _))
    obtain ⟨bs, p⟩ := Reps.reads s ts n r fun d hm => hk d (by rw [toDs]; exact .tail _ hm)
    rw [toDs, kqdPs]
    exact ⟨_, ReadsAll.cons q p⟩
end
mutual
theorem toD_inj : ∀ (t u : T) (n m : Nat), kqdOk n t.toD = true → kqdOk m u.toD = true → t.toD = u.toD → t = u
  | .int _, .int _, _, _, _, _, h => by simp [T.toD] at h; rw [h]
  | .int _, .bool _, _, _, _, _, h => by simp [T.toD] at h
  | .int _, .none, _, _, _, _, h => by simp [T.toD] at h
  | .int _, .str _, _, _, _, _, h => by simp [T.toD] at h
  | .int _, .tup _, _, _, _, _, h => by simp [T.toD] at h
  | .int _, .lst _, _, _, _, _, h => by simp [T.toD] at h
  | .int _, .adr _, _, _, _, _, h => by simp [T.toD] at h
  | .bool _, _, n, _, h, _, _ => by cases n <;> simp [T.toD, kqdOk] at h
  | .adr _, _, n, _, h, _, _ => by cases n <;> simp [T.toD, kqdOk] at h
  | .none, .none, _, _, _, _, _ => rfl
  | .none, .int _, _, _, _, _, h => by simp [T.toD] at h
  | .none, .bool _, _, _, _, _, h => by simp [T.toD] at h
  | .none, .str _, _, _, _, _, h => by simp [T.toD] at h
  | .none, .tup _, _, _, _, _, h => by simp [T.toD] at h
  | .none, .lst _, _, _, _, _, h => by simp [T.toD] at h
  | .none, .adr _, _, _, _, _, h => by simp [T.toD] at h
  | .str _, .str _, _, _, _, _, h => by simp [T.toD] at h; rw [h]
  | .str _, .int _, _, _, _, _, h => by simp [T.toD] at h
  | .str _, .bool _, _, _, _, _, h => by simp [T.toD] at h
  | .str _, .none, _, _, _, _, h => by simp [T.toD] at h
  | .str _, .tup _, _, _, _, _, h => by simp [T.toD] at h
  | .str _, .lst _, _, _, _, _, h => by simp [T.toD] at h
  | .str _, .adr _, _, _, _, _, h => by simp [T.toD] at h
  | .tup ts, .tup us, n, m, h1, h2, h => by
    cases n with
    | zero => simp [T.toD, kqdOk] at h1
    | succ n => cases m with
      | zero => simp [T.toD, kqdOk] at h2
      | succ m => rw [toDs_inj ts us n m (by simpa [T.toD, kqdOk] using h1) (by simpa [T.toD, kqdOk] using h2) (by simpa [T.toD] using h)]
  | .tup _, .int _, _, _, _, _, h => by simp [T.toD] at h
  | .tup _, .bool _, _, _, _, _, h => by simp [T.toD] at h
  | .tup _, .none, _, _, _, _, h => by simp [T.toD] at h
  | .tup _, .str _, _, _, _, _, h => by simp [T.toD] at h
  | .tup _, .lst _, _, _, _, _, h => by simp [T.toD] at h
  | .tup _, .adr _, _, _, _, _, h => by simp [T.toD] at h
  | .lst ts, .lst us, n, m, h1, h2, h => by
    cases n with
    | zero => simp [T.toD, kqdOk] at h1
    | succ n => cases m with
      | zero => simp [T.toD, kqdOk] at h2
      | succ m => rw [toDs_inj ts us n m (by simpa [T.toD, kqdOk] using h1) (by simpa [T.toD, kqdOk] using h2) (by simpa [T.toD] using h)]
  | .lst _, .int _, _, _, _, _, h => by simp [T.toD] at h
  | .lst _, .bool _, _, _, _, _, h => by simp [T.toD] at h
  | .lst _, .none, _, _, _, _, h => by simp [T.toD] at h
  | .lst _, .str _, _, _, _, _, h => by simp [T.toD] at h
  | .lst _, .tup _, _, _, _, _, h => by simp [T.toD] at h
  | .lst _, .adr _, _, _, _, _, h => by simp [T.toD] at h
theorem toDs_inj : ∀ (ts us : List T) (n m : Nat), (∀ d ∈ toDs ts, kqdOk n d = true) → (∀ d ∈ toDs us, kqdOk m d = true) → toDs ts = toDs us → ts = us
  | [], [], _, _, _, _, _ => rfl
  | [], _ :: _, _, _, _, _, h => by simp [toDs] at h
  | _ :: _, [], _, _, _, _, h => by simp [toDs] at h
  | t :: ts, u :: us, n, m, h1, h2, h => by
    simp only [toDs, List.cons.injEq] at h
    rw [toD_inj t u n m (h1 _ (by rw [toDs]; exact .head _)) (h2 _ (by rw [toDs]; exact .head _)) h.1,
      toDs_inj ts us n m (fun d hd => h1 d (by rw [toDs]; exact .tail _ hd)) (fun d hd => h2 d (by rw [toDs]; exact .tail _ hd)) h.2]
end

theorem shaped_of {t : T} (h : kqdOk 9 t.toD = true) : SeqAt.shaped (kqdP t.toD) = true := by
  have l := kqd_lay 9 _ h
  unfold SeqAt.shaped
  rw [l.1, Bool.true_and]
  exact decide_eq_true (Nat.le_trans l.2 (by decide))
theorem op_eq {t u : T} {c : Bool} (h1 : kqdOk 9 t.toD = true) (h2 : kqdOk 9 u.toD = true) (hc : c = true ↔ t = u) : Op2 C k μ (compareOp .Eq) t u fun _ v => v = .bool c := fun A P s v w Q hA hG hM r1 r2 hQ => by
  obtain ⟨as, q1⟩ := r1.reads hG.s t 9 h1
  obtain ⟨bs, q2⟩ := r2.reads hG.s u 9 h2
  have e : PyData.eqv (kqdP t.toD) (kqdP u.toD) = c := by
    have q := kqd_eqv 9 t.toD u.toD 9 h1 h2
    by_cases hq : t = u
    · rw [hc.mpr hq]; exact q.mpr (by rw [hq])
    · have : c = false := Bool.eq_false_iff.mpr fun z => hq (hc.mp z)
      rw [this]; exact Bool.eq_false_iff.mpr fun z => hq (toD_inj t u 9 9 h1 h2 (q.mp z))
  exact eq_dataH q1 q2 (shaped_of h1) (shaped_of h2) (by have := hA.u; omega) (by rw [e]; exact hQ _ P _ _ (.refl hG.s) rfl)
end
end Mine
namespace Mine
section
variable {C : Cfg} {k : Nat} {env : Env} {ρ : List (Option T)} {μ : Mem}
theorem op_ne {t u : T} {c : Bool} (h1 : kqdOk 9 t.toD = true) (h2 : kqdOk 9 u.toD = true) (hc : c = true ↔ t ≠ u) : Op2 C k μ (compareOp .NotEq) t u fun _ v => v = .bool c := fun A P s v w Q hA hG hM r1 r2 hQ => by
  obtain ⟨as, q1⟩ := r1.reads hG.s t 9 h1
  obtain ⟨bs, q2⟩ := r2.reads hG.s u 9 h2
  have e : (!PyData.eqv (kqdP t.toD) (kqdP u.toD)) = c := by
    have q := kqd_eqv 9 t.toD u.toD 9 h1 h2
    by_cases hq : t = u
    · have : c = false := Bool.eq_false_iff.mpr fun z => (hc.mp z) hq
      rw [this, q.mpr (by rw [hq])]; rfl
    · rw [hc.mpr hq, Bool.eq_false_iff.mpr fun z => hq (toD_inj t u 9 9 h1 h2 (q.mp z))]; rfl
  exact ne_dataH q1 q2 (shaped_of h1) (shaped_of h2) (by have := hA.u; omega) (by rw [e]; exact hQ _ P _ _ (.refl hG.s) rfl)

theorem subscripted_ops (slice : Expr) (o i : Value) : ∃ ops, subscripted slice false o i = operate ops (getItem o i) := by
  unfold subscripted
  split
  · exact ⟨_, rfl⟩
  · rename_i h; cases h
  · exact ⟨_, rfl⟩

/-- a list on the heap: frozen, or owned -/
inductive LstAt (C : Cfg) (μ : Mem) : T → List T → Prop
  | frozen {ts} : LstAt C μ (.lst ts) ts
  | owned {a ts} : (a, MObj.lst ts) ∈ μ → LstAt C μ (.adr a) ts
  | top {a vs ts} : C.g0.IsList a vs.toArray → Reps (fun b => C.g0.get? b) vs ts → LstAt C μ (.adr a) ts
theorem LstAt.get {t : T} {ts : List T} (h : LstAt C μ t ts) {P : PM} {hp : Heap} {v : Value} (hG : Gd C P hp) (hM : MemSt C P hp μ) (r : Rep P v t) : ∃ a vs, v = .ref a ∧ hp.IsList a vs.toArray ∧ Reps P vs ts := by
  cases h with
  | frozen => exact r.lstAt hG.s
  | owned hm =>
    cases r
    obtain ⟨vs, n, hl, rs⟩ := hM.rep _ hm
    exact ⟨_, vs, rfl, ⟨_, hl, rfl, _, rfl⟩, rs⟩
  | top hl rs =>
    cases r
    obtain ⟨o, ho, q⟩ := hl
    exact ⟨_, _, rfl, ⟨o, hG.top _ _ ho, q⟩, rs.mono fun b o e => hG.g b o e⟩

theorem sub_list {v i : Expr} {l : T} {ts : List T} {n : Int} {t : T} (hl : LstAt C μ l ts) (h0 : 0 ≤ n) (hlt : n < 2 ^ 63) (ht : ts[n.toNat]? = some t) : SubOp C k μ v i l (.int n) t := fun A P s w u Q hA hG hM r1 r2 hQ => by
  obtain ⟨a, vs, rfl, hl, rs⟩ := hl.get hG hM r1
  cases r2
  obtain ⟨x, ex, rx⟩ := rs.get ht
  obtain ⟨ops, hs⟩ := subscripted_ops i (.ref a) (.int n _)
  exact tail_any hl.typeIs slot_list_getitem.lookup (wpAny_getItem_list hl h0 hlt (by simpa using ex) (hQ _ P _ _ (.refl hG.s) rx)) hs
theorem sub_list_neg {v i : Expr} {l : T} {ts : List T} {n : Int} {t : T} (hl : LstAt C μ l ts) (h0 : n < 0) (hlo : -(ts.length : Int) ≤ n) (hz : ts.length < 1000000) (ht : ts[(n + ts.length).toNat]? = some t) : SubOp C k μ v i l (.int n) t := fun A P s w u Q hA hG hM r1 r2 hQ => by
  obtain ⟨a, vs, rfl, hl, rs⟩ := hl.get hG hM r1
  cases r2
  obtain ⟨x, ex, rx⟩ := rs.get ht
  obtain ⟨ops, hs⟩ := subscripted_ops i (.ref a) (.int n _)
  have hlen := rs.length
  have e1 : vs.toArray.size = ts.length := by simp [hlen]
  exact tail_any hl.typeIs slot_list_getitem.lookup (wpAny_getItem_list_neg hl h0 (by rw [e1]; exact hlo) (by omega) (by rw [e1]; simpa using ex) (hQ _ P _ _ (.refl hG.s) rx)) hs
theorem sub_tuple {v i : Expr} {ts : List T} {n : Int} {t : T} (h0 : 0 ≤ n) (hlt : n < 1000) (ht : ts[n.toNat]? = some t) : SubOp C k μ v i (.tup ts) (.int n) t := fun A P s w u Q hA hG hM r1 r2 hQ => by
  obtain ⟨a, vs, rfl, hl, rs⟩ := r1.tupAt hG.s
  cases r2
  obtain ⟨x, ex, rx⟩ := rs.get ht
  obtain ⟨ops, hs⟩ := subscripted_ops i (.ref a) (.int n _)
  have hn : n.toNat < vs.length := (List.getElem?_eq_some_iff.mp ex).1
  refine tail_any hl.typeIs PySem.F.slot_tuple_getitem.lookup (getItem_tuple (j := n.toNat) (x := x) hl (by omega) (by omega) ?_ (by simpa using ex) (hQ _ P _ _ (.refl hG.s) rx)) hs
  have hn0 : ¬ n < 0 := by omega
  simp [seqIndex?, hn0, h0]
  omega

theorem len_list {l : T} {ts : List T} (hl : LstAt C μ l ts) (hz : ts.length < 1000000) : CallOp C k μ (.builtin "len") [l] (.int ts.length) := fun A P s vs Q hA hG hM r hQ => by
  cases r with
  | cons r rs =>
    cases rs
    obtain ⟨a, vs, rfl, hl, rs⟩ := hl.get hG hM r
    refine call_len_list hl (by simp [rs.length]; omega) (hQ _ P _ _ (.refl hG.s) ?_)
    simp [rs.length]; exact .int
theorem len_tup {ts : List T} (hz : ts.length < 1000000) : CallOp C k μ (.builtin "len") [.tup ts] (.int ts.length) := fun A P s vs Q hA hG hM r hQ => by
  cases r with
  | cons r rs =>
    cases rs
    obtain ⟨a, vs, rfl, hl, rs⟩ := r.tupAt hG.s
    refine len_tuple hl (by simp [rs.length]; omega) (hQ _ P _ _ (.refl hG.s) ?_)
    simp [rs.length]; exact .int

/-- a new list in the frozen part -/
theorem push_lst {P : PM} {h : Heap} {vs : List Value} {ts : List T} (s : ∀ b o, P b = some o → h.get? b = some o) (r : Reps P vs ts) :
    PStep P h (P.add h.objs.size { cls := .type "list", data := .seq vs.toArray }) (h.push { cls := .type "list", data := .seq vs.toArray }) ∧ Rep (P.add h.objs.size { cls := .type "list", data := .seq vs.toArray }) (.ref h.objs.size) (.lst ts) :=
  have st := PStep.push (o := { cls := .type "list", data := .seq vs.toArray }) s rfl
  ⟨st, .lst (PM.add_self _ _ _) (r.mono st.le)⟩

theorem op_addL {a b : T} {xs ys : List T} (ha : LstAt C μ a xs) (hb : LstAt C μ b ys) (hz : xs.length + ys.length < 1000000) : Op2 C k μ (binaryOp .Add) a b fun P v => Rep P v (.lst (xs ++ ys)) := fun A P s v w Q hA hG hM r1 r2 hQ => by
  obtain ⟨l, vs, rfl, hl, rs⟩ := ha.get hG hM r1
  obtain ⟨b', ws, rfl, hb, rt⟩ := hb.get hG hM r2
  obtain ⟨⟨cls, dd, data, sl⟩, ho, hc, n, hd⟩ := id hl
  obtain ⟨⟨cls2, dd2, data2, sl2⟩, ho2, hc2, n2, hd2⟩ := id hb
  simp only at hc hd hc2 hd2
  subst hc hd hc2 hd2
  have e : vs.toArray ++ ws.toArray = (vs ++ ws).toArray := by simp
  obtain ⟨st, r⟩ := push_lst hG.s (rs.append rt)
  refine concat_meets ⟨_, ho, rfl⟩ ⟨_, ho2, rfl⟩ noFill_list_add seq_list_add PySem.F.slot_list_add PySem.F.entry_list_add (PySem.F.args_list_add_2 _ _) (list_addW l b' vs.toArray ws.toArray n n2 dd dd2 sl sl2 (by simp [rs.length, rt.length]; exact Nat.le_trans (Nat.le_of_lt hz) (by decide))) ⟨ho, ho2, ?_⟩
  rw [e]
  exact hQ _ _ _ _ st r

theorem fold_rep {α : Type} (vs : List α) : ∀ (n : Nat) (acc : Array α), List.foldl (fun x1 x2 => x1 ++ x2) acc (List.replicate n vs.toArray) = (acc.toList ++ (List.replicate n vs).flatten).toArray
  | 0, acc => by simp
  | n + 1, acc => by
    rw [List.replicate_succ, List.foldl_cons, fold_rep vs n]
    simp [List.replicate_succ]
theorem Reps.rep {P : PM} {vs : List Value} {ts : List T} (r : Reps P vs ts) : ∀ n, Reps P (List.replicate n vs).flatten (List.replicate n ts).flatten
  | 0 => .nil
  | n + 1 => by rw [List.replicate_succ, List.replicate_succ]; simp only [List.flatten_cons]; exact r.append (r.rep n)
theorem flat_one {α : Type} (x : α) : ∀ n, (List.replicate n [x]).flatten = List.replicate n x
  | 0 => rfl
  | n + 1 => by rw [List.replicate_succ, List.flatten_cons, flat_one x n]; rfl
/-- [x] * n -/
theorem op_mulL {x : T} {n : Int} (h0 : 0 ≤ n) (hn : n < 1000000) : Op2 C k μ (binaryOp .Mult) (.lst [x]) (.int n) fun P v => Rep P v (.lst (List.replicate n.toNat x)) := fun A P s v w Q hA hG hM r1 r2 hQ => by
  obtain ⟨l, vs, rfl, hl, rs⟩ := r1.lstAt hG.s
  cases r2
  rename_i u
  obtain ⟨⟨cls, dd, data, sl⟩, ho, hc, m, hd⟩ := id hl
  simp only at hc hd
  subst hc hd
  have hlen : vs.length = 1 := by simpa using rs.length
  have hsize : vs.toArray.size = 1 := by simp [hlen]
  have hne : vs.toArray.isEmpty = false := by cases vs <;> simp at hlen ⊢
  refine wpAny_binaryOp_repeat_ref (T := "list") (U := "int") (by decide) (show s.TypeIs (.ref l) "list" from ⟨_, ho, rfl⟩) (fun s' => typeIs_int s' n u) noFill_list_mul PySem.F.fills_int_mul PySem.F.slot_int_rmul repeat_list PySem.F.slot_int_index.lookup
    (call_meets PySem.F.slot_int_rmul (typeIs_int s n u) PySem.F.entry_int_rmul (PySem.F.args_int_rmul_2 _ _) (lm_int_rmul_list_any n u l vs.toArray m dd sl)
      ⟨ho, rfl, (show s.TypeIs (.ref l) "list" from ⟨_, ho, rfl⟩), call_meets PySem.F.slot_list_mul (show s.TypeIs (.ref l) "list" from ⟨_, ho, rfl⟩) PySem.F.entry_list_mul (PySem.F.args_list_mul_2 _ _)
        (lm_list_mul_any l vs.toArray m dd sl n u (by simp [Builtin.List.listFitsIndex]; omega) (by rw [hsize]; omega) (by rw [hsize]; simp [Builtin.List.listTooLong, sizeLine]; omega))
        ⟨ho, ?_⟩⟩)
  rw [hne]
  simp only [Bool.false_eq_true, if_false]
  rw [fold_rep]
  simp only [List.nil_append]
  obtain ⟨st, r⟩ := push_lst hG.s (rs.rep n.toNat)
  rw [flat_one] at r
  exact hQ _ _ _ _ st r

theorem max_ints {a b : Int} : CallOp C k μ (.builtin "max") [.int a, .int b] (.int (max a b)) := fun A P s vs Q hA hG hM r hQ => by
  cases r with
  | cons r rs => cases rs with
    | cons r' rs =>
      cases rs; cases r; cases r'
      refine max_two_ints hA.h fun h' tk hk => ?_
      have g : PStep P s.heap P h' := .grow hG.s hk
      split
      · rename_i h; rw [show b = max a b by omega]; exact hQ _ P h' tk g .int
      · rename_i h; rw [show (Value.int a _) = Value.int (max a b) _ by rw [show max a b = a by omega]]; exact hQ _ P h' tk g .int
end
end Mine

namespace Mine

section
variable {C : Cfg} {k : Nat} {env : Env} {ρ : List (Option T)} {μ : Mem} {Ψ : Out → Prop}

theorem iter_range_src {x : Str} {px : Pos} {A : Around} {P : PM} {s : Shared} {r : Addr} {a b c : Int} {t u v : Tok} {n : Nat} {Q : Value → Shared → Prop} (hA : Room k A) (hs : ∀ b o, P b = some o → s.heap.get? b = some o)
    (hr : IsRange s.heap r a b c t u v) (hsm : Builtin.Range.small a b c = true) (hn : Builtin.Range.rangeSize a b c = (n : Int))
    (hQ : ∀ I fp wr Pn Md Sn h' tk, PStep P s.heap P h' → Turns C (.Name x px) n (RepR fun i => .int (a + i * c)) A s.heap P h' I fp wr Pn Md Sn → Q (.ref I) { s with heap := h', toks := tk }) :
    wpAny (model C.prog C.w) A (pyIter (.ref r)) Q (fun _ _ => False) s := by
  refine wpAny_pyIter_range hr hsm ?_
  have g : PStep P s.heap P (s.heap.push { cls := .type "range_iterator", data := .fields #[rawInt a, rawInt (Builtin.Range.rangeSize a b c), rawInt c] }) := .grow hs fun b o e => Heap.get?_push_of_some _ e
  refine hQ s.heap.objs.size [s.heap.objs.size] [s.heap.objs.size] _ _ _ _ s.toks g
    { self := (Walks.range hA.h s.heap.objs.size a c n).self
      w := KTurns.ofWalks (Walks.range hA.h s.heap.objs.size a c n) fun i v s Q E _ q => by exact wpAny_pure q
      st := ?_
      hfp := fun b hb => ?_
      hwr := fun b hb => ?_
      live := fun i h st b hb => ?_
      elt := fun i v Pc hc hi le sub hv => ?_ }
  · show IsRangeIter _ _ _ _ _
    rw [hn]
    simpa using Heap.get?_push_size _ rfl
  · rw [List.mem_singleton.mp hb]
    exact .inr ⟨Heap.get?_none_of_le (Nat.le_refl _), _, Heap.get?_push_size _ rfl⟩
  · rw [List.mem_singleton.mp hb]
    refine ⟨Heap.get?_none_of_le (Nat.le_refl _), ?_, _, Heap.get?_push_size _ rfl⟩
    cases e : P s.heap.objs.size with
    | none => rfl
    | some o' => exact absurd (Heap.lt_size (hs _ _ e)) (Nat.lt_irrefl _)
  · rw [List.mem_singleton.mp hb]
    exact ⟨_, st⟩
  · obtain ⟨t, rfl⟩ := hv
    exact .int

theorem Turns.back {target : Expr} {n : Nat} {R : EltR} {A : Around} {h0 h1 h' : Heap} {P' : PM} {I : Addr} {fp wr : List Addr} {Pn Md : Nat → Value → Heap → Prop} {Sn : Nat → Heap → Prop} (U : Turns C target n R A h1 P' h' I fp wr Pn Md Sn) (kp : ∀ b o, h0.get? b = some o → h1.get? b = some o) : Turns C target n R A h0 P' h' I fp wr Pn Md Sn :=
  { U with
    hfp := fun b hb => (U.hfp b hb).imp id fun q => ⟨none_back kp q.1, q.2⟩
    hwr := fun b hb => ⟨none_back kp (U.hwr b hb).1, (U.hwr b hb).2⟩ }

/-- a call whose result is no tree: what is known of it is handed on -/
theorem tree_call {fx : Str} {fp p : Pos} {es : List Expr} {f : Value} {ts : List T} {A : Around} {P : PM} {s : Shared} {Q : Value → Shared → Prop} (hA : Room k A) (hS : St C env P s.heap ρ μ)
    (hf : Tr C k env (eval (.Name fx fp) env) ρ μ fun _ u => u = f) (hc : Callee C f) (hs : ∀ e ∈ es, isStarred e = false) (h : EvPs C k env es p ρ μ ts)
    (hQ : ∀ vs P' h' tk, PStep P s.heap P' h' → Reps P' vs ts → wpAny (model C.prog C.w) A (call f vs) Q (fun _ _ => False) { s with heap := h', toks := tk }) : wpAny (model C.prog C.w) A (eval (.Call (.Name fx fp) es [] p) env) Q (fun _ _ => False) s :=
  wpAny_Call_NameR (hf A P s _ hA hS fun f' P1 h1 tk1 st1 e => by
    subst e
    refine callWith_all (g0 := C.g0) (plain_star hs) ?_ (h A P1 _ _ hA (hS.step st1) fun vs P2 h2 tk2 st2 r2 => ⟨((hS.step st1).step st2).gd.top, hQ vs P2 h2 tk2 (st1.trans st2) r2⟩)
    cases hc with
    | builtin => exact .inl ⟨_, rfl⟩
    | type => exact .inr (.inl ⟨_, rfl⟩)
    | fn a b => exact .inr (.inr ⟨_, _, _, rfl, a, b⟩))

theorem IterOK.range {fx x : Str} {fp p px : Pos} {e : Expr} {n : Int} (hf : Tr C k env (eval (.Name fx fp) env) ρ μ fun _ u => u = .type "range") (he : isStarred e = false) (h : EvPs C k env [e] p ρ μ [.int n]) (h0 : 0 ≤ n) (hn : n < 1000000) :
    IterOK C k env (.Call (.Name fx fp) [e] [] p) (.Name x px) ρ μ n.toNat (RepR fun i => .int i) := fun A P s Q hA hS hQ =>
  tree_call hA hS hf .type (fun e' h' => by rw [List.mem_singleton.mp h']; exact he) h fun vs P1 h1 tk1 st1 r1 => by
    have S1 := hS.step st1
    cases r1 with
    | cons r rs =>
      cases rs; cases r
      rename_i t1
      refine call_range_1 ?_
      have hsm : Builtin.Range.small 0 n 1 = true := small_one (by decide) (by decide) (by omega) (by omega)
      have g1 : PStep P1 h1 P1 (h1.push { cls := .type "range", data := .fields #[.int 0 tk1, .int n t1, .int 1 (tk1 + 1)] }) := .grow S1.gd.s fun b o e => Heap.get?_push_of_some _ e
      refine iter_range_src (x := x) (px := px) (n := n.toNat) (P := P1) hA g1.sub (IsRange.new ..) hsm (by rw [rangeSize_one]; split <;> omega) fun I fp wr Pn Md Sn h' tk g U => ?_
      have e : (fun i : Nat => T.int ((0 : Int) + i * 1)) = fun i => .int i := by funext i; simp
      have st := (st1.trans g1).trans g
      rw [show (RepR fun i : Nat => T.int ((0 : Int) + i * 1)) = RepR fun i => .int i from congrArg RepR e] at U
      exact hQ I fp wr Pn Md Sn P1 h' tk st (U.back (st1.trans g1).keep)

theorem IterOK.rangeDown {fx x : Str} {fp p px : Pos} {e e2 e3 : Expr} {n : Int} (hf : Tr C k env (eval (.Name fx fp) env) ρ μ fun _ u => u = .type "range") (he : isStarred e = false ∧ isStarred e2 = false ∧ isStarred e3 = false) (h : EvPs C k env [e, e2, e3] p ρ μ [.int n, .int 0, .int (-1)]) (h0 : 0 ≤ n) (hn : n < 1000000) :
    IterOK C k env (.Call (.Name fx fp) [e, e2, e3] [] p) (.Name x px) ρ μ n.toNat (RepR fun i => .int (n - i)) := fun A P s Q hA hS hQ =>
  tree_call hA hS hf .type (fun e' h' => by
      rcases List.mem_cons.mp h' with rfl | h'
      · exact he.1
      rcases List.mem_cons.mp h' with rfl | h'
      · exact he.2.1
      rw [List.mem_singleton.mp h']; exact he.2.2) h fun vs P1 h1 tk1 st1 r1 => by
    have S1 := hS.step st1
    cases r1 with
    | cons r rs => cases rs with
      | cons r' rs => cases rs with
        | cons r'' rs =>
          cases rs; cases r; cases r'; cases r''
          rename_i t1 t2 t3
          have hsz : Builtin.Range.rangeSize n 0 (-1) = n := by
            unfold Builtin.Range.rangeSize
            simp
            omega
          have hsm : Builtin.Range.small n 0 (-1) = true := by
            unfold Builtin.Range.small
            rw [hsz]
            simp [Builtin.Range.rangeFitsLong]
            omega
          refine call_range_3 (by decide) ?_ (.inl (PyProof.noPylong_small (by omega)))
          have g1 : PStep P1 h1 P1 (h1.push { cls := .type "range", data := .fields #[.int n t1, .int 0 t2, .int (-1) t3] }) := .grow S1.gd.s fun b o e => Heap.get?_push_of_some _ e
          refine iter_range_src (x := x) (px := px) (n := n.toNat) (P := P1) hA g1.sub (IsRange.new ..) hsm (by rw [hsz]; omega) fun I fp wr Pn Md Sn h' tk g U => ?_
          have e : (fun i : Nat => T.int (n + i * (-1))) = fun i => .int (n - i) := by funext i; congr 1; omega
          have st := (st1.trans g1).trans g
          rw [show (RepR fun i : Nat => T.int (n + i * (-1))) = RepR fun i => .int (n - i) from congrArg RepR e] at U
          exact hQ I fp wr Pn Md Sn P1 h' tk st (U.back (st1.trans g1).keep)

/-- enumerate over a frozen list -/
theorem IterOK.enum {fx : Str} {fp p tp : Pos} {e : Expr} {es : List Expr} {j : Nat} {ts : List T} (hf : Tr C k env (eval (.Name fx fp) env) ρ μ fun _ u => u = .type "enumerate") (he : isStarred e = false) (h : EvPs C k env [e] p ρ μ [.lst ts]) :
    IterOK C k env (.Call (.Name fx fp) [e] [] p) (.Tuple es j tp) ρ μ ts.length (TupR fun i => [.int i, ts.getD i .none]) := fun A P s Q hA hS hQ =>
  tree_call hA hS hf .type (fun e' h' => by rw [List.mem_singleton.mp h']; exact he) h fun vs P1 h1 tk1 st1 r1 => by
    have S1 := hS.step st1
    cases r1 with
    | cons r rs =>
      cases rs
      cases r with
      | lst e1 rs =>
        rename_i l n ws
        have hl : h1.IsList l ws.toArray := ⟨_, S1.gd.s _ _ e1, rfl, _, rfl⟩
        have hlt : l < h1.objs.size := Heap.lt_size (S1.gd.s _ _ e1)
        refine call_enumerate_list (s := { s with heap := h1, toks := tk1 }) hl fun h' hE hI hsz hk => ?_
        refine wpAny_pyIter_enum hE ?_
        have g : PStep P1 h1 P1 h' := .grow S1.gd.s hk
        have st := st1.trans g
        have hlen : ws.toArray.size = ts.length := by simp [rs.length]
        have W := WalksT.enumerate (prog := C.prog) (w := C.w) hA.h (h1.objs.size + 1) h1.objs.size l (Nat.succ_ne_self _) (ktu_ne 1 hlt) (Nat.ne_of_lt hlt) ws.toArray
        rw [hlen] at W
        have lv1 : ∃ o, h'.get? (h1.objs.size + 1) = some o := ⟨_, hE⟩
        have lv2 : ∃ o, h'.get? h1.objs.size = some o := let ⟨o, e, _⟩ := hI; ⟨o, e⟩
        have pn : ∀ b, h1.objs.size ≤ b → P1 b = none := fun b hb => by
          cases e : P1 b with
          | none => rfl
          | some o' => exact absurd (Heap.lt_size (S1.gd.s _ _ e)) (Nat.not_lt.mpr hb)
        have sn : ∀ b, h1.objs.size ≤ b → s.heap.get? b = none := fun b hb => none_back st1.keep (Heap.get?_none_of_le hb)
        refine hQ (h1.objs.size + 1) [h1.objs.size + 1, h1.objs.size, l] [h1.objs.size + 1, h1.objs.size] _ _ _ P1 h' tk1 st
          { self := W.toU.self
            w := KTurns.ofWalksU W.toU
            st := ⟨⟨_, hE⟩, hI, hl.at fun o e => hk l o e⟩
            hfp := fun b hb => ?_
            hwr := fun b hb => ?_
            live := fun i h st b hb => ?_
            elt := fun i v Pc hc hi le sub hv => ?_ }
        · rcases List.mem_cons.mp hb with rfl | hb
          · exact .inr ⟨sn _ (Nat.le_succ _), lv1⟩
          rcases List.mem_cons.mp hb with rfl | hb
          · exact .inr ⟨sn _ (Nat.le_refl _), lv2⟩
          rw [List.mem_singleton.mp hb]; exact .inl ⟨_, e1⟩
        · rcases List.mem_cons.mp hb with rfl | hb
          · exact ⟨sn _ (Nat.le_succ _), pn _ (Nat.le_succ _), lv1⟩
          rw [List.mem_singleton.mp hb]
          exact ⟨sn _ (Nat.le_refl _), pn _ (Nat.le_refl _), lv2⟩
        · obtain ⟨⟨old, q1⟩, ⟨o2, q2, _⟩, _⟩ := st
          rcases List.mem_cons.mp hb with rfl | hb
          · exact ⟨_, q1⟩
          rw [List.mem_singleton.mp hb]; exact ⟨_, q2⟩
        · obtain ⟨Ta, vals, rfl, ⟨tt, y, hy, rfl⟩, hT⟩ := hv
          obtain ⟨t, et, r⟩ := rs.get' (i := i) (v := y) (by simpa using hy)
          refine ⟨Ta, [.int i tt, y], rfl, hT, .cons .int (.one ?_)⟩
          rw [List.getD_eq_getElem?_getD, et]
          exact r.mono le
end
end Mine

namespace Mine

section
variable {C : Cfg} {k : Nat} {env : Env} {ρ : List (Option T)} {μ : Mem} {Ψ : Out → Prop}

/-- an optional bound of a slice -/
inductive OptP (C : Cfg) (k : Nat) (env : Env) (ρ : List (Option T)) (μ : Mem) : Option Expr → Option Int → Prop
  | none : OptP C k env ρ μ none none
  | some {e : Expr} {i : Int} : EvP C k env e ρ μ (.int i) → OptP C k env ρ μ (some e) (some i)
theorem OptP.go {e : Option Expr} {o : Option Int} (h : OptP C k env ρ μ e o) : Tr C k env (evalPart e env) ρ μ fun _ v => IsPart v o := fun A P s Q hA hS hQ => by
  cases h with
  | none => exact wpAny_pure (hQ _ P _ _ (.refl hS.gd.s) .none)
  | some h => exact h A P s _ hA hS fun v P' h' tk st r => by cases r; exact hQ _ P' h' tk st (.int _ _)

noncomputable def pickT (ts : List T) (lo hi : Option Int) : List T := (ts.drop (kms_lo lo ts.length)).take (kms_hi hi ts.length - kms_lo lo ts.length)
theorem pick_reps {P : PM} {vs : List Value} {ts : List T} (r : Reps P vs ts) (lo hi : Option Int) : Reps P (kms_pick vs lo hi) (pickT ts lo hi) := by
  unfold kms_pick pickT
  rw [r.length]
  exact (r.drop _).take _

theorem slice_core {v : Expr} {lo hi : Option Expr} {p p' : Pos} {l : T} {ts : List T} {a b : Option Int} (h1 : EvP C k env v ρ μ l) (hl : LstAt C μ l ts) (h2 : OptP C k env ρ μ lo a) (h3 : OptP C k env ρ μ hi b) (hz : ts.length < 1000000)
    {A : Around} {P : PM} {s : Shared} {Q : Value → Shared → Prop} (hA : Room k A) (hS : St C env P s.heap ρ μ)
    (hQ : ∀ P' h' tk vs, PStep P s.heap P' h' → Reps P' vs (pickT ts a b) → Q (.ref h'.objs.size) { s with heap := h'.push { cls := .type "list", data := .seq vs.toArray }, toks := tk }) :
    wpAny (model C.prog C.w) A (eval (.Subscript v (.Slice lo hi none p) p') env) Q (fun _ _ => False) s :=
  Subscript_ (h1 A P s _ hA hS fun o P1 h1 tk1 st1 r1 => wpAny_Slice (h2.go A P1 _ _ hA (hS.step st1) fun vl P2 h2 tk2 st2 p2 => h3.go A P2 _ _ hA ((hS.step st1).step st2) fun vu P3 h3 tk3 st3 p3 => by
    rw [evalPart_none]
    refine wpAny_pure ?_
    have S3 := ((hS.step st1).step st2).step st3
    obtain ⟨a', vs, rfl, hl, rs⟩ := hl.get S3.gd S3.me (r1.mono fun b o q => st3.le _ _ (st2.le _ _ q))
    obtain ⟨ops, hs⟩ := subscripted_ops (.Slice lo hi none p) (.ref a') (.ref h3.objs.size)
    refine tail_any (hl.push _).typeIs slot_list_getitem.lookup (wpAny_getItem_list_slice (hl.push _) (Heap.IsSliceOf.new ..) p2 p3 .none (by simp) ?_ (by simp [rs.length]; exact Nat.le_trans (Nat.le_of_lt hz) (by decide))) hs
    rw [kms_pick_eq]
    have g : PStep P3 h3 P3 (h3.push { cls := .type "slice", data := .fields #[vl, vu, .none] }) := .grow S3.gd.s fun b o e => Heap.get?_push_of_some _ e
    exact hQ P3 _ tk3 _ (((st1.trans st2).trans st3).trans g) (pick_reps (by simpa using rs) a b)))

theorem EvP.slice {v : Expr} {lo hi : Option Expr} {p p' : Pos} {l : T} {ts : List T} {a b : Option Int} (h1 : EvP C k env v ρ μ l) (hl : LstAt C μ l ts) (h2 : OptP C k env ρ μ lo a) (h3 : OptP C k env ρ μ hi b) (hz : ts.length < 1000000) :
    EvP C k env (.Subscript v (.Slice lo hi Option.none p) p') ρ μ (.lst (pickT ts a b)) := fun A P s Q hA hS hQ =>
  slice_core h1 hl h2 h3 hz hA hS fun P' h' tk vs st r => by
    obtain ⟨st2, r2⟩ := push_lst st.sub r
    exact hQ _ _ _ _ (st.trans st2) r2

/-- [::-1] -/
theorem EvP.rev {v e : Expr} {p p' : Pos} {l : T} {ts : List T} (h1 : EvP C k env v ρ μ l) (hl : LstAt C μ l ts) (h2 : EvP C k env e ρ μ (.int (-1))) (hz : ts.length < 1000000) :
    EvP C k env (.Subscript v (.Slice Option.none Option.none (Option.some e) p) p') ρ μ (.lst ts.reverse) := fun A P s Q hA hS hQ =>
  Subscript_ (h1 A P s _ hA hS fun o P1 h1 tk1 st1 r1 => wpAny_Slice (by
    rw [evalPart_none]
    refine wpAny_pure (wpAny_pure ?_)
    rw [evalPart_some]
    refine h2 A P1 _ _ hA (hS.step st1) fun ve P2 h2 tk2 st2 r2 => ?_
    cases r2
    have S3 := (hS.step st1).step st2
    obtain ⟨a', vs, rfl, hl, rs⟩ := hl.get S3.gd S3.me (r1.mono st2.le)
    obtain ⟨ops, hs⟩ := subscripted_ops (.Slice Option.none Option.none (Option.some e) p) (.ref a') (.ref h2.objs.size)
    refine tail_any (hl.push _).typeIs slot_list_getitem.lookup (wpAny_getItem_list_slice (hl.push _) (Heap.IsSliceOf.new ..) .none .none (.int _ _) (by simp) ?_ (by simp [rs.length]; exact Nat.le_trans (Nat.le_of_lt hz) (by decide))) hs
    rw [krv_pick]
    have g : ∀ ve, PStep P2 h2 P2 (h2.push { cls := .type "slice", data := .fields #[.none, .none, ve] }) := fun ve => .grow S3.gd.s fun b o e => Heap.get?_push_of_some _ e
    obtain ⟨st2', r2⟩ := push_lst ((st1.trans st2).trans (g _)).sub rs.reverse
    exact hQ _ _ _ _ (((st1.trans st2).trans (g _)).trans st2') (by simpa using r2)))

theorem push_tup {P : PM} {h : Heap} {vs : List Value} {ts : List T} (s : ∀ b o, P b = some o → h.get? b = some o) (r : Reps P vs ts) :
    PStep P h (P.add h.objs.size { cls := .type "tuple", data := .seq vs.toArray }) (h.push { cls := .type "tuple", data := .seq vs.toArray }) ∧ Rep (P.add h.objs.size { cls := .type "tuple", data := .seq vs.toArray }) (.ref h.objs.size) (.tup ts) :=
  have st := PStep.push (o := { cls := .type "tuple", data := .seq vs.toArray }) s rfl
  ⟨st, .tup (PM.add_self _ _ _) (r.mono st.le)⟩
theorem tuple_list {l : T} {ts : List T} (hl : LstAt C μ l ts) (hz : ts.length < 1000000) : CallOp C k μ (.type "tuple") [l] (.tup ts) := fun A P s vs Q hA hG hM r hQ => by
  cases r with
  | cons r rs =>
    cases rs
    obtain ⟨a, vs, rfl, hl, rs⟩ := hl.get hG hM r
    refine call_tuple_list hl (fun h' hk => ?_) (by simp [rs.length]; exact Nat.le_trans (Nat.le_of_lt hz) (by decide))
    have g : PStep P s.heap P h' := .grow hG.s hk
    obtain ⟨st, r⟩ := push_tup g.sub rs
    exact hQ _ _ _ _ (g.trans st) r
/-- list(..) of a frozen sequence: what comes out -/
theorem list_core {t : T} {ts : List T} (ht : t = .tup ts ∨ t = .lst ts) (hz : ts.length < 1000000) {A : Around} {P : PM} {s : Shared} {v : Value} {Q : Value → Shared → Prop} (hG : ∀ b o, P b = some o → s.heap.get? b = some o) (r : Rep P v t)
    (hQ : ∀ h' n vs, (∀ b o, s.heap.get? b = some o → h'.get? b = some o) → h'.get? s.heap.objs.size = some (sq "list" vs n) → Reps P vs ts → Q (.ref s.heap.objs.size) { s with heap := h' }) :
    wpAny (model C.prog C.w) A (call (.type "list") [v]) Q (fun _ _ => False) s := by
  rcases ht with rfl | rfl
  · cases r with
    | tup h1 rs => exact call_list_seq _ (T := "tuple") (.inr rfl) (hG _ _ h1) rfl rfl (fun h' c hk e => hQ h' c _ hk e (by simpa using rs)) (by simp [rs.length]; exact Nat.le_trans (Nat.le_of_lt hz) (by decide))
  · cases r with
    | lst h1 rs => exact call_list_seq _ (T := "list") (.inl rfl) (hG _ _ h1) rfl rfl (fun h' c hk e => hQ h' c _ hk e (by simpa using rs)) (by simp [rs.length]; exact Nat.le_trans (Nat.le_of_lt hz) (by decide))
theorem PStep.adopt {P : PM} {h h' : Heap} {a : Addr} {o : Obj} (s : ∀ b o, P b = some o → h.get? b = some o) (k : ∀ b o, h.get? b = some o → h'.get? b = some o) (hn : h.get? a = none) (e : h'.get? a = some o) : PStep P h (P.add a o) h' where
  keep := k
  le b o' q := by
    have : b ≠ a := fun x => by rw [x] at q; have := s _ _ q; rw [hn] at this; cases this
    simp [PM.add, this, q]
  new b o' q := by
    unfold PM.add at q
    split at q
    · rename_i x; subst x; exact .inr hn
    · exact .inl q
  sub b o' q := by
    unfold PM.add at q
    split at q
    · rename_i x; cases q; subst x; exact e
    · exact k _ _ (s b o' q)
theorem list_seq {t : T} {ts : List T} (ht : t = .tup ts ∨ t = .lst ts) (hz : ts.length < 1000000) : CallOp C k μ (.type "list") [t] (.lst ts) := fun A P s vs Q hA hG hM r hQ => by
  cases r with
  | cons r rs =>
    cases rs
    refine list_core ht hz hG.s r fun h' n vs hk e rs => ?_
    have st : PStep P s.heap (P.add s.heap.objs.size (sq "list" vs n)) h' := .adopt hG.s hk (Heap.get?_none_of_le (Nat.le_refl _)) e
    exact hQ _ _ h' s.toks st (.lst (PM.add_self _ _ _) (rs.mono st.le))

theorem ints_of {P : PM} : ∀ {vs : List Value} {ns : List Int}, Reps P vs (ns.map .int) → IntsAre vs ns
  | [], [], _ => .nil
  | [], _ :: _, h => by cases h
  | _ :: _, [], h => by cases h
  | v :: vs, n :: ns, h => by
    cases h with
    | cons r rs => cases r; exact .cons _ _ (ints_of rs)
theorem nums_of {vs : List Value} {ns : List Int} (h : IntsAre vs ns) : AllInts vs.toArray := h.allInts
theorem sum_ints {ns : List Int} : CallOp C k μ (.builtin "sum") [.lst (ns.map .int)] (.int ns.sum) := fun A P s vs Q hA hG hM r hQ => by
  cases r with
  | cons r rs =>
    cases rs
    obtain ⟨a, vs, rfl, hl, rs⟩ := r.lstAt hG.s
    have hi := ints_of rs
    obtain ⟨xs, hx⟩ := hi.allInts.items
    rw [hx] at hl
    refine sum_intListG hA.h hl fun h' tk t' hk => hQ _ P h' tk (.grow hG.s hk) ?_
    rw [preSum_eq, List.take_of_length_le (by simp)]
    have e := nums_intItems xs
    rw [← hx] at e
    have e2 : numsOf vs = ns := hi.numsOf
    rw [show vs.toArray.toList = vs from rfl, e2] at e
    rw [← e]
    exact .int
theorem abs_int {a : Int} : CallOp C k μ (.builtin "abs") [.int a] (.int (if a < 0 then -a else a)) := fun A P s vs Q hA hG hM r hQ => by
  cases r with
  | cons r rs =>
    cases rs; cases r
    exact call_abs_int fun u tk => hQ _ P _ tk (.refl hG.s) .int
theorem int_bool {b : Bool} : CallOp C k μ (.type "int") [.bool b] (.int (if b then 1 else 0)) := fun A P s vs Q hA hG hM r hQ => by
  cases r with
  | cons r rs =>
    cases rs; cases r
    exact call_int_bool (hQ _ P _ _ (.refl hG.s) .int)

theorem strs_of {P : PM} : ∀ {vs : List Value} {ys : List Str}, Reps P vs (ys.map .str) → StrsAre vs ys
  | [], [], _ => .nil
  | [], _ :: _, h => by cases h
  | _ :: _, [], h => by cases h
  | v :: vs, n :: ns, h => by
    cases h with
    | cons r rs => cases r; exact .cons _ _ (strs_of rs)
theorem op_inT {x : Str} {ys : List Str} : Op2 C k μ (compareOp .In) (.str x) (.tup (ys.map .str)) fun _ v => v = .bool (ys.any (· == x)) := fun A P s v w Q hA hG hM r1 r2 hQ => by
  cases r1
  obtain ⟨a, vs, rfl, hl, rs⟩ := r2.tupAt hG.s
  exact in_tuple_strs hl (strs_of rs) (hQ _ P _ _ (.refl hG.s) rfl)
theorem op_inL {x : Str} {ys : List Str} : Op2 C k μ (compareOp .In) (.str x) (.lst (ys.map .str)) fun _ v => v = .bool (ys.any (· == x)) := fun A P s v w Q hA hG hM r1 r2 hQ => by
  cases r1
  obtain ⟨a, vs, rfl, hl, rs⟩ := r2.lstAt hG.s
  have hi := strs_of rs
  refine SeqAt.in_listAt (fun y => match y with | .str n _ => n == x | _ => false) hl (fun y hy => ?_) ?_
  · obtain ⟨i, hi', e⟩ := List.getElem_of_mem (by simpa using hy)
    obtain ⟨t, et, r⟩ := rs.get' (i := i) (v := y) (by rw [List.getElem?_eq_getElem hi', e])
    simp only [List.getElem?_map] at et
    cases q : ys[i]? with
    | none => rw [q] at et; cases et
    | some z =>
      rw [q] at et
      cases et
      cases r
      exact fun _ _ _ _ h => eqBool_str h
  · have e : ∀ {vs : List Value} {ys : List Str}, StrsAre vs ys → (vs.toArray.any fun y => match y with | .str n _ => n == x | _ => false) = ys.any (· == x) := by
      intro vs ys h
      rw [List.any_toArray]
      induction h with
      | nil => rfl
      | cons n t _ ih => rw [List.any_cons, List.any_cons, ih]
    rw [e hi]
    exact hQ _ P _ _ (.refl hG.s) rfl

/-- a chain of two comparisons, as a value and as a test -/
theorem EvP.chain2 {l m r : Expr} {o1 o2 : CmpOp} {p : Pos} {a b c : T} {x y : Bool} (h1 : EvP C k env l ρ μ a) (h2 : EvP C k env m ρ μ b) (h3 : EvP C k env r ρ μ c)
    (c1 : Op2 C k μ (compareOp o1) a b fun _ v => v = .bool x) (c2 : Op2 C k μ (compareOp o2) b c fun _ v => v = .bool y) (hm : lastMarks [o1, o2] [m, r] = false := by with_unfolding_all rfl) : EvP C k env (.Compare l [o1, o2] [m, r] p) ρ μ (.bool (x && y)) := fun A P s Q hA hS hQ =>
  Compare_chain (h1 A P s _ hA hS fun v P1 h1 tk1 st1 r1 => chain_link (h2 A P1 _ _ hA (hS.step st1) fun u P2 h2 tk2 st2 r2 =>
    c1 A P2 _ _ _ _ hA ((hS.step st1).step st2).gd ((hS.step st1).step st2).me (r1.mono st2.le) r2 fun z P3 h3' tk3 st3 e => by
      subst e
      refine wpAny_truthy_bool ?_
      have S3 := ((hS.step st1).step st2).step st3
      cases x with
      | false => exact hQ _ P3 h3' tk3 ((st1.trans st2).trans st3) .bool
      | true => exact chain_last (h3 A P3 _ _ hA S3 fun w P4 h4 tk4 st4 r4 => c2 A P4 _ _ _ _ hA (S3.step st4).gd (S3.step st4).me ((r2.mono st3.le).mono st4.le) r4 fun z P5 h5 tk5 st5 e => hQ z P5 h5 tk5 ((((st1.trans st2).trans st3).trans st4).trans st5) (e ▸ .bool)))) hm
theorem EvB.chain2 {l m r : Expr} {o1 o2 : CmpOp} {p : Pos} {a b c : T} {x y : Bool} (h1 : EvP C k env l ρ μ a) (h2 : EvP C k env m ρ μ b) (h3 : EvP C k env r ρ μ c)
    (c1 : Op2 C k μ (compareOp o1) a b fun _ v => v = .bool x) (c2 : Op2 C k μ (compareOp o2) b c fun _ v => v = .bool y) (hm : lastMarks [o1, o2] [m, r] = false := by with_unfolding_all rfl) : EvB C k env (.Compare l [o1, o2] [m, r] p) ρ μ (x && y) := fun A P s Q hA hS hQ =>
  isTrue_chain (h1 A P s _ hA hS fun v P1 h1 tk1 st1 r1 => test_link (h2 A P1 _ _ hA (hS.step st1) fun u P2 h2 tk2 st2 r2 =>
    c1 A P2 _ _ _ _ hA ((hS.step st1).step st2).gd ((hS.step st1).step st2).me (r1.mono st2.le) r2 fun z P3 h3' tk3 st3 e => by
      subst e
      refine wpAny_truthy_bool ?_
      have S3 := ((hS.step st1).step st2).step st3
      cases x with
      | false => exact hQ _ P3 h3' tk3 ((st1.trans st2).trans st3) rfl
      | true => exact test_last (h3 A P3 _ _ hA S3 fun w P4 h4 tk4 st4 r4 => c2 A P4 _ _ _ _ hA (S3.step st4).gd (S3.step st4).me ((r2.mono st3.le).mono st4.le) r4 fun z P5 h5 tk5 st5 e => by
          subst e
          exact wpAny_truthy_bool (hQ _ P5 h5 tk5 ((((st1.trans st2).trans st3).trans st4).trans st5) rfl)))) hm

/-- and / or as values, of truth values -/
theorem EvP.and_one {e : Expr} {p : Pos} {x : Bool} (h : EvP C k env e ρ μ (.bool x)) : EvP C k env (.BoolOp .And [e] p) ρ μ (.bool x) := h
theorem EvP.or_one {e : Expr} {p : Pos} {x : Bool} (h : EvP C k env e ρ μ (.bool x)) : EvP C k env (.BoolOp .Or [e] p) ρ μ (.bool x) := h
theorem EvP.and_more {e e' : Expr} {r : List Expr} {p : Pos} {x y : Bool} (h : EvP C k env e ρ μ (.bool x)) (h' : x = true → EvP C k env (.BoolOp .And (e' :: r) p) ρ μ (.bool y)) : EvP C k env (.BoolOp .And (e :: e' :: r) p) ρ μ (.bool (x && y)) := fun A P s Q hA hS hQ =>
  BoolOp_and (h A P s _ hA hS fun v P1 h1 tk1 st1 r1 => by
    cases r1
    refine wpAny_truthy_bool ?_
    cases x with
    | false => exact hQ _ P1 h1 tk1 st1 .bool
    | true => exact h' rfl A P1 _ _ hA (hS.step st1) fun u P2 h2 tk2 st2 r2 => hQ u P2 h2 tk2 (st1.trans st2) r2)
theorem EvP.or_more {e e' : Expr} {r : List Expr} {p : Pos} {x y : Bool} (h : EvP C k env e ρ μ (.bool x)) (h' : x = false → EvP C k env (.BoolOp .Or (e' :: r) p) ρ μ (.bool y)) : EvP C k env (.BoolOp .Or (e :: e' :: r) p) ρ μ (.bool (x || y)) := fun A P s Q hA hS hQ =>
  BoolOp_or (h A P s _ hA hS fun v P1 h1 tk1 st1 r1 => by
    cases r1
    refine wpAny_truthy_bool ?_
    cases x with
    | true => exact hQ _ P1 h1 tk1 st1 .bool
    | false => exact h' rfl A P1 _ _ hA (hS.step st1) fun u P2 h2 tk2 st2 r2 => hQ u P2 h2 tk2 (st1.trans st2) r2)
end
end Mine

namespace Mine

section
variable {C : Cfg} {k : Nat} {env : Env} {ρ : List (Option T)} {μ : Mem} {Ψ : Out → Prop} {Φ : T → Mem → Prop}


/-! memory by pieces -/
theorem MemSt.perm {P : PM} {h : Heap} {μ' : Mem} (M : MemSt C P h μ) (p : μ.Perm μ') : MemSt C P h μ' :=
  ⟨fun e he => M.rep e (p.mem_iff.mpr he), fun e he => M.off e (p.mem_iff.mpr he), (p.map _).nodup_iff.mp M.nd⟩
theorem MemSt.left {P : PM} {h : Heap} {μ1 μ2 : Mem} (M : MemSt C P h (μ1 ++ μ2)) : MemSt C P h μ1 :=
  ⟨fun e he => M.rep e (List.mem_append_left _ he), fun e he => M.off e (List.mem_append_left _ he), by have := M.nd; rw [List.map_append] at this; exact (List.nodup_append.mp this).1⟩
theorem MemSt.right {P : PM} {h : Heap} {μ1 μ2 : Mem} (M : MemSt C P h (μ1 ++ μ2)) : MemSt C P h μ2 :=
  ⟨fun e he => M.rep e (List.mem_append_right _ he), fun e he => M.off e (List.mem_append_right _ he), by have := M.nd; rw [List.map_append] at this; exact (List.nodup_append.mp this).2.1⟩
theorem MemSt.apart {P : PM} {h : Heap} {μ1 μ2 : Mem} (M : MemSt C P h (μ1 ++ μ2)) {a : Addr} (h1 : a ∈ μ1.map (·.1)) (h2 : a ∈ μ2.map (·.1)) : False := by
  have := M.nd
  rw [List.map_append] at this
  exact (List.nodup_append.mp this).2.2 a h1 a h2 rfl
theorem MemSt.liveA {P : PM} {h : Heap} (M : MemSt C P h μ) {a : Addr} (ha : a ∈ μ.map (·.1)) : ∃ o, h.get? a = some o := by
  obtain ⟨e, he, rfl⟩ := List.mem_map.mp ha
  exact (M.rep e he).live
theorem MemSt.offA {P : PM} {h : Heap} (M : MemSt C P h μ) {a : Addr} (ha : a ∈ μ.map (·.1)) : P a = none := by
  obtain ⟨e, he, rfl⟩ := List.mem_map.mp ha
  exact M.off e he

/-- part of the memory is forgotten -/
theorem St.part {P : PM} {h : Heap} {μ' μ'' : Mem} (S : St C env P h ρ μ) (p : μ.Perm (μ' ++ μ'')) : St C env P h ρ μ' :=
  ⟨S.gd, S.fr, (S.me.perm p).left, fun a ha q => S.ap a ha ((p.map _).mem_iff.mpr (by rw [List.map_append]; exact List.mem_append_left _ q))⟩
theorem part_mem {μ' μ'' : Mem} (p : μ.Perm (μ' ++ μ'')) {a : Addr} (h : a ∈ μ'.map (·.1)) : a ∈ μ.map (·.1) := (p.map _).mem_iff.mpr (by rw [List.map_append]; exact List.mem_append_left _ h)
theorem Ex.part {sts : List Stmt} (μ' μ'' : Mem) (p : μ.Perm (μ' ++ μ'')) (h : Ex C k env sts ρ μ' Ψ) : Ex C k env sts ρ μ Ψ := fun A P s Q hA hS hQ =>
  h A P s Q hA (hS.part p) fun f P' h' tk o ho w ok => hQ f P' h' tk o ho (w.wide fun b => .imp id (part_mem p)) (by
    cases o with
    | next ρ1 μ1 => exact ⟨ok.1, ok.2.1, fun a ha => (ok.2.2 a ha).imp (part_mem p) id⟩
    | ret t μ1 =>
      obtain ⟨v, e, r, M, x, ap⟩ := ok
      exact ⟨v, e, r, M, fun a ha => (x a ha).imp (part_mem p) id, ap⟩)

/-- a step by a call that changes what it is lent -/
theorem St.frame {P P' : PM} {h h' : Heap} {μ1 μ2 μ1' : Mem} (S : St C env P h ρ μ) (p : μ.Perm (μ1 ++ μ2)) (w : WStep (fun b => b ∈ μ1.map (·.1)) P h P' h') (M' : MemSt C P' h' μ1') (x : Sub μ1 h μ1') :
    St C env P' h' ρ (μ1' ++ μ2) ∧ WStep (NM μ) P h P' h' ∧ Sub μ h (μ1' ++ μ2) := by
  have M := S.me.perm p
  have ap1 : ∀ a ∈ FA env, a ∉ μ1.map (·.1) := fun a ha q => S.ap a ha (part_mem p q)
  have m2 : ∀ {a}, a ∈ μ2.map (·.1) → a ∈ μ.map (·.1) := fun q => (p.map _).mem_iff.mpr (by rw [List.map_append]; exact List.mem_append_right _ q)
  have off' : ∀ a, a ∉ μ1.map (·.1) → P a = none → (∃ o, h.get? a = some o) → P' a = none := fun a ha hp hl => by
    cases e : P' a with
    | none => rfl
    | some o =>
      rcases w.new a o e with z | z | z
      · rw [hp] at z; cases z
      · exact absurd z ha
      · obtain ⟨o', q⟩ := hl; rw [q] at z; cases z
  have nn : ∀ a ∈ μ1'.map (·.1), a ∉ FA env ∧ a ∉ μ2.map (·.1) := fun a ha => by
    rcases x a ha with q | q
    · exact ⟨fun z => ap1 a z q, fun z => M.apart q z⟩
    · refine ⟨fun z => ?_, fun z => ?_⟩
      · obtain ⟨o, e⟩ := S.fr.live a z; rw [e] at q; cases q
      · obtain ⟨o, e⟩ := M.right.liveA z; rw [e] at q; cases q
  refine ⟨⟨S.gd.wstep w, S.fr.keep w.le (fun b hb o e => w.keep b o (ap1 b hb) e) fun a ha => off' a (ap1 a ha) (S.fr.off a ha) (S.fr.live a ha), ⟨fun e he => ?_, fun e he => ?_, ?_⟩, fun a ha q => ?_⟩, w.wide fun b q => part_mem p q, fun a ha => ?_⟩
  · rcases List.mem_append.mp he with he | he
    · exact M'.rep e he
    · exact (M.right.rep e he).keep w.le w.sub fun o q => w.keep _ _ (fun z => M.apart z (List.mem_map.mpr ⟨e, he, rfl⟩)) q
  · rcases List.mem_append.mp he with he | he
    · exact M'.off e he
    · exact off' _ (fun z => M.apart z (List.mem_map.mpr ⟨e, he, rfl⟩)) (M.right.off e he) (M.right.rep e he).live
  · rw [List.map_append]
    exact List.nodup_append.mpr ⟨M'.nd, M.right.nd, fun a ha b hb e => (nn a ha).2 (e ▸ hb)⟩
  · rw [List.map_append] at q
    rcases List.mem_append.mp q with q | q
    · exact (nn a q).1 ha
    · exact S.ap a ha (m2 q)
  · rw [List.map_append] at ha
    rcases List.mem_append.mp ha with q | q
    · exact (x a q).imp (part_mem p) id
    · exact .inl (m2 q)

/-- one more object of its own -/
theorem St.own {P : PM} {h h' : Heap} {a : Addr} {o : MObj} (S : St C env P h ρ μ) (kp : ∀ b o, h.get? b = some o → h'.get? b = some o) (hn : h.get? a = none) (e : MRep C P h' a o) : St C env P h' ρ ((a, o) :: μ) := by
  have S' := S.step (PStep.grow S.gd.s kp)
  have hna : a ∉ μ.map (·.1) := fun q => by obtain ⟨o, e⟩ := S.me.liveA q; rw [e] at hn; cases hn
  refine ⟨S'.gd, S'.fr, ⟨fun x hx => ?_, fun x hx => ?_, List.nodup_cons.mpr ⟨hna, S.me.nd⟩⟩, fun b hb q => ?_⟩
  · rcases List.mem_cons.mp hx with rfl | hx
    · exact e
    · exact S'.me.rep x hx
  · rcases List.mem_cons.mp hx with rfl | hx
    · cases q : P a with
      | none => rfl
      | some o' => have := S.gd.s _ _ q; rw [hn] at this; cases this
    · exact S'.me.off x hx
  · rcases List.mem_cons.mp q with rfl | q
    · obtain ⟨o, e⟩ := S.fr.live b hb; rw [hn] at e; cases e
    · exact S'.ap b hb q
theorem Sub.own {h : Heap} {a : Addr} {o : MObj} (hn : h.get? a = none) : Sub μ h ((a, o) :: μ) := fun b hb => by
  rcases List.mem_cons.mp hb with rfl | hb
  · exact .inr hn
  · exact .inl hb
/-- the first object of its own changes -/
theorem St.chg {P : PM} {h h' : Heap} {a : Addr} {o o' : MObj} {μ2 : Mem} (S : St C env P h ρ μ) (p : μ.Perm ((a, o) :: μ2)) (hs : Heap.SameBut a h h') (e : MRep C P h' a o') : St C env P h' ρ ((a, o') :: μ2) ∧ WStep (NM μ) P h P h' ∧ Sub μ h ((a, o') :: μ2) := by
  have M := S.me.perm p
  have ha : a ∈ μ.map (·.1) := (p.map _).mem_iff.mpr (.head _)
  have hoff : P a = none := M.off _ (.head _)
  have sub := sub_but S.gd.s hs hoff
  have hnd := List.nodup_cons.mp M.nd
  refine ⟨⟨⟨S.gd.g, sub⟩, S.fr.keep (fun _ _ q => q) (fun b hb o q => hs.extBut _ _ (fun z => S.ap b hb (z ▸ ha)) q) S.fr.off, ⟨fun x hx => ?_, fun x hx => ?_, M.nd⟩, fun b hb q => ?_⟩, wstep_but S.gd.s hs hoff ha, fun b hb => .inl ((p.map _).mem_iff.mpr hb)⟩
  · rcases List.mem_cons.mp hx with rfl | hx
    · exact e
    · exact (M.rep x (.tail _ hx)).keep (fun _ _ q => q) sub fun o q => hs.extBut _ _ (fun z => hnd.1 (z ▸ List.mem_map.mpr ⟨x, hx, rfl⟩)) q
  · rcases List.mem_cons.mp hx with rfl | hx
    · exact hoff
    · exact M.off x (.tail _ hx)
  · exact S.ap b hb ((p.map _).mem_iff.mpr (by rcases List.mem_cons.mp q with rfl | q; exact .head _; exact .tail _ q))

/-! freezing -/
theorem add_le {P : PM} {a : Addr} {o : Obj} (hn : P a = none) : ∀ b o', P b = some o' → P.add a o b = some o' := fun b o' q => by
  have : b ≠ a := fun x => by rw [x, hn] at q; cases q
  simp [PM.add, this, q]
theorem St.freeze {P : PM} {h : Heap} {a : Addr} {ts : List T} {μ2 : Mem} (S : St C env P h ρ μ) (p : μ.Perm ((a, .lst ts) :: μ2)) : ∃ P', St C env P' h ρ μ2 ∧ WStep (NM μ) P h P' h ∧ Sub μ h μ2 ∧ Rep P' (.ref a) (.lst ts) := by
  have M := S.me.perm p
  have ha : a ∈ μ.map (·.1) := (p.map _).mem_iff.mpr (.head _)
  obtain ⟨vs, n, e, rs⟩ := M.rep _ (.head _)
  have hoff : P a = none := M.off _ (.head _)
  have le := add_le (o := sq "list" vs n) hoff
  have hnd := List.nodup_cons.mp M.nd
  have sub : ∀ b o, P.add a (sq "list" vs n) b = some o → h.get? b = some o := fun b o q => by
    unfold PM.add at q
    split at q
    · rename_i z; cases q; rw [z]; exact e
    · exact S.gd.s _ _ q
  have m2 : ∀ {b}, b ∈ μ2.map (·.1) → b ∈ μ.map (·.1) := fun q => (p.map _).mem_iff.mpr (.tail _ q)
  have ne : ∀ b, b ≠ a → P b = none → P.add a (sq "list" vs n) b = none := fun b hb q => by simp [PM.add, hb, q]
  have nw : ∀ b o, P.add a (sq "list" vs n) b = some o → P b = some o ∨ b = a := fun b o q => by
    unfold PM.add at q
    split at q
    · rename_i z; exact .inr z
    · exact .inl q
  refine ⟨P.add a (sq "list" vs n), ⟨⟨fun b o q => le _ _ (S.gd.g b o q), sub⟩, S.fr.keep le (fun _ _ _ q => q) fun b hb => ne b (fun z => S.ap b hb (z ▸ ha)) (S.fr.off b hb),
      ⟨fun x hx => (M.rep x (.tail _ hx)).keep le sub fun _ q => q, fun x hx => ne _ (fun z => hnd.1 (z ▸ List.mem_map.mpr ⟨x, hx, rfl⟩)) (M.off x (.tail _ hx)), hnd.2⟩, fun b hb q => S.ap b hb (m2 q)⟩,
    ⟨fun _ _ _ q => q, le, fun b o q => (nw b o q).imp id fun z => .inl (by rw [z]; exact ha), sub⟩, fun b hb => .inl (m2 hb), .lst (PM.add_self _ _ _) (rs.mono le)⟩

/-- a frame's name shown as another tree -/
theorem FrSt.retell {P : PM} {h : Heap} {i : Nat} {t t' : T} (F : FrSt env P h ρ) (hi : ρ[i]? = some (some t)) (ht : ∀ v, Rep P v t → Rep P v t') : FrSt env P h (ρ.set i (some t')) where
  m := by
    obtain ⟨m, hn, hm⟩ := F.m
    refine ⟨m, hn, fun j x u hj hu => ?_⟩
    rcases set_get hu with ⟨rfl, e⟩ | ⟨hne, hu⟩
    · cases e
      obtain ⟨v, ev, r⟩ := hm j x t hj hi
      exact ⟨v, ev, ht v r⟩
    · exact hm j x u hj hu
  c := fun j x kd u hj hk hu => by
    rcases set_get hu with ⟨rfl, e⟩ | ⟨hne, hu⟩
    · cases e
      obtain ⟨c, v, hc, hv, r⟩ := F.c j x kd t hj hk hi
      exact ⟨c, v, hc, hv, ht v r⟩
    · exact F.c j x kd u hj hk hu
  ce := F.ce
  cx := F.cx
  nd := F.nd
  cnd := F.cnd
  lc := F.lc
  kind := F.kind
  gl := F.gl
  bi := F.bi
  off := F.off

/-- a ghost step ahead of statements -/
theorem Ex.ghost {sts : List Stmt} {ρ' : List (Option T)} {μ' : Mem} (hg : ∀ P h, St C env P h ρ μ → ∃ P', St C env P' h ρ' μ' ∧ WStep (NM μ) P h P' h ∧ Sub μ h μ') (h : Ex C k env sts ρ' μ' Ψ) : Ex C k env sts ρ μ Ψ := fun A P s Q hA hS hQ => by
  obtain ⟨P1, S1, w1, x1⟩ := hg P s.heap hS
  exact h A P1 s Q hA S1 fun f P' h' tk o ho w ok => hQ f P' h' tk o ho (w1.nn.trans w x1.nn) (ok.after S1 x1 w1.nn)
/-- an own list that changes no more -/
theorem Ex.freeze {sts : List Stmt} (i : Nat) {a : Addr} {ts : List T} (μ2 : Mem) (p : μ.Perm ((a, .lst ts) :: μ2)) (hi : ρ[i]? = some (some (.adr a))) (h : Ex C k env sts (ρ.set i (some (.lst ts))) μ2 Ψ) : Ex C k env sts ρ μ Ψ :=
  Ex.ghost (fun P hp S => by
    obtain ⟨P', S', w, x, r⟩ := S.freeze p
    refine ⟨P', ⟨S'.gd, S'.fr.retell hi fun v rv => ?_, S'.me, S'.ap⟩, w, x⟩
    cases rv; exact r) h
/-- an own list within an own list that changes no more -/
theorem Ex.freezeIn {sts : List Stmt} {a b : Addr} {ts us xs : List T} (μ2 : Mem) (p : μ.Perm ((b, .lst us) :: (a, .lst (ts ++ .adr b :: xs)) :: μ2)) (h : Ex C k env sts ρ ((a, .lst (ts ++ .lst us :: xs)) :: μ2) Ψ) : Ex C k env sts ρ μ Ψ :=
  Ex.ghost (fun P hp S => by
    obtain ⟨P', S', w, x, r⟩ := S.freeze p
    refine ⟨P', ⟨S'.gd, S'.fr, ⟨fun y hy => ?_, fun y hy => ?_, S'.me.nd⟩, S'.ap⟩, w, x⟩
    · rcases List.mem_cons.mp hy with rfl | hy
      · obtain ⟨vs, n, e, rs⟩ := S'.me.rep _ (.head _)
        refine ⟨vs, n, e, ?_⟩
        have h1 := rs.take ts.length
        have h2 := rs.drop ts.length
        rw [List.take_left'] at h1
        rw [List.drop_left'] at h2
        rw [← List.take_append_drop ts.length vs]
        refine h1.append ?_
        revert h2
        generalize vs.drop ts.length = ws
        intro h2
        cases h2 with
        | cons q qs => cases q; exact .cons r qs
        · rfl
        · rfl
      · exact S'.me.rep y (.tail _ hy)
    · rcases List.mem_cons.mp hy with rfl | hy
      · exact S'.me.off (a, .lst (ts ++ .adr b :: xs)) (.head _)
      · exact S'.me.off y (.tail _ hy)) h

/-! evaluations with effects -/
theorem EvT.mono {α : Type} {m : Sem α} {Φ Φ' : PM → α → Mem → Prop} (h : EvT C k env m ρ μ Φ) (hi : ∀ P v μ', Φ P v μ' → Φ' P v μ') : EvT C k env m ρ μ Φ' := fun A P s Q hA hS hQ =>
  h A P s Q hA hS fun v P' h' tk μ' ho => hQ v P' h' tk μ' (hi _ _ _ ho)
theorem Ev.mono {e : Expr} {Φ' : T → Mem → Prop} (h : Ev C k env e ρ μ Φ) (hi : ∀ t μ', Φ t μ' → Φ' t μ') : Ev C k env e ρ μ Φ' := EvT.mono h fun _ _ _ ⟨t, r, q⟩ => ⟨t, r, hi _ _ q⟩
noncomputable abbrev Evs (C : Cfg) (k : Nat) (env : Env) (es : List Expr) (p : Pos) (ρ : List (Option T)) (μ : Mem) (Φ : List T → Mem → Prop) : Prop := EvT C k env (spliced (backTo p (starEach es env))) ρ μ fun P vs μ' => ∃ ts, Reps P vs ts ∧ Φ ts μ'
theorem Evs.nil {p : Pos} {Φ : List T → Mem → Prop} (h : Φ [] μ) : Evs C k env [] p ρ μ Φ := fun A P s Q hA hS hQ => wpAny_items_nil (hQ _ P _ _ μ ⟨[], .nil, h⟩ (.refl hS.gd.s) hS .refl)
theorem Evs.cons {p : Pos} {e : Expr} {r : List Expr} {Φ : List T → Mem → Prop} (h : Ev C k env e ρ μ fun t μ1 => Evs C k env r p ρ μ1 fun ts μ2 => Φ (t :: ts) μ2) (hs : starEach (e :: r) env = (false, eval e env) :: starEach r env) : Evs C k env (e :: r) p ρ μ Φ := fun A P s Q hA hS hQ => by
  rw [hs]
  show wpAny _ A (spliced ((false, eval e env) :: backTo p (starEach r env))) _ _ s
  exact spliced_cons (h A P s _ hA hS fun v P1 h1 tk1 μ1 ⟨t, r1, hr⟩ w1 S1 x1 => hr A P1 _ _ hA S1 fun vs P2 h2 tk2 μ2 ⟨ts, r2, hp⟩ w2 S2 x2 =>
    hQ _ P2 h2 tk2 μ2 ⟨t :: ts, .cons (r1.mono w2.le) r2, hp⟩ (w1.trans w2 x1) S2 (x1.trans' w1 (fun _ => .inl) x2))
theorem Ev.tuple {es : List Expr} {j : Nat} {p : Pos} (h : Evs C k env es p ρ μ fun ts μ' => ts.length ≤ 1000 ∧ Φ (.tup ts) μ') : Ev C k env (.Tuple es j p) ρ μ Φ := fun A P s Q hA hS hQ =>
  Tuple_ (h A P s _ hA hS fun vs P1 h1 tk1 μ1 ⟨ts, r1, hz, hp⟩ w1 S1 x1 => new_frozen (s := { s with heap := h1, toks := tk1 }) S1.gd.s (fun st2 => hQ _ _ _ _ μ1 ⟨_, .tup (PM.add_self _ _ _) (r1.mono st2.le), hp⟩ (w1.trans st2.toW (fun _ => .inl)) (S1.step st2) x1) (by rw [r1.length]; exact Nat.le_trans hz (by decide)))
theorem Ev.bin {l r : Expr} {op : Operator} {p : Pos} (h1 : Ev C k env l ρ μ fun a μ1 => Ev C k env r ρ μ1 fun b μ2 => ∃ t, Op2 C k μ2 (binaryOp op) a b (fun P v => Rep P v t) ∧ Φ t μ2) : Ev C k env (.BinOp l op r p) ρ μ Φ := fun A P s Q hA hS hQ =>
  wpAny_BinOp (h1 A P s _ hA hS fun v P1 h1 tk1 μ1 ⟨a, r1, hr⟩ w1 S1 x1 => hr A P1 _ _ hA S1 fun w P2 h2 tk2 μ2 ⟨b, r2, t, ho, hp⟩ w2 S2 x2 =>
    ho A P2 _ _ _ _ hA S2.gd S2.me (r1.mono w2.le) r2 fun u P3 h3 tk3 st3 r3 => hQ u P3 h3 tk3 μ2 ⟨t, r3, hp⟩ ((w1.trans w2 x1).trans st3.toW fun _ => .inl) (S2.step st3) (x1.trans' w1 (fun _ => .inl) x2))
/-- an own object made by pure steps -/
theorem ev_own {P P1 : PM} {s : Shared} {Q : Value → Shared → Prop} {h1 h2 : Heap} {tk : Nat} {a : Addr} {o : MObj} (hS : St C env P s.heap ρ μ)
    (hQ : ∀ v P' h' tk μ', (∃ t, Rep P' v t ∧ Φ t μ') → WStep (NM μ) P s.heap P' h' → St C env P' h' ρ μ' → Sub μ s.heap μ' → Q v { s with heap := h', toks := tk })
    (st1 : PStep P s.heap P1 h1) (kp : ∀ b o, h1.get? b = some o → h2.get? b = some o) (hn : h1.get? a = none) (e : MRep C P1 h2 a o) (hΦ : Φ (.adr a) ((a, o) :: μ)) : Q (.ref a) { s with heap := h2, toks := tk } :=
  have S1 := hS.step st1
  hQ _ P1 h2 tk _ ⟨_, .adr, hΦ⟩ (st1.trans (.grow S1.gd.s kp)).toW (S1.own kp hn e) (.own (none_back st1.keep hn))
theorem Ev.newL {es : List Expr} {p : Pos} {ts : List T} (h : EvPs C k env es p ρ μ ts) (hz : ts.length ≤ 1000) (hΦ : ∀ a, Φ (.adr a) ((a, .lst ts) :: μ)) : Ev C k env (.List es p) ρ μ Φ := fun A P s Q hA hS hQ =>
  List_ (h A P s _ hA hS fun vs P1 h1 tk1 st1 r1 => wpAny_newObj_type (ev_own (s := s) (o := .lst ts) hS hQ st1 (fun b o e => Heap.get?_push_of_some _ e) (Heap.get?_none_of_le (Nat.le_refl _)) ⟨vs, 0, Heap.get?_push_size _ rfl, r1⟩ (hΦ _)) (by show vs.toArray.size ≤ sizeLine; rw [List.size_toArray, r1.length]; exact Nat.le_trans hz (by decide)))
theorem addL_core {A : Around} {P : PM} {s : Shared} {a b : T} {xs ys : List T} {v w : Value} {Q : Value → Shared → Prop} (ha : LstAt C μ a xs) (hb : LstAt C μ b ys) (hz : xs.length + ys.length < 1000000) (hG : Gd C P s.heap) (hM : MemSt C P s.heap μ) (r1 : Rep P v a) (r2 : Rep P w b)
    (hQ : ∀ vs, Reps P vs (xs ++ ys) → Q (.ref s.heap.objs.size) { s with heap := s.heap.push { cls := .type "list", data := .seq vs.toArray } }) : wpAny (model C.prog C.w) A (binaryOp .Add v w) Q (fun _ _ => False) s := by
  obtain ⟨l, vs, rfl, hl, rs⟩ := ha.get hG hM r1
  obtain ⟨b', ws, rfl, hb, rt⟩ := hb.get hG hM r2
  obtain ⟨⟨cls, dd, data, sl⟩, ho, hc, n, hd⟩ := id hl
  obtain ⟨⟨cls2, dd2, data2, sl2⟩, ho2, hc2, n2, hd2⟩ := id hb
  simp only at hc hd hc2 hd2
  subst hc hd hc2 hd2
  have e : vs.toArray ++ ws.toArray = (vs ++ ws).toArray := by simp
  refine concat_meets ⟨_, ho, rfl⟩ ⟨_, ho2, rfl⟩ noFill_list_add seq_list_add PySem.F.slot_list_add PySem.F.entry_list_add (PySem.F.args_list_add_2 _ _) (list_addW l b' vs.toArray ws.toArray n n2 dd dd2 sl sl2 (by simp [rs.length, rt.length]; exact Nat.le_trans (Nat.le_of_lt hz) (by decide))) ⟨ho, ho2, ?_⟩
  rw [e]
  exact hQ _ (rs.append rt)
theorem Ev.addOwn {l r : Expr} {p : Pos} {a b : T} {xs ys : List T} (h1 : EvP C k env l ρ μ a) (h2 : EvP C k env r ρ μ b) (ha : LstAt C μ a xs) (hb : LstAt C μ b ys) (hz : xs.length + ys.length < 1000000) (hΦ : ∀ a, Φ (.adr a) ((a, .lst (xs ++ ys)) :: μ)) : Ev C k env (.BinOp l .Add r p) ρ μ Φ := fun A P s Q hA hS hQ =>
  wpAny_BinOp (h1 A P s _ hA hS fun v P1 h1 tk1 st1 r1 => h2 A P1 _ _ hA (hS.step st1) fun w P2 h2 tk2 st2 r2 =>
    addL_core ha hb hz ((hS.step st1).step st2).gd ((hS.step st1).step st2).me (r1.mono st2.le) r2 fun vs rs =>
      ev_own (s := s) (o := .lst (xs ++ ys)) hS hQ (st1.trans st2) (fun b o e => Heap.get?_push_of_some _ e) (Heap.get?_none_of_le (Nat.le_refl _)) ⟨vs, 0, Heap.get?_push_size _ rfl, rs⟩ (hΦ _))
theorem Ev.listOwn {fx : Str} {fp p : Pos} {es : List Expr} {t : T} {ts : List T} (hf : Tr C k env (eval (.Name fx fp) env) ρ μ fun _ u => u = .type "list") (hs : ∀ e ∈ es, isStarred e = false) (h : EvPs C k env es p ρ μ [t]) (ht : t = .tup ts ∨ t = .lst ts) (hz : ts.length < 1000000) (hΦ : ∀ a, Φ (.adr a) ((a, .lst ts) :: μ)) :
    Ev C k env (.Call (.Name fx fp) es [] p) ρ μ Φ := fun A P s Q hA hS hQ =>
  tree_call hA hS hf .type hs h fun vs P1 h1 tk1 st1 r1 => by
    cases r1 with
    | cons r rs =>
      cases rs
      exact list_core (s := { s with heap := h1, toks := tk1 }) ht hz st1.sub r fun h' n ws hk e rs => ev_own (s := s) (o := .lst ts) hS hQ st1 hk (Heap.get?_none_of_le (Nat.le_refl _)) ⟨ws, n, e, rs⟩ (hΦ _)

/-- a call that is lent μ1 -/
theorem Ev.call {fx : Str} {fp p : Pos} {es : List Expr} {f : Value} {ts : List T} {Φ1 : T → Mem → Prop} (μ1 μ2 : Mem) (pm : μ.Perm (μ1 ++ μ2)) (hf : Tr C k env (eval (.Name fx fp) env) ρ μ fun _ u => u = f) (hc : Callee C f) (hs : ∀ e ∈ es, isStarred e = false) (h : EvPs C k env es p ρ μ ts)
    (h3 : CallM C k μ1 f ts Φ1) (hΦ : ∀ t μ1', Φ1 t μ1' → Φ t (μ1' ++ μ2)) : Ev C k env (.Call (.Name fx fp) es [] p) ρ μ Φ := fun A P s Q hA hS hQ =>
  tree_call hA hS hf hc hs h fun vs P1 h1 tk1 st1 r1 =>
    have S1 := hS.step st1
    h3.wp A P1 _ _ _ hA S1.gd (S1.me.perm pm).left r1 fun v P2 h2 tk2 t μ1' hp w M' x r => by
      obtain ⟨S2, w2, x2⟩ := S1.frame pm w M' x
      exact hQ v P2 h2 tk2 _ ⟨t, r, hΦ _ _ hp⟩ (st1.toW.trans w2 fun _ => .inl) S2 fun a ha => (x2 a ha).imp id (none_back st1.keep)

/-! statements with effects -/
theorem Ex1.expr {e : Expr} {p : Pos} (h : Ev C k env e ρ μ fun t μ' => t = .none ∧ Ψ (.next ρ μ')) (hi : interactive env = false := by rfl) (hs : swapsWith e none p.line env = pure false := by rfl) : Ex1 C k env (.Expr e p) ρ μ Ψ := fun A P s Q hA hS hQ =>
  wpAny_Expr (h A P s _ hA hS fun v P1 h1 tk1 μ1 ⟨t, r, e, hp⟩ w1 S1 x1 => by
    subst e; cases r
    exact hQ _ P1 h1 tk1 _ hp w1.nn ⟨rfl, S1, x1⟩) hi hs

theorem evalArgs_ev {f : Value} {p : Pos} {es : List Expr} {A : Around} {s : Shared} {Q : Args → Shared → Prop} (hs : ∀ e ∈ es, isStarred e = false)
    (h : wpAny (model C.prog C.w) A (spliced (backTo p (starEach es env))) (fun vs s₁ => Q ⟨vs, []⟩ s₁) (fun _ _ => False) s) : wpAny (model C.prog C.w) A (evalArgs f true (backTo p (starEach es env)) []) Q (fun _ _ => False) s := by
  have hp := plain_star (env := env) (p := p) hs
  generalize backTo p (starEach es env) = l at h hp
  cases l with
  | nil => exact fun Γ p' hΓ => evalArgs_nil3 (by have q := h Γ p' hΓ; unfold spliced at q; exact q) Γ p' hΓ
  | cons x r =>
    obtain ⟨st, tr⟩ := x
    have : st = false := by simp at hp; exact hp.1
    subst this
    exact evalArgs_plain (wpAny_mono h (fun vs s₁ hh => by simpa using hh) fun _ _ x => x)

/-- a method of an own list, of one argument -/
theorem Ev.method {x name : Str} {px ap cp : Pos} {e : Expr} {a : Addr} {mid : String} {ts0 : List T} (hx : EvP C k env (.Name x px) ρ μ (.adr a)) (hm : (a, MObj.lst ts0) ∈ μ) (slot : Slot "list" name mid) (hty : typeOf (.builtin mid) = pure (.type "method_descriptor"))
    (h : Ev C k env e ρ μ fun t μ1 => ∀ (A : Around) (P : PM) (s : Shared) (v : Value) (Q : Value → Shared → Prop), Room k A → St C env P s.heap ρ μ1 → Rep P v t →
      (∀ u P' h' tk μ', (∃ t, Rep P' u t ∧ Φ t μ') → WStep (NM μ1) P s.heap P' h' → St C env P' h' ρ μ' → Sub μ1 s.heap μ' → Q u { s with heap := h', toks := tk }) → wpAny (model C.prog C.w) A (PySem.call (.builtin mid) [.ref a, v]) Q (fun _ _ => False) s)
    (hline : (ap.endLine == cp.line) = true := by rfl) (hse : starEach [e] env = [(false, eval e env)] := by rfl) (hst : isStarred e = false := by rfl) : Ev C k env (.Call (.Attribute (.Name x px) name ap) [e] [] cp) ρ μ Φ := fun A P s Q hA hS hQ =>
  wpAny_Call_method (by rfl) (by rw [hse]; rfl) hline F.plainAttrs_list slot hty (hx A P s _ hA hS fun ov P1 h1 tk1 st1 r1 => by
    cases r1
    have S1 := hS.step st1
    obtain ⟨vs, n, hl, rs⟩ := S1.me.rep _ hm
    refine ⟨⟨_, hl, rfl⟩, fun a' ea => by cases ea; exact ⟨_, hl, rfl⟩, ?_⟩
    refine callWith_builtin (plain_star fun e' he => by rw [List.mem_singleton.mp he]; exact hst) (evalArgs_ev (fun e' he => by rw [List.mem_singleton.mp he]; exact hst) ?_)
    rw [hse]
    refine spliced_cons (h A P1 _ _ hA S1 fun v P2 h2 tk2 μ2 ⟨t, r2, hr⟩ w2 S2 x2 => spliced_nil ?_)
    exact hr A P2 _ v _ hA S2 r2 fun u P3 h3 tk3 μ3 hp w3 S3 x3 => hQ u P3 h3 tk3 μ3 hp ((st1.toW.trans w2 fun _ => .inl).trans w3 fun b q => (x2 b q).imp id (none_back st1.keep)) S3 fun b hb => ((x2.trans' w2 (fun _ => .inl) x3) b hb).imp id (none_back st1.keep))

theorem Ex1.append {x : Str} {px ap cp p : Pos} {e : Expr} {a : Addr} {ts0 : List T} (hx : EvP C k env (.Name x px) ρ μ (.adr a)) (hm : (a, MObj.lst ts0) ∈ μ)
    (h : Ev C k env e ρ μ fun t μ1 => ∃ ts μ2, μ1.Perm ((a, .lst ts) :: μ2) ∧ ts.length < 1000000 ∧ Ψ (.next ρ ((a, .lst (ts ++ [t])) :: μ2)))
    (hline : (ap.endLine == cp.line) = true := by rfl) (hse : starEach [e] env = [(false, eval e env)] := by rfl) (hst : isStarred e = false := by rfl) (hi : interactive env = false := by rfl) : Ex1 C k env (.Expr (.Call (.Attribute (.Name x px) "append" ap) [e] [] cp) p) ρ μ Ψ :=
  Ex1.expr (Ev.method hx hm slot_list_append (by rfl) (Ev.mono h fun t μ1 ⟨ts, μ2, pm, hz, hp⟩ A P s v Q hA S r hQ => by
    obtain ⟨vs, n, hl, rs⟩ := (S.me.perm pm).rep _ (.head _)
    refine append_at hl (fun h' hs e => ?_) (by simp [rs.length]; exact Nat.le_trans (Nat.le_of_lt hz) (by decide))
    obtain ⟨S', w', x'⟩ := S.chg pm hs (o' := .lst (ts ++ [t])) ⟨vs ++ [v], n + 1, by simpa using e, rs.snoc r⟩
    exact hQ _ P h' s.toks _ ⟨.none, .none, rfl, hp⟩ w' S' x') hline hse hst) hi

theorem Ex1.extend {x : Str} {px ap cp p : Pos} {e : Expr} {a : Addr} {ts0 : List T} (hx : EvP C k env (.Name x px) ρ μ (.adr a)) (hm : (a, MObj.lst ts0) ∈ μ)
    (h : Ev C k env e ρ μ fun t μ1 => ∃ us ts μ2, t = .lst us ∧ μ1.Perm ((a, .lst ts) :: μ2) ∧ ts.length + us.length < 1000000 ∧ Ψ (.next ρ ((a, .lst (ts ++ us)) :: μ2)))
    (hline : (ap.endLine == cp.line) = true := by rfl) (hse : starEach [e] env = [(false, eval e env)] := by rfl) (hst : isStarred e = false := by rfl) (hi : interactive env = false := by rfl) : Ex1 C k env (.Expr (.Call (.Attribute (.Name x px) "extend" ap) [e] [] cp) p) ρ μ Ψ :=
  Ex1.expr (Ev.method hx hm PySem.F.slot_list_extend (by rfl) (Ev.mono h fun t μ1 ⟨us, ts, μ2, et, pm, hz, hp⟩ A P s v Q hA S r hQ => by
    subst et
    obtain ⟨vs, n, hl, rs⟩ := (S.me.perm pm).rep _ (.head _)
    cases r with
    | lst h1 ru =>
      rename_i b m ws
      have hb := S.gd.s _ _ h1
      have hsz : vs.toArray.size + ws.toArray.size ≤ sizeLine := by simp [rs.length, ru.length]; exact Nat.le_trans (Nat.le_of_lt hz) (by decide)
      refine call_meets PySem.F.slot_list_extend ⟨_, hl, rfl⟩ PySem.F.entry_list_extend (PySem.F.args_list_extend_2 _ _) (AutoSeq1.list_extend_list_list_0 a vs.toArray n b ws.toArray m (extend_door hsz) (Nat.le_trans (Nat.le_add_right _ _) hsz)) ⟨hl, hb, ?_⟩
      have e : vs.toArray ++ ws.toArray = (vs ++ ws).toArray := by simp
      have ho' : (s.heap.update a (Obj.mapSeq fun x => x ++ ws.toArray)).get? a = some (sq "list" (vs ++ ws) (if (vs.toArray ++ ws.toArray).size == vs.toArray.size then n else n + 1)) := by
        rw [Heap.get?_update_self _ hl (by rw [mapSeq_app]; rfl), mapSeq_app, e]
      obtain ⟨S', w', x'⟩ := S.chg pm (Heap.SameBut.update ..) (o' := .lst (ts ++ us)) ⟨vs ++ ws, _, ho', rs.append ru⟩
      exact hQ _ P _ s.toks _ ⟨.none, .none, rfl, hp⟩ w' S' x') hline hse hst) hi

/-- an item of an own list set -/
theorem Ex1.setL {o i e : Expr} {p p' : Pos} {a : Addr} (h : Ev C k env e ρ μ fun t μ1 => EvP C k env o ρ μ1 (.adr a) ∧ Ev C k env i ρ μ1 fun u μ2 => ∃ n ts μ3 j, u = .int n ∧ μ2.Perm ((a, .lst ts) :: μ3) ∧ j < ts.length ∧ ts.length < 1000000 ∧ (n = j ∨ n = (j : Int) - ts.length) ∧ Ψ (.next ρ ((a, .lst (ts.set j t)) :: μ3)))
    (hs : swapsWith e (some (.Subscript o i p')) p.line env = pure false := by rfl) : Ex1 C k env (.Assign [.Subscript o i p'] e p) ρ μ Ψ := fun A P s Q hA hS hQ =>
  wpAny_Assign_Subscript (h A P s _ hA hS fun v P1 h1 tk1 μ1 ⟨t, r1, ho, hi⟩ w1 S1 x1 => ho A P1 _ _ hA S1 fun ov P2 h2 tk2 st2 r2 => hi A P2 _ _ hA (S1.step st2) fun iv P3 h3 tk3 μ2 ⟨u, r3, n, ts, μ3, j, eu, pm, hj, hz, hn, hp⟩ w3 S3 x3 => by
    subst eu
    cases r2; cases r3
    rename_i tkn
    obtain ⟨vs, c, hl, rs⟩ := (S3.me.perm pm).rep _ (.head _)
    have hlen := rs.length
    have hsz : vs.toArray.size = ts.length := by simp [hlen]
    have fin : ∀ n', n' = j → (Q .next { s with heap := h3.update a (Obj.mapSeq (·.setIfInBounds n' v)), toks := tk3 }) := fun n' en => by
      subst en
      have ho' := Heap.get?_update_self (Obj.mapSeq (·.setIfInBounds n' v)) hl rfl
      have e1 : Obj.mapSeq (·.setIfInBounds n' v) (sq "list" vs c) = sq "list" (vs.set n' v) c := by simp [Obj.mapSeq]
      rw [e1] at ho'
      obtain ⟨S4, w4, x4⟩ := S3.chg pm (Heap.SameBut.update ..) (o' := .lst (ts.set n' t)) ⟨vs.set n' v, c, ho', rs.set n' ((r1.mono st2.le).mono w3.le)⟩
      have w13 : WStep (NM μ) P s.heap P3 h3 := (w1.trans (st2.toW (N := NM μ1)) x1).trans w3 x1
      have x13 : Sub μ s.heap μ2 := x1.trans' w1 (fun _ => .inl) fun b hb => (x3 b hb).imp id (none_back st2.keep)
      exact hQ _ P3 _ tk3 _ hp (w13.trans w4 x13).nn ⟨rfl, S4, x13.trans' w13 (fun _ => .inl) x4⟩
    rcases hn with hn | hn
    · exact ki_setAt hl (by omega) (by omega) (by omega) (fin _ (by omega))
    · exact ki_setBack hl (by omega) (by omega) (by omega) (fin _ (by rw [hsz]; omega))) hs
end
end Mine

namespace Mine

section
variable {C : Cfg} {k : Nat} {env : Env} {ρ : List (Option T)} {μ : Mem} {Ψ : Out → Prop} {Φ : T → Mem → Prop}

theorem Ex1.while {test : Expr} {body : List Stmt} {p : Pos} (I : Nat → List (Option T) → Mem → Prop) (n : Nat) (h0 : I n ρ μ)
    (step : ∀ n ρ' μ', I n ρ' μ' → ∃ c, EvB C k env test ρ' μ' c ∧ (c = true → Ex C k env body ρ' μ' fun o => match o with | .next ρ'' μ'' => ∃ m, m < n ∧ I m ρ'' μ'' | .ret t μ'' => Ψ (.ret t μ'')) ∧ (c = false → Ψ (.next ρ' μ'))) :
    Ex1 C k env (.While test body [] p) ρ μ Ψ := fun A P s Q hA hS hQ => by
  refine wpAny_While ?_
  refine codeAny_whileLoop (fun m s' => ∃ Pc hc tkc ρc μc, s' = { s with heap := hc, toks := tkc } ∧ I m ρc μc ∧ St C env Pc hc ρc μc ∧ WStep (NN env μ) P s.heap Pc hc ∧ Sub μ s.heap μc) ?_ n
    ⟨P, s.heap, s.toks, ρ, μ, rfl, h0, hS, .refl hS.gd.s, .refl⟩
  rintro m s' ⟨Pc, hc, tkc, ρc, μc, rfl, hI, Sc, wc, xc⟩
  obtain ⟨c, ht, h1, h2⟩ := step m ρc μc hI
  refine PySem.wpAny_noRaise (ht A Pc { s with heap := hc, toks := tkc } _ hA Sc fun c' P1 hh tk1 st1 e => ?_)
  subst e
  have S1 := Sc.step st1
  have w1 : WStep (NN env μ) P s.heap P1 hh := wc.trans st1.toW fun _ => .inl
  have x1 : Sub μ s.heap μc := xc
  cases c' with
  | true =>
    refine PySem.wpAny_noRaise (h1 rfl A P1 { s with heap := hh, toks := tk1 } _ hA S1 fun f P2 h2 tk2 o ho w2 ok => ?_)
    have w12 := w1.trans w2 fun b q => x1.nn b q
    cases o with
    | next ρ4 μ4 =>
      obtain ⟨rfl, S4, x4⟩ := ok
      obtain ⟨m', hm, hI'⟩ := ho
      exact ⟨m', hm, P2, h2, tk2, ρ4, μ4, rfl, hI', S4, w12, x1.trans w1 x4 S4.ap⟩
    | ret t μ4 =>
      obtain ⟨v4, rfl, r4, M4, x4, ap4⟩ := ok
      exact hQ _ P2 h2 tk2 _ ho w12 ⟨v4, rfl, r4, M4, x1.trans w1 x4 ap4, ap4⟩
  | false =>
    simp only [Bool.false_eq_true, if_false]
    exact wpAny_execs_nil (hQ _ P1 hh tk1 _ (h2 rfl) w1 ⟨rfl, S1, x1⟩)

/-! dicts keyed by tuples of ints -/
theorem dct_at {P : PM} : ∀ {xs : List ((List Int) × Addr × Value)} {kvs : List (List Int × T)} {ks : List Int} {t : T}, DctRep P xs kvs → kvs.lookup ks = some t → ∃ p, atKey xs ks = some p ∧ Rep P p.2 t
  | [], [], _, _, _, h => by simp at h
  | x :: xs, (ks', t') :: kvs, ks, t, ⟨⟨a, b, c⟩, d⟩, h => by
    simp only [List.lookup_cons] at h
    unfold atKey
    rw [List.find?_cons]
    by_cases e : ks' = ks
    · subst e
      simp at h
      subst h
      rw [a]
      exact ⟨x.2, by simp, c⟩
    · rw [show (ks == ks') = false from beq_eq_false_iff_ne.mpr fun q => e q.symm] at h
      have hx : decide (x.1 = ks) = false := by rw [a]; simpa using e
      rw [hx]
      exact dct_at d h
theorem dct_none {P : PM} : ∀ {xs : List ((List Int) × Addr × Value)} {kvs : List (List Int × T)} {ks : List Int}, DctRep P xs kvs → kvs.lookup ks = none → atKey xs ks = none
  | [], [], _, _, _ => rfl
  | x :: xs, (ks', t') :: kvs, ks, ⟨⟨a, b, c⟩, d⟩, h => by
    simp only [List.lookup_cons] at h
    unfold atKey
    rw [List.find?_cons]
    by_cases e : ks' = ks
    · subst e; simp at h
    · rw [show (ks == ks') = false from beq_eq_false_iff_ne.mpr fun q => e q.symm] at h
      have hx : decide (x.1 = ks) = false := by rw [a]; simpa using e
      rw [hx]
      exact dct_none d h
theorem DctRep.snoc {P : PM} : ∀ {xs : List ((List Int) × Addr × Value)} {kvs : List (List Int × T)} {x : (List Int) × Addr × Value} {y : List Int × T}, DctRep P xs kvs → HasEntry P x y → DctRep P (xs ++ [x]) (kvs ++ [y])
  | [], [], _, _, _, h => ⟨h, trivial⟩
  | _ :: _, _ :: _, _, _, ⟨a, b⟩, h => ⟨a, b.snoc h⟩
theorem DctRep.length {P : PM} : ∀ {xs : List ((List Int) × Addr × Value)} {kvs : List (List Int × T)}, DctRep P xs kvs → xs.length = kvs.length
  | [], [], _ => rfl
  | _ :: _, _ :: _, ⟨_, b⟩ => by simp [b.length]
theorem tup_ref {P : PM} {v : Value} {ts : List T} (r : Rep P v (.tup ts)) : ∃ a, v = .ref a := by cases r; exact ⟨_, rfl⟩

theorem sub_dict {v i : Expr} {d : Addr} {kvs : List (List Int × T)} {ks : List Int} {t : T} (hm : (d, MObj.dct kvs) ∈ μ) (ht : kvs.lookup ks = some t) : SubOp C k μ v i (.adr d) (.tup (ks.map .int)) t := fun A P s w u Q hA hG hM r1 r2 hQ => by
  cases r1
  obtain ⟨a, rfl⟩ := tup_ref r2
  obtain ⟨xs, hD, hR⟩ := hM.rep _ hm
  obtain ⟨p, hp, r⟩ := dct_at hR ht
  obtain ⟨ops, hs⟩ := subscripted_ops i (.ref d) (.ref a)
  exact tail_any hD.typeIs slot_dict_getitem.lookup (wpAny_getItem_heap (knd := tupleKind (intKind C.prog C.w)) (tupleKind_room_in1 (by have := hA.u; omega)) (isKey_of hG.s r2) hD hp (hQ _ P _ _ (.refl hG.s) r)) hs

/-- a new key set in an own dict -/
theorem Ex1.setD {o i e : Expr} {p p' : Pos} {d : Addr} (h : Ev C k env e ρ μ fun t μ1 => EvP C k env o ρ μ1 (.adr d) ∧ ∃ ks kvs μ3, EvP C k env i ρ μ1 (.tup (ks.map .int)) ∧ μ1.Perm ((d, .dct kvs) :: μ3) ∧ kvs.lookup ks = none ∧ kvs.length < 1000000 ∧ Ψ (.next ρ ((d, .dct (kvs ++ [(ks, t)])) :: μ3)))
    (hs : swapsWith e (some (.Subscript o i p')) p.line env = pure false := by rfl) : Ex1 C k env (.Assign [.Subscript o i p'] e p) ρ μ Ψ := fun A P s Q hA hS hQ =>
  wpAny_Assign_Subscript (h A P s _ hA hS fun v P1 h1 tk1 μ1 ⟨t, r1, ho, ks, kvs, μ3, hi, pm, hn, hz, hp⟩ w1 S1 x1 => ho A P1 _ _ hA S1 fun ov P2 h2 tk2 st2 r2 => hi A P2 _ _ hA (S1.step st2) fun iv P3 h3 tk3 st3 r3 => by
    have S3 := (S1.step st2).step st3
    cases r2
    obtain ⟨a, rfl⟩ := tup_ref r3
    obtain ⟨xs, hD, hR⟩ := (S3.me.perm pm).rep _ (.head _)
    have rv := (r1.mono st2.le).mono st3.le
    refine wpAny_setItem_heap (knd := tupleKind (intKind C.prog C.w)) (tupleKind_room_in1 (by have := hA.u; omega)) (isKey_of S3.gd.s r3) hD (fun h' hD' hs' => ?_) (by rw [hR.length]; exact Nat.le_trans (Nat.le_of_lt hz) (by decide))
    rw [storedH_new (dct_none hR hn)] at hD'
    obtain ⟨S4, w4, x4⟩ := S3.chg pm hs' (o' := .dct (kvs ++ [(ks, t)])) ⟨_, hD', hR.snoc ⟨rfl, r3, rv⟩⟩
    have w23 : WStep (NM μ1) P1 h1 P3 h3 := (st2.trans st3).toW
    exact hQ _ P3 h' _ _ hp ((w1.trans w23 x1).trans w4 x1).nn ⟨rfl, S4, x1.trans' w1 (fun _ => .inl) fun b hb => (x4 b hb).imp id (none_back (st2.trans st3).keep)⟩) hs

/-- a dict of one entry, owned -/
theorem Ev.dict1 {ek ev : Expr} {p : Pos} {ks : List Int} {t : T} (hk : EvP C k env ek ρ μ (.tup (ks.map .int))) (hv : EvP C k env ev ρ μ t) (hΦ : ∀ d, Φ (.adr d) ((d, .dct [(ks, t)]) :: μ)) : Ev C k env (.Dict [some ek] [ev] p) ρ μ Φ := fun A P s Q hA hS hQ => by
  rw [arm_eval_Dict]
  have hsh : (evalEachOpt [some ek] env).zip ((evalEach [ev] env).map fun v => do let x ← v; standAt p; pure x) = [(eval ek env, do let x ← eval ev env; standAt p; pure x)].map fun p => (some p.1, p.2) := rfl
  rw [hsh, dictDisplay_pairs _ (by simp) (by simp)]
  refine wpAny_bind (wpAny_standAt (wpAny_bind ?_))
  unfold subDict
  refine wpAny_bind (wpAny_alloc (wpAny_bind (wpAny_holding ?_)))
  rw [if_pos (by simp)]
  have g : PStep P s.heap P (s.heap.push { cls := .type "dict", data := .dict #[] }) := .grow hS.gd.s fun b o e => Heap.get?_push_of_some _ e
  have S1 : St C env P _ ρ ((s.heap.objs.size, .dct []) :: μ) := hS.own (h' := s.heap.push { cls := .type "dict", data := .dict #[] }) g.keep (Heap.get?_none_of_le (Nat.le_refl _)) ⟨[], Heap.DictOfH.new _, trivial⟩
  refine wpAny_bind (evalPairs_cons (hk A P { s with heap := s.heap.push { cls := .type "dict", data := .dict #[] } } _ hA (hS.step g) fun kv P1 h1 tk1 st1 r1 => wpAny_bind (hv A P1 _ _ hA ((hS.step g).step st1) fun vv P2 h2 tk2 st2 r2 => wpAny_bind (wpAny_standAt (wpAny_pure ?_)))))
  unfold evalPairs
  refine wpAny_pure (wpAny_holding ?_)
  have S2 := (S1.step st1).step st2
  obtain ⟨a, rfl⟩ := tup_ref r1
  obtain ⟨xs, hD, hR⟩ := S2.me.rep _ (.head _)
  have hxs : xs = [] := by have := hR.length; simpa using this
  subst hxs
  rw [List.forIn_cons]
  refine wpAny_bind (wpAny_bind (wpAny_bind ?_))
  refine wpAny_dictSet_heap (knd := tupleKind (intKind C.prog C.w)) (s := { s with heap := h2, toks := tk2 }) (by have := hA.u; show A.units < cLine; omega) (isKey_of S2.gd.s (r1.mono st2.le)) hD (fun h' hD' hs' => ?_) (by decide)
  refine wpAny_pure ?_
  simp only [List.forIn_nil]
  refine wpAny_pure (wpAny_pure (wpAny_pure (wpAny_pure ?_)))
  rw [storedH_new (by rfl)] at hD'
  obtain ⟨S4, w4, x4⟩ := S2.chg (.refl _) hs' (o' := .dct [(ks, t)]) ⟨_, hD', ⟨rfl, r1.mono st2.le, r2⟩, trivial⟩
  have gg := (g.trans st1).trans st2
  refine hQ _ P2 h' _ _ ⟨_, .adr, hΦ _⟩ ((gg.toW.trans w4 fun b q => ?_)) S4 (.own (Heap.get?_none_of_le (Nat.le_refl _)))
  rcases List.mem_cons.mp q with rfl | q
  · exact .inr (Heap.get?_none_of_le (Nat.le_refl _))
  · exact .inl q
end
end Mine

namespace Mine

section
variable {C : Cfg} {k : Nat} {env : Env} {ρ : List (Option T)} {μ : Mem} {Ψ : Out → Prop} {Φ : T → Mem → Prop}

/-! targets that are the frame's own names -/
noncomputable abbrev LL (env : Env) (b : Addr) : Prop := b = env.locals
theorem store_local {M : Model} {A : Around} {P : PM} {s : Shared} {x : Str} {i : Nat} {v : Value} {t : T} {Q : Unit → Shared → Prop} (hS : St C env P s.heap ρ μ)
    (hi : env.scope.names[i]? = some (x, .local)) (hr : Rep P v t)
    (h : ∀ h' tk, St C env P h' (ρ.set i (some t)) μ → WStep (LL env) P s.heap P h' → Q () { s with heap := h', toks := tk }) : wpAny M A (storeName env x v) Q (fun _ _ => False) s := by
  have hl : env.kindOf x = some .local := lookup_of_get hS.fr.nd hi
  obtain ⟨m, hn, hm⟩ := hS.fr.m
  have hLoff := hS.fr.off env.locals (List.mem_cons_self ..)
  refine wpAny_storeName_local hl hn (fun h' hn' hs' => ?_) (by rw [hS.fr.kind]; rfl)
  have sub := sub_but hS.gd.s hs' hLoff
  refine h h' _ ⟨⟨hS.gd.g, sub⟩, { hS.fr with
    m := ⟨_, hn', fun j y u hj hu => ?_⟩
    c := fun j y kd' u hj hk' hu => ?_
    ce := fun y c hc => ?_ }, hS.me.but hs' sub (hS.ap _ (List.mem_cons_self ..)), hS.ap⟩ (wstep_but hS.gd.s hs' hLoff rfl)
  · rcases set_get hu with ⟨rfl, e⟩ | ⟨hne, hu⟩
    · cases e
      rw [hi] at hj; cases hj
      exact ⟨v, by simp, hr⟩
    · obtain ⟨v', e, r⟩ := hm j y u hj hu
      exact ⟨v', by simp [names_ne hS.fr.nd hi hj hne, e], r⟩
  · rcases set_get hu with ⟨rfl, e⟩ | ⟨hne, hu⟩
    · rw [hi] at hj; cases hj; rcases hk' with h | h <;> cases h
    · obtain ⟨c, v', hc, hv, r⟩ := hS.fr.c j y kd' u hj hk' hu
      exact ⟨c, v', hc, hv.sameBut hs' (fun e => hS.fr.lc (e ▸ List.mem_map.mpr ⟨_, mem_of_lookup hc, rfl⟩)), r⟩
  · obtain ⟨v', hv⟩ := hS.fr.ce y c hc
    exact ⟨v', hv.sameBut hs' (fun e => hS.fr.lc (e ▸ List.mem_map.mpr ⟨_, hc, rfl⟩))⟩

noncomputable def TgtL (C : Cfg) (k : Nat) (env : Env) (target : Expr) (R : PM → Heap → Value → Prop) (f : List (Option T) → List (Option T)) : Prop :=
  ∀ (A : Around) (P : PM) (s : Shared) (v : Value) (ρ : List (Option T)) (μ : Mem) (Q : Unit → Shared → Prop), Room k A → St C env P s.heap ρ μ → R P s.heap v →
    (∀ h' tk, St C env P h' (f ρ) μ → WStep (LL env) P s.heap P h' → Q () { s with heap := h', toks := tk }) → wpAny (model C.prog C.w) A (assign target env v) Q (fun _ _ => False) s
theorem TgtL.name {x : Str} {px : Pos} {i : Nat} {t : T} (hi : env.scope.names[i]? = some (x, .local)) : TgtL C k env (.Name x px) (fun P _ v => Rep P v t) fun ρ => ρ.set i (some t) := fun A P s v ρ μ Q hA hS hr hQ =>
  PySem.wpAny_assign_Name (store_local hS hi hr hQ)
inductive TgtsL (env : Env) : List (Value → Sem Unit) → List T → (List (Option T) → List (Option T)) → Prop
  | nil : TgtsL env [] [] id
  | cons {x : Str} {px : Pos} {i : Nat} {ms : List (Value → Sem Unit)} {t : T} {ts : List T} {g : List (Option T) → List (Option T)} : env.scope.names[i]? = some (x, .local) → TgtsL env ms ts g → TgtsL env (assign (.Name x px) env :: ms) (t :: ts) fun ρ => g (ρ.set i (some t))
theorem TgtsL.len {ms : List (Value → Sem Unit)} {ts : List T} {f : List (Option T) → List (Option T)} (h : TgtsL env ms ts f) : ms.length = ts.length := by
  induction h with
  | nil => rfl
  | cons _ _ ih => simp [ih]
theorem inOrder_local : ∀ {ms : List (Value → Sem Unit)} {ts : List T} {f : List (Option T) → List (Option T)}, TgtsL env ms ts f → ∀ {A : Around} {P : PM} {s : Shared} {vs : List Value} {ρ : List (Option T)} {μ : Mem} {Q : Unit → Shared → Prop}, Room k A → St C env P s.heap ρ μ → Reps P vs ts →
    (∀ h' tk, St C env P h' (f ρ) μ → WStep (LL env) P s.heap P h' → Q () { s with heap := h', toks := tk }) → wpAny (model C.prog C.w) A (assignInOrder ms vs) Q (fun _ _ => False) s
  | _, _, _, .nil, A, P, s, _, ρ, μ, Q, hA, hS, .nil, hQ => wpAny_pure (hQ s.heap s.toks hS (.refl hS.gd.s))
  | _, _, _, .cons h1 hr, A, P, s, _, ρ, μ, Q, hA, hS, .cons r rs, hQ => by
    unfold assignInOrder
    refine wpAny_bind (wpAny_holding (PySem.wpAny_assign_Name (store_local hS h1 r fun h' tk S1 w1 => ?_)))
    exact inOrder_local hr (s := { s with heap := h', toks := tk }) hA S1 rs fun h'' tk' S2 w2 => hQ h'' tk' S2 (w1.trans w2 fun _ => .inl)
theorem TgtL.tuple {es : List Expr} {j : Nat} {p : Pos} {ts : List T} {f : List (Option T) → List (Option T)} (hm : TgtsL env ((assignEach es env).map (·.2)) ts f) (hstar : (assignEach es env).findIdx? (·.1) = none) :
    TgtL C k env (.Tuple es j p) (fun P h v => TupAt P h v ts) f := fun A P s v ρ μ Q hA hS hr hQ => by
  obtain ⟨a, vs, rfl, ht, rs⟩ := hr
  have hl : (assignEach es env).length = vs.length := by
    have := hm.len
    rw [rs.length, ← this, List.length_map]
  rw [arm_assign_Tuple]
  refine wpAny_bind (wpAny_standAt (wpAny_unpack_tuple hA.h ht (by simpa using hl) hstar fun h' he => ?_))
  have g : PStep P s.heap P h' := .grow hS.gd.s (extBut_keep he)
  exact inOrder_local hm (s := { s with heap := h' }) hA (hS.step g) (by simpa using rs) fun h'' tk S2 w2 => hQ h'' tk S2 (g.toW.trans w2 fun _ => .inl)

/-! the frame of a comprehension -/
noncomputable def look (x : Str) : List (Str × NameKind) → List (Option T) → Option T
  | (y, _) :: r, o :: ρ => match x == y with | true => o | false => look x r ρ
  | _, _ => none
noncomputable def innerρ (ns : List (Str × NameKind)) (env : Env) (ρ : List (Option T)) : List (Option T) := ns.map fun y => match y.2 with | .free => look y.1 env.scope.names ρ | _ => none
theorem look_some {x : Str} {t : T} : ∀ {ns : List (Str × NameKind)} {ρ : List (Option T)}, look x ns ρ = some t → ∃ (i : Nat) (kd : NameKind), ns[i]? = some (x, kd) ∧ ρ[i]? = some (some t)
  | [], _, h => by simp [look] at h
  | _ :: _, [], h => by simp [look] at h
  | (y, kd) :: r, o :: ρ, h => by
    unfold look at h
    split at h
    · rename_i e
      have e := eq_of_beq e
      subst e
      exact ⟨0, kd, rfl, by simp [h]⟩
    · obtain ⟨i, kd, h1, h2⟩ := look_some h
      exact ⟨i + 1, kd, by simpa using h1, by simpa using h2⟩

structure CompOK (env : Env) (scope : Scope) (cl : List (Str × Addr)) : Prop where
  clos : closureFor scope env = pure cl
  kind : scope.kind = .function
  nc : ∀ y ∈ scope.names, y.2 ≠ .cell
  nd : (scope.names.map (·.1)).Nodup
  kc : ∀ y ∈ scope.names, y.2 = .free → env.scope.names.lookup y.1 = some .cell
  lk : cl.map (fun p => env.cells.lookup p.1) = cl.map (fun p => some p.2)
  fr : (scope.names.filter fun y => y.2 == .free).map (·.1) = (cl.map (·.1)).reverse
theorem map_eq_at {α β : Type} {f g : α → β} : ∀ {l : List α}, l.map f = l.map g → ∀ x ∈ l, f x = g x
  | [], _, _, h => nomatch h
  | a :: r, e, x, h => by
    simp only [List.map_cons, List.cons.injEq] at e
    rcases List.mem_cons.mp h with rfl | h
    · exact e.1
    · exact map_eq_at e.2 x h
theorem CompOK.cell {scope : Scope} {cl : List (Str × Addr)} (co : CompOK env scope cl) {x : Str} {c : Addr} (h : (x, c) ∈ cl) : env.cells.lookup x = some c := map_eq_at co.lk _ h
theorem CompOK.cn {scope : Scope} {cl : List (Str × Addr)} (co : CompOK env scope cl) : (cl.map (·.1)).Nodup := by
  have h : ((scope.names.filter fun y => y.2 == .free).map (·.1)).Nodup := co.nd.sublist (List.filter_sublist.map _)
  rw [co.fr] at h
  exact (List.reverse_perm _).nodup_iff.mp h
theorem CompOK.free {scope : Scope} {cl : List (Str × Addr)} (co : CompOK env scope cl) {x : Str} (h : (x, NameKind.free) ∈ scope.names) : ∃ c, (x, c) ∈ cl ∧ cl.lookup x = some c := by
  have h1 : x ∈ (scope.names.filter fun y => y.2 == .free).map (·.1) := List.mem_map.mpr ⟨_, List.mem_filter.mpr ⟨h, rfl⟩, rfl⟩
  rw [co.fr, List.mem_reverse] at h1
  obtain ⟨⟨y, c⟩, hm, rfl⟩ := List.mem_map.mp h1
  exact ⟨c, hm, lookup_of_mem_nodup co.cn hm⟩
theorem relabel_at {scope : Scope} {i : Nat} {x : Str} {kd : NameKind} (h : (relabel scope env).names[i]? = some (x, kd)) : ∃ k0, scope.names[i]? = some (x, k0) ∧ (k0 = kd ∨ (k0 = .free ∧ kd = .cell)) := by
  unfold relabel at h
  simp only [List.getElem?_map] at h
  cases e : scope.names[i]? with
  | none => rw [e] at h; cases h
  | some y =>
    obtain ⟨y, k0⟩ := y
    rw [e] at h
    simp only [Option.map_some, Option.some.injEq] at h
    split at h
    · rename_i hc
      cases h
      simp only [Bool.and_eq_true, beq_iff_eq] at hc
      exact ⟨_, rfl, .inr ⟨hc.1.1, rfl⟩⟩
    · cases h; exact ⟨_, rfl, .inl rfl⟩
theorem inner_at {ns : List (Str × NameKind)} {i : Nat} {x : Str} {kd : NameKind} {t : T} (h : ns[i]? = some (x, kd)) (h' : (innerρ ns env ρ)[i]? = some (some t)) : kd = .free ∧ look x env.scope.names ρ = some t := by
  unfold innerρ at h'
  simp only [List.getElem?_map, h, Option.map_some, Option.some.injEq] at h'
  cases kd <;> simp at h'
  exact ⟨rfl, h'⟩

theorem comp_fr {scope : Scope} {cl : List (Str × Addr)} (co : CompOK env scope cl) {P : PM} {h : Heap} (S : St C env P h ρ μ) {Ca : Addr} {m : Str → Option Value} (hn : h.Ns Ca m) (hP : P Ca = none) (hF : Ca ∉ FA env) :
    FrSt (compEnvC scope cl Ca env) P h (innerρ scope.names env ρ) where
  m := ⟨m, hn, fun i x t hi hρ => by
    obtain ⟨k0, e, hk⟩ := relabel_at (env := env) hi
    obtain ⟨rfl, _⟩ := inner_at e hρ
    rcases hk with h | ⟨_, h⟩ <;> cases h⟩
  c := fun i x kd t hi hkd hρ => by
    obtain ⟨k0, e, hk⟩ := relabel_at (env := env) hi
    obtain ⟨rfl, hl⟩ := inner_at e hρ
    have hm := List.mem_of_getElem? e
    obtain ⟨c, hc, hcl⟩ := co.free hm
    obtain ⟨j, kd', h1, h2⟩ := look_some hl
    have h3 := co.kc _ hm rfl
    rw [lookup_of_get S.fr.nd h1] at h3
    cases h3
    obtain ⟨c', v, hc', hv, r⟩ := S.fr.c j x _ t h1 (.inl rfl) h2
    rw [co.cell hc] at hc'
    cases hc'
    exact ⟨c, v, hcl, hv, r⟩
  ce := fun x c hc => S.fr.ce x c (mem_of_lookup (co.cell hc))
  cx := fun i x kd hi hkd => by
    obtain ⟨k0, e, hk⟩ := relabel_at (env := env) hi
    have hm := List.mem_of_getElem? e
    have : k0 = .free := by
      rcases hk with rfl | ⟨h, _⟩
      · rcases hkd with rfl | rfl
        · exact absurd rfl (co.nc _ hm)
        · rfl
      · exact h
    subst this
    obtain ⟨c, hc, hcl⟩ := co.free hm
    exact ⟨c, hcl⟩
  nd := by
    have e : (relabel scope env).names.map (·.1) = scope.names.map (·.1) := by
      unfold relabel
      simp only [List.map_map]
      refine List.map_congr_left fun y _ => ?_
      obtain ⟨y, k0⟩ := y
      simp only [Function.comp]
      split <;> rfl
    show ((relabel scope env).names.map (·.1)).Nodup
    rw [e]; exact co.nd
  cnd := by
    show (cl.map (·.2)).Nodup
    have h : ∀ {l : List (Str × Addr)}, (∀ p ∈ l, p ∈ cl) → (l.map (·.1)).Nodup → (l.map (·.2)).Nodup := by
      intro l
      induction l with
      | nil => intro _ _; exact List.nodup_nil
      | cons p r ih =>
        intro hs hn
        rw [List.map_cons, List.nodup_cons] at hn ⊢
        refine ⟨fun q => ?_, ih (fun q hq => hs q (.tail _ hq)) hn.2⟩
        obtain ⟨⟨y, c⟩, hq, e⟩ := List.mem_map.mp q
        obtain ⟨x, c'⟩ := p
        simp only at e
        subst e
        have hne : y ≠ x := fun e => hn.1 (e ▸ List.mem_map.mpr ⟨_, hq, rfl⟩)
        exact cells_ne S.fr.cnd (co.cell (hs _ (.head _))) (co.cell (hs _ (.tail _ hq))) hne rfl
    exact h (fun _ h => h) co.cn
  lc := fun q => by
    obtain ⟨⟨x, c⟩, hc, e⟩ := List.mem_map.mp q
    exact hF (List.mem_cons_of_mem _ (List.mem_map.mpr ⟨_, mem_of_lookup (co.cell hc), e⟩))
  kind := co.kind
  gl := S.fr.gl
  bi := S.fr.bi
  off := fun a ha => by
    rcases List.mem_cons.mp ha with rfl | ha
    · exact hP
    · obtain ⟨⟨x, c⟩, hc, rfl⟩ := List.mem_map.mp ha
      exact S.fr.off _ (List.mem_cons_of_mem _ (List.mem_map.mpr ⟨_, mem_of_lookup (co.cell hc), rfl⟩))
theorem comp_fa {scope : Scope} {cl : List (Str × Addr)} (co : CompOK env scope cl) {Ca a : Addr} (h : a ∈ FA (compEnvC scope cl Ca env)) : a = Ca ∨ a ∈ FA env := by
  rcases List.mem_cons.mp h with rfl | h
  · exact .inl rfl
  · obtain ⟨⟨x, c⟩, hc, rfl⟩ := List.mem_map.mp h
    exact .inr (List.mem_cons_of_mem _ (List.mem_map.mpr ⟨_, mem_of_lookup (co.cell hc), rfl⟩))

/-! its loop -/
noncomputable abbrev testsT (ifs : List Expr) (env : Env) : Sem Bool := forIn ifs true fun c r => if r = true then do let ok ← isTrue c env (eval c env); pure (ForInStep.yield ok) else pure (ForInStep.yield r)
noncomputable def TestsB (C : Cfg) (k : Nat) (env : Env) (ifs : List Expr) (ρ : List (Option T)) (μ : Mem) (b : Bool) : Prop := Tr C k env (testsT ifs env) ρ μ fun _ v => v = b
theorem TestsB.nil : TestsB C k env [] ρ μ true := fun A P s Q hA hS hQ => wpAny_tests_nil (hQ _ P _ _ (.refl hS.gd.s) rfl)
theorem TestsB.one {e : Expr} {b : Bool} (h : EvB C k env e ρ μ b) : TestsB C k env [e] ρ μ b := fun A P s Q hA hS hQ => wpAny_tests_one (h A P s Q hA hS hQ)

theorem comp_loop {elt target iter : Expr} {ifs : List Expr} {scope : Scope} {pos : Pos} {it acc : Value} {prog : Program} {w : World} {A : Around} {s : Shared} {R : Result → Shared → Prop} (I : Nat → Shared → Prop)
    (turn : ∀ n s, I n s → wpAny (model prog w) A (pyNext it) (fun r s₁ => match r with
      | none => R (.ok .next) s₁
      | some v => wpAny (model prog w) A (letOwnedTupleGo target it v) (fun _ s₀ => wpAny (model prog w) A (assign target env v) (fun _ s₂ => wpAny (model prog w) A (testsT ifs env) (fun ok s₃ =>
          match ok with
          | true => wpAny (model prog w) A (eval elt env) (fun x s₄ => wpAny (model prog w) A (call (.builtin "list.append") [acc, x]) (fun _ s₅ => ∃ m, m < n ∧ I m s₅) (fun _ _ => False) s₄) (fun _ _ => False) s₃
          | false => ∃ m, m < n ∧ I m s₃) (fun _ _ => False) s₂) (fun _ _ => False) s₀) (fun _ _ => False) s₁) (fun _ _ => False) s)
    (n : Nat) (h : I n s) : codeAny (model prog w) A (.compLoop (.ListComp elt [⟨target, iter, ifs, 0⟩] scope pos) 0 it acc env) R s := by
  refine codeAny_loop rfl I (fun n s hI => ?_) n h
  show wpAny _ A ((compTurn (.ListComp elt [⟨target, iter, ifs, 0⟩] scope pos) 0 it acc env).onRaise (fun x => do noteFrame x env; theTreesLotGoes x)) _ _ s
  refine wpAny_noted ?_
  rw [compTurn_list]
  refine PySem.wpAny_noRaise (wpAny_bind (wpAny_standAt (wpAny_bind (wpAny_mono (turn n s hI) (fun r s₁ h₁ => ?_) fun _ _ h' => h'))))
  cases r with
  | none => exact wpAny_pure h₁
  | some v =>
    refine wpAny_bind (wpAny_mono h₁ (fun _ s₀ h₀ => wpAny_bind (wpAny_mono h₀ (fun _ s₂ h₂ => wpAny_bind (wpAny_mono h₂ (fun ok s₃ h₃ => ?_) fun _ _ f => f)) fun _ _ f => f)) fun _ _ f => f)
    cases ok with
    | false => exact wpAny_pure ⟨rfl, h₃⟩
    | true => exact wpAny_bind (wpAny_bind (wpAny_mono h₃ (fun x s₄ h₄ => wpAny_bind (wpAny_mono h₄ (fun _ s₅ h₅ => wpAny_pure (wpAny_pure ⟨rfl, h₅⟩)) fun _ _ f => f)) fun _ _ f => f))
end
end Mine

namespace Mine

section
variable {C : Cfg} {k : Nat} {env : Env} {ρ : List (Option T)} {μ : Mem} {Ψ : Out → Prop} {Φ : T → Mem → Prop}

/-- what stands at a comprehension's end -/
structure CompEndS (C : Cfg) (env : Env) (ρ : List (Option T)) (μ1 μ2 : Mem) (P : PM) (h : Heap) (D Ca : Addr) (ys : List T) (μf : Mem) (Pf : PM) (hf : Heap) : Prop where
  st : St C env Pf hf ρ ((D, .lst ys) :: (μf ++ μ2))
  w : WStep (NM μ1) P h Pf hf
  x : Sub μ1 h μf
  dn : h.get? D = none
  cn : h.get? Ca = none
  ns : ∃ m, hf.Ns Ca m
  cp : Pf Ca = none
  cf : Ca ∉ FA env
  cm : Ca ∉ (((D, MObj.lst ys) :: (μf ++ μ2)).map (·.1))

theorem comp_block {elt iter target : Expr} {ifs : List Expr} {scope : Scope} {cl : List (Str × Addr)} {pos : Pos} {n : Nat} {R : EltR} {tg : Nat → List (Option T) → List (Option T)} {μ1 μ2 : Mem} (J : Nat → List T → Mem → Prop) {A : Around} {P : PM} {s : Shared} {RR : Value → Addr → Result → Shared → Prop}
    (co : CompOK env scope cl) (pm : μ.Perm (μ1 ++ μ2)) (hn : n < 1000000) (htg : ∀ Ca i, i < n → TgtL C k (compEnvC scope cl Ca env) target (R i) (tg i)) (h0 : J 0 [] μ1)
    (step : ∀ Ca i ys μi, i < n → J i ys μi → ∃ b, TestsB C k (compEnvC scope cl Ca env) ifs (tg i (innerρ scope.names env ρ)) μi b ∧
      (b = true → Ev C k (compEnvC scope cl Ca env) elt (tg i (innerρ scope.names env ρ)) μi fun y μ' => J (i + 1) (ys ++ [y]) μ') ∧ (b = false → J (i + 1) ys μi))
    (hA : Room k A) (hS : St C env P s.heap ρ μ) {P' : PM} {h' : Heap} {tk' : Nat} {I : Addr} {fp wr : List Addr} {Pn Md : Nat → Value → Heap → Prop} {Sn : Nat → Heap → Prop} (st : PStep P s.heap P' h') (U : Turns C target n R A s.heap P' h' I fp wr Pn Md Sn)
    (fin : ∀ D Ca ys μf Pf hf tk, J n ys μf → CompEndS C env ρ μ1 μ2 P s.heap D Ca ys μf Pf hf → RR (.ref D) Ca (.ok .next) { s with heap := hf, toks := tk }) :
    wpAny (model C.prog C.w) A (newList []) (fun acc s₃ => wpAny (model C.prog C.w) A (newFunctionEnv scope env.globals cl [] env.qual none .none (some env)) (fun cenv s₄ =>
      codeAny (model C.prog C.w) A (.compStart (.ListComp elt [⟨target, iter, ifs, 0⟩] scope pos) 0 (.ref I) acc { cenv with scope := relabel scope env }) (RR acc cenv.locals) s₄) (fun _ _ => False) s₃) (fun _ _ => False) { s with heap := h', toks := tk' } := by
  refine wpAny_newObj_type (wpAny_newFunctionEnv co.nc (by intro y hy; simp at hy) (fun h₁ hns₁ hsb₁ => ?_) co.kind)
  dsimp only at hns₁ hsb₁ ⊢
  generalize hD : h'.objs.size = D at hns₁ hsb₁ ⊢
  generalize hH2 : h'.push { cls := .type "list", dict := none, data := .seq ([] : List Value).toArray } = H2 at hns₁ hsb₁ ⊢
  have hCa : H2.objs.size = D + 1 := by rw [← hH2, Heap.size_push, hD]
  generalize hC : H2.objs.size = Ca at hns₁ hsb₁ ⊢
  have hDC : D ≠ Ca := by rw [← hC, hCa]; exact Nat.ne_of_lt (Nat.lt_succ_self _)
  have dnone : h'.get? D = none := Heap.get?_none_of_le (Nat.le_of_eq hD)
  have cnone2 : H2.get? Ca = none := Heap.get?_none_of_le (Nat.le_of_eq hC)
  have kp2 : ∀ b o, h'.get? b = some o → H2.get? b = some o := fun b o e => by rw [← hH2]; exact Heap.get?_push_of_some _ e
  have cnone : h'.get? Ca = none := none_back kp2 cnone2
  have kp1 : ∀ b o, H2.get? b = some o → h₁.get? b = some o := fun b o e => hsb₁.extBut b o (fun q => by rw [q, cnone2] at e; cases e) (Heap.get?_push_of_some _ e)
  have S1 := hS.step st
  have S2 : St C env P' H2 ρ ((D, .lst []) :: μ) := S1.own kp2 dnone ⟨[], 0, by rw [← hH2, ← hD]; exact Heap.get?_push_size _ rfl, .nil⟩
  have S3 : St C env P' h₁ ρ ((D, .lst []) :: (μ1 ++ μ2)) := (S2.step (.grow S2.gd.s kp1)).part (μ'' := []) (by rw [List.append_nil]; exact pm.cons _)
  have cF : Ca ∉ FA env := fun q => by obtain ⟨o, e⟩ := S1.fr.live _ q; rw [e] at cnone; cases cnone
  have cP : P' Ca = none := by
    cases e : P' Ca with
    | none => rfl
    | some o => have := S1.gd.s _ _ e; rw [cnone] at this; cases this
  have mem12 : ∀ {a}, a ∈ (μ1 ++ μ2).map (·.1) → a ∈ μ.map (·.1) := fun q => (pm.map _).mem_iff.mpr q
  have in1 : ∀ {a}, a ∈ μ1.map (·.1) → a ∈ μ.map (·.1) := fun q => mem12 (by rw [List.map_append]; exact List.mem_append_left _ q)
  have in2 : ∀ {a}, a ∈ μ2.map (·.1) → a ∈ μ.map (·.1) := fun q => mem12 (by rw [List.map_append]; exact List.mem_append_right _ q)
  have cM : Ca ∉ (((D, MObj.lst []) :: (μ1 ++ μ2)).map (·.1)) := fun q => by
    rcases List.mem_cons.mp q with q | q
    · exact hDC q.symm
    · obtain ⟨o, e⟩ := S1.me.liveA (mem12 q)
      rw [e] at cnone; cases cnone
  let N : Addr → Prop := fun b => NM μ1 b ∨ b ∈ wr
  have sn0 : Sn 0 h₁ := U.w.frame _ _ _ U.st fun b hb o e => kp1 b o (kp2 b o e)
  let inv : Nat → Shared → Prop := fun m s' => ∃ Pc hc tkc μc ys i, s' = { s with heap := hc, toks := tkc } ∧ Sn i hc ∧ J i ys μc ∧ ys.length ≤ i ∧ St C env Pc hc ρ ((D, .lst ys) :: (μc ++ μ2)) ∧ (∃ m, hc.Ns Ca m) ∧ Pc Ca = none ∧
    Ca ∉ (((D, MObj.lst ys) :: (μc ++ μ2)).map (·.1)) ∧ WStep N P' h' Pc hc ∧ Sub μ1 h' μc ∧ (∀ b ∈ wr, Pc b = none) ∧ i ≤ n ∧ m = n + 1 - i
  have loop : ∀ s₃ : Shared, s₃ = { s with heap := h₁, toks := tk' } → codeAny (model C.prog C.w) A (.compLoop (.ListComp elt [⟨target, iter, ifs, 0⟩] scope pos) 0 (.ref I) (.ref D) (compEnvC scope cl Ca env)) (RR (.ref D) Ca) s₃ := by
    rintro s₃ rfl
    refine comp_loop inv ?_ (n + 1) ⟨P', h₁, tk', μ1, [], 0, rfl, sn0, h0, Nat.le_refl _, S3, ⟨_, hns₁⟩, cP, cM, (PStep.grow S1.gd.s fun b o e => kp1 b o (kp2 b o e)).toW, .refl, fun b hb => (U.hwr b hb).2.1, Nat.zero_le _, rfl⟩
    rintro m s' ⟨Pc, hc, tkc, μc, ys, i, rfl, hst, hJ, hyl, Sc, ⟨mC, hnC⟩, cPc, cMc, wc, xc, hwP, hin, rfl⟩
    have fpN : ∀ b ∈ fp, b ∉ FA env ∧ b ∉ (((D, MObj.lst ys) :: (μc ++ μ2)).map (·.1)) ∧ b ≠ Ca := by
      intro b hb
      rcases U.hfp b hb with ⟨o, e⟩ | ⟨e, o, e'⟩
      · have e := wc.le b o e
        refine ⟨fun q => ?_, fun q => ?_, fun q => ?_⟩
        · rw [Sc.fr.off b q] at e; cases e
        · rw [Sc.me.offA q] at e; cases e
        · rw [q, cPc] at e; cases e
      · refine ⟨fun q => ?_, fun q => ?_, fun q => ?_⟩
        · obtain ⟨o', e''⟩ := hS.fr.live b q
          rw [e''] at e; cases e
        · have lv : b ∈ μ.map (·.1) → False := fun z => by obtain ⟨o', e''⟩ := hS.me.liveA z; rw [e''] at e; cases e
          rcases List.mem_cons.mp q with q | q
          · rw [q, dnone] at e'; cases e'
          · rw [List.map_append] at q
            rcases List.mem_append.mp q with q | q
            · rcases xc b q with z | z
              · exact lv (in1 z)
              · rw [z] at e'; cases e'
            · exact lv (in2 q)
        · rw [q, cnone] at e'; cases e'
    have wrN := fun b hb => fpN b (U.w.sub b hb)
    by_cases hlt : i < n
    · refine U.w.item i _ _ _ hlt hst fun v h1 tk1 hMd k1 => ?_
      refine U.w.go i v _ _ _ hMd fun h2 hP hst2 k2 => ?_
      have k12 : ∀ b o, b ∉ wr → hc.get? b = some o → h2.get? b = some o := fun b o hb e => k2 b o hb (k1 b o hb e)
      have S2 : St C env Pc h2 ρ ((D, .lst ys) :: (μc ++ μ2)) := Sc.aside k12 hwP (fun b hb q => (wrN b hb).1 q) fun b hb q => (wrN b hb).2.1 q
      have hn2 : h2.Ns Ca mC := hnC.at' fun o e => k12 _ _ (fun q => (wrN _ q).2.2 rfl) e
      have pmem : ((D, MObj.lst ys) :: (μc ++ μ2)).Perm (μc ++ ((D, .lst ys) :: μ2)) := List.perm_middle.symm
      have inC : ∀ {Pq : PM} {hq : Heap} {ρq : List (Option T)}, St C env Pq hq ρ ((D, .lst ys) :: (μc ++ μ2)) → FrSt (compEnvC scope cl Ca env) Pq hq ρq → St C (compEnvC scope cl Ca env) Pq hq ρq μc := fun Sq Fq =>
        ⟨Sq.gd, Fq, (Sq.me.perm pmem).left, fun a ha q => by
          have q' : a ∈ (((D, MObj.lst ys) :: (μc ++ μ2)).map (·.1)) := part_mem pmem q
          rcases comp_fa co ha with rfl | ha
          · exact cMc q'
          · exact Sq.ap a ha q'⟩
      have Sin2 := inC S2 (comp_fr co S2 hn2 cPc cF)
      have wA : WStep N P' h' Pc h2 := wc.trans (N' := fun b => b ∈ wr) ⟨fun b o q e => k12 b o q e, fun _ _ e => e, fun _ _ e => .inl e, S2.gd.s⟩ fun b q => .inl (.inr q)
      refine htg Ca i hlt A Pc { s with heap := h2, toks := tk1 } v _ μc _ hA Sin2 (U.elt i v Pc h2 hlt wc.le S2.gd.s hP) fun h3 tk3 S3in w3 => ?_
      have S3' : St C env Pc h3 ρ ((D, .lst ys) :: (μc ++ μ2)) := S2.aside (wr := [Ca]) (fun b o hb e => w3.keep b o (fun q => hb (by rw [q]; exact .head _)) e) (fun b hb => by rw [List.mem_singleton.mp hb]; exact cPc) (fun b hb => by rw [List.mem_singleton.mp hb]; exact cF) (fun b hb => by rw [List.mem_singleton.mp hb]; exact cMc)
      have wB : WStep N P' h' Pc h3 := wA.trans w3 fun b q => .inr (by rw [q]; exact cnone)
      obtain ⟨b, hT, hE, hF⟩ := step Ca i ys μc hlt hJ
      refine hT A Pc { s with heap := h3, toks := tk3 } _ hA S3in fun b' Pt ht tkt stt e => ?_
      subst e
      have S4in := S3in.step stt
      have S4 := S3'.step stt
      have wC : WStep N P' h' Pt ht := wB.trans stt.toW fun _ => .inl
      have hst4 : Sn (i + 1) ht := U.w.frame _ _ _ hst2 fun b hb o e => stt.keep b o (w3.keep b o (fpN b hb).2.2 e)
      have wrP : ∀ {Pq : PM} {hq : Heap}, WStep (NM μc) Pt ht Pq hq → ∀ b ∈ wr, Pq b = none := fun {Pq hq} wq b hb => by
        obtain ⟨o', e'⟩ := U.live _ _ hst4 b hb
        have p0 : Pt b = none := stt.off (hwP b hb) (by obtain ⟨o', e'⟩ := U.live _ _ hst2 b hb; exact ⟨o', w3.keep b o' (wrN b hb).2.2 e'⟩)
        cases e : Pq b with
        | none => rfl
        | some o =>
          rcases wq.new b o e with z | z | z
          · rw [p0] at z; cases z
          · exact absurd (part_mem pmem z) (wrN b hb).2.1
          · rw [e'] at z; cases z
      cases b' with
      | false => exact ⟨n + 1 - (i + 1), by omega, Pt, ht, tkt, μc, ys, i + 1, rfl, hst4, hF rfl, Nat.le_succ_of_le hyl, S4, S4in.fr.m.imp fun _ q => q.1, S4in.fr.off _ (List.mem_cons_self ..), cMc, wC, xc, wrP (.refl S4.gd.s), hlt, rfl⟩
      | true =>
        refine hE rfl A Pt { s with heap := ht, toks := tkt } _ hA S4in fun v5 P5 h5 tk5 μ5 ⟨t, r5, hJ'⟩ w5 S5in x5 => ?_
        obtain ⟨S5, _, _⟩ := S4.frame pmem w5 S5in.me x5
        have pm5 : (μ5 ++ ((D, MObj.lst ys) :: μ2)).Perm ((D, .lst ys) :: (μ5 ++ μ2)) := List.perm_middle
        obtain ⟨vs, nn, hl, rs⟩ := (S5.me.perm pm5).rep _ (.head _)
        refine append_at (s := { s with heap := h5, toks := tk5 }) hl (fun h6 hs6 e6 => ?_) (by simp [rs.length]; exact Nat.le_trans hyl (Nat.le_trans hin (Nat.le_trans (Nat.le_of_lt hn) (by decide))))
        obtain ⟨S6, w6, _⟩ := S5.chg pm5 hs6 (o' := .lst (ys ++ [t])) ⟨vs ++ [v5], nn + 1, by simpa using e6, rs.snoc r5⟩
        have dN : ∀ b ∈ fp, b ≠ D := fun b hb q => (fpN b hb).2.1 (by rw [q]; exact .head _)
        have wD : WStep N P' h' P5 h5 := wC.trans w5 fun b q => (xc b q).imp .inl id
        have wE : WStep N P' h' P5 h6 := wD.trans (N' := fun b => b = D) (wstep_but S5.gd.s hs6 ((S5.me.perm pm5).off _ (.head _)) rfl) fun b q => .inr (by rw [q]; exact dnone)
        have frz : ∀ b ∈ fp, ∀ o, ht.get? b = some o → h6.get? b = some o := fun b hb o e => hs6.extBut b o (dN b hb) (w5.keep b o (fun q => (fpN b hb).2.1 (part_mem pmem q)) e)
        have cM5 : Ca ∉ (((D, MObj.lst (ys ++ [t])) :: (μ5 ++ μ2)).map (·.1)) := fun q => by
          rcases List.mem_cons.mp q with q | q
          · exact hDC q.symm
          · rw [List.map_append] at q
            rcases List.mem_append.mp q with q | q
            · exact S5in.ap Ca (List.mem_cons_self ..) q
            · exact cMc (List.mem_cons_of_mem _ (by rw [List.map_append]; exact List.mem_append_right _ q))
        have x6 : Sub μ1 h' μ5 := fun a ha => by
          rcases x5 a ha with q | q
          · exact xc a q
          · by_cases hm : N a
            · rcases hm with z | z
              · exact .inl z
              · obtain ⟨o, e⟩ := U.live _ _ hst4 a z
                rw [e] at q; cases q
            · refine .inr ?_
              cases e : h'.get? a with
              | none => rfl
              | some o => rw [wC.keep a o hm e] at q; cases q
        refine ⟨n + 1 - (i + 1), by omega, P5, h6, tk5, μ5, ys ++ [t], i + 1, rfl, U.w.frame _ _ _ hst4 frz, hJ', by simp; exact hyl, S6, ?_, S5in.fr.off _ (List.mem_cons_self ..), cM5, wE, x6, wrP w5, hlt, rfl⟩
        obtain ⟨m5, q5, _⟩ := S5in.fr.m
        exact ⟨m5, q5.sameBut hs6 (Ne.symm hDC)⟩
    · have : i = n := by omega
      subst this
      refine U.w.done _ _ _ hst fun h1 tk1 k1 => ?_
      have S2 : St C env Pc h1 ρ ((D, .lst ys) :: (μc ++ μ2)) := Sc.aside k1 hwP (fun b hb q => (wrN b hb).1 q) fun b hb q => (wrN b hb).2.1 q
      have wA : WStep N P' h' Pc h1 := wc.trans (N' := fun b => b ∈ wr) ⟨fun b o q e => k1 b o q e, fun _ _ e => e, fun _ _ e => .inl e, S2.gd.s⟩ fun b q => .inl (.inr q)
      exact fin D Ca ys μc Pc h1 tk1 hJ
        { st := S2
          w := st.toW.trans wA fun b q => q.imp id fun z => (U.hwr b z).1
          x := fun a ha => (xc a ha).imp id (none_back st.keep)
          dn := none_back st.keep dnone
          cn := none_back st.keep cnone
          ns := ⟨mC, hnC.at' fun o e => k1 _ _ (fun q => (wrN _ q).2.2 rfl) e⟩
          cp := cPc
          cf := cF
          cm := cMc }
  exact codeAny_compStart_list (loop _ rfl) (U.self 0 _ _ _ sn0 (loop _ rfl))
end
end Mine

namespace Mine

section
variable {C : Cfg} {k : Nat} {env : Env} {ρ : List (Option T)} {μ : Mem} {Ψ : Out → Prop} {Φ : T → Mem → Prop}

theorem St.other {P : PM} {h h' : Heap} {a : Addr} (S : St C env P h ρ μ) (hs : Heap.SameBut a h h') (hP : P a = none) (hF : a ∉ FA env) (hM : a ∉ μ.map (·.1)) : St C env P h' ρ μ :=
  S.aside (wr := [a]) (fun b o hb e => hs.extBut b o (fun q => hb (by rw [q]; exact .head _)) e) (fun b hb => by rw [List.mem_singleton.mp hb]; exact hP) (fun b hb => by rw [List.mem_singleton.mp hb]; exact hF) (fun b hb => by rw [List.mem_singleton.mp hb]; exact hM)

/-- after the release of its frame -/
theorem CompEndS.gone {μ1 μ2 μf : Mem} {P Pf : PM} {h hf h' : Heap} {D Ca : Addr} {ys : List T} (X : CompEndS C env ρ μ1 μ2 P h D Ca ys μf Pf hf) (hs : Heap.SameBut Ca hf h') :
    St C env Pf h' ρ ((D, .lst ys) :: (μf ++ μ2)) ∧ WStep (NM μ1) P h Pf h' :=
  ⟨X.st.other hs X.cp X.cf X.cm, X.w.trans (N' := fun b => b = Ca) (wstep_but X.st.gd.s hs X.cp rfl) fun b q => .inr (by rw [q]; exact X.cn)⟩

theorem CompOK.locs {scope : Scope} {cl : List (Str × Addr)} (co : CompOK env scope cl) : ∀ x ∈ scope.names, x.2 = NameKind.local → scope.names.lookup x.1 = some .local := fun x hx e => by
  obtain ⟨a, b⟩ := x
  simp only at e
  subst e
  obtain ⟨i, hi, e⟩ := List.getElem_of_mem hx
  exact lookup_of_get co.nd (i := i) (by rw [List.getElem?_eq_getElem hi, e])

/-- how a comprehension goes -/
structure CompRun (C : Cfg) (k : Nat) (env : Env) (ρ : List (Option T)) (μ μ1 μ2 : Mem) (elt iter target : Expr) (ifs : List Expr) (scope : Scope) (n : Nat) (J : Nat → List T → Mem → Prop) (cl : List (Str × Addr)) (R : EltR) (tg : Nat → List (Option T) → List (Option T)) : Prop where
  co : CompOK env scope cl
  pm : μ.Perm (μ1 ++ μ2)
  hn : n < 1000000
  it : IterOK C k env iter target ρ μ n R
  htg : ∀ Ca i, i < n → TgtL C k (compEnvC scope cl Ca env) target (R i) (tg i)
  h0 : J 0 [] μ1
  step : ∀ Ca i ys μi, i < n → J i ys μi → ∃ b, TestsB C k (compEnvC scope cl Ca env) ifs (tg i (innerρ scope.names env ρ)) μi b ∧
      (b = true → Ev C k (compEnvC scope cl Ca env) elt (tg i (innerρ scope.names env ρ)) μi fun y μ' => J (i + 1) (ys ++ [y]) μ') ∧ (b = false → J (i + 1) ys μi)
  fold : ∀ x, foldedSetIterable iter env x = pure x

variable {μ1 μ2 : Mem} {elt iter target : Expr} {ifs : List Expr} {scope : Scope} {n : Nat} {J : Nat → List T → Mem → Prop} {cl : List (Str × Addr)} {R : EltR} {tg : Nat → List (Option T) → List (Option T)} {pos : Pos}

theorem comp_eval (X : CompRun C k env ρ μ μ1 μ2 elt iter target ifs scope n J cl R tg) {A : Around} {P : PM} {s : Shared} {Q : Value → Shared → Prop} (hA : Room k A) (hS : St C env P s.heap ρ μ)
    (hQ : ∀ D Ca ys μf Pf hf h' tk, J n ys μf → CompEndS C env ρ μ1 μ2 P s.heap D Ca ys μf Pf hf → Heap.SameBut Ca hf h' → Q (.ref D) { s with heap := h', toks := tk }) : wpAny (model C.prog C.w) A (eval (.ListComp elt [⟨target, iter, ifs, 0⟩] scope pos) env) Q (fun _ _ => False) s := by
  rw [eval_ListComp]
  refine wpAny_comprehension_free (use := none) rfl X.fold X.co.clos X.co.kind X.co.locs (X.it A P s _ hA hS fun I fp wr Pn Md Sn P' h' tk st U => ?_)
  exact comp_block (RR := fun acc C' => compPost (model C.prog C.w) A (fun _ _ => False) none Q acc C') J X.co X.pm X.hn X.htg X.h0 X.step hA hS st U fun D Ca ys μf Pf hf tk hJ x =>
    x.ns.imp fun m hm => ⟨hm, fun h'' hs => hQ D Ca ys μf Pf hf h'' tk hJ x hs⟩

theorem Ev.comp (X : CompRun C k env ρ μ μ1 μ2 elt iter target ifs scope n J cl R tg) (hΦ : ∀ D ys μf, J n ys μf → Φ (.adr D) ((D, .lst ys) :: (μf ++ μ2))) : Ev C k env (.ListComp elt [⟨target, iter, ifs, 0⟩] scope pos) ρ μ Φ := fun A P s Q hA hS hQ =>
  comp_eval X hA hS fun D Ca ys μf Pf hf h' tk hJ x hs => by
    obtain ⟨S, w⟩ := x.gone hs
    refine hQ _ Pf h' tk _ ⟨_, .adr, hΦ D ys μf hJ⟩ (w.wide fun b q => part_mem X.pm q) S fun a ha => ?_
    rcases List.mem_cons.mp ha with rfl | ha
    · exact .inr x.dn
    · rw [List.map_append] at ha
      rcases List.mem_append.mp ha with q | q
      · exact (x.x a q).imp (part_mem X.pm) id
      · exact .inl ((X.pm.map _).mem_iff.mpr (by rw [List.map_append]; exact List.mem_append_right _ q))

/-- a comprehension that changes nothing: a frozen list -/
theorem EvP.comp {zs : List T} (X : CompRun C k env ρ μ [] μ elt iter target ifs scope n J cl R tg) (hz : ∀ ys μf, J n ys μf → ys = zs) : EvP C k env (.ListComp elt [⟨target, iter, ifs, 0⟩] scope pos) ρ μ (.lst zs) := fun A P s Q hA hS hQ =>
  comp_eval X hA hS fun D Ca ys μf Pf hf h' tk hJ x hs => by
    obtain ⟨S, w⟩ := x.gone hs
    obtain ⟨vs, c, e, rs⟩ := S.me.rep _ (.head _)
    have hoff := S.me.off _ (.head _)
    have le := add_le (o := sq "list" vs c) hoff
    rw [hz ys μf hJ] at rs
    refine hQ _ (Pf.add D (sq "list" vs c)) h' tk ⟨fun b o q => w.keep b o (by simp) q, fun b o q => le b o (w.le b o q), fun b o q => ?_, fun b o q => ?_⟩ (.lst (PM.add_self _ _ _) (rs.mono le))
    · unfold PM.add at q
      split at q
      · rename_i z; subst z; exact .inr x.dn
      · rcases w.new b o q with z | z | z
        · exact .inl z
        · simp at z
        · exact .inr z
    · unfold PM.add at q
      split at q
      · rename_i z; cases q; subst z; exact e
      · exact S.gd.s _ _ q

/-- a comprehension kept under a name of its own -/
theorem Ex1.assignComp {y : Str} {py spos : Pos} {i : Nat} (X : CompRun C k env ρ μ μ1 μ2 elt iter target ifs scope n J cl R tg) (hi : env.scope.names[i]? = some (y, .local))
    (hΨ : ∀ D ys μf, J n ys μf → Ψ (.next (ρ.set i (some (.adr D))) ((D, .lst ys) :: (μf ++ μ2)))) (hsw : swapsWith (.ListComp elt [⟨target, iter, ifs, 0⟩] scope pos) (some (.Name y py)) spos.line env = pure true := by rfl) :
    Ex1 C k env (.Assign [.Name y py] (.ListComp elt [⟨target, iter, ifs, 0⟩] scope pos) spos) ρ μ Ψ := fun A P s Q hA hS hQ => by
  rw [exec_Assign_Name_used _ _ _ _ hsw]
  refine wpAny_bind (wpAny_standAt (wpAny_bind ?_))
  show wpAny _ A (do let _ ← comprehension (.ListComp elt [⟨target, iter, ifs, 0⟩] scope pos) scope env _ (newList []) false (eval iter env) (some (PySem.assign (.Name y py) env))) _ _ s
  refine wpAny_bind (wpAny_mono (wpAny_comprehension_free (use := some (PySem.assign (.Name y py) env)) (Q := fun _ s' => Q .next s') rfl X.fold X.co.clos X.co.kind X.co.locs (X.it A P s _ hA hS fun I fp wr Pn Md Sn P' h' tk st U => ?_)) (fun _ s' hq => wpAny_pure (wpAny_pure hq)) fun _ _ e => e)
  refine comp_block (RR := fun acc C' => compPost (model C.prog C.w) A (fun _ _ => False) (some (PySem.assign (.Name y py) env)) (fun _ s' => Q .next s') acc C') J X.co X.pm X.hn X.htg X.h0 X.step hA hS st U fun D Ca ys μf Pf hf tk hJ x => ?_
  show wpAny _ A (PySem.assign (.Name y py) env (.ref D)) _ _ _
  refine PySem.wpAny_assign_Name (store_local (s := { s with heap := hf, toks := tk }) x.st hi (t := .adr D) .adr fun h2 tk2 S2 w2 => ?_)
  obtain ⟨m, hm⟩ := x.ns
  refine ⟨m, hm.at' fun o e => w2.keep _ o (fun q => x.cf (by rw [q]; exact List.mem_cons_self ..)) e, fun h3 hs => ?_⟩
  have S3 := S2.other hs x.cp x.cf x.cm
  have wn : WStep (NN env μ) P s.heap Pf h3 := by
    have a1 : WStep (NN env μ) P s.heap Pf hf := x.w.wide fun b q => .inr (part_mem X.pm q)
    have a2 : WStep (NN env μ) P s.heap Pf h2 := a1.trans w2 fun b q => .inl (.inl (by rw [q]; exact List.mem_cons_self ..))
    exact a2.trans (N' := fun b => b = Ca) (wstep_but S2.gd.s hs x.cp rfl) fun b q => .inr (by rw [q]; exact x.cn)
  refine hQ _ Pf h3 tk2 _ (hΨ D ys μf hJ) wn ⟨rfl, S3, fun a ha => ?_⟩
  rcases List.mem_cons.mp ha with rfl | ha
  · exact .inr x.dn
  · rw [List.map_append] at ha
    rcases List.mem_append.mp ha with q | q
    · exact (x.x a q).imp (part_mem X.pm) id
    · exact .inl ((X.pm.map _).mem_iff.mpr (by rw [List.map_append]; exact List.mem_append_right _ q))

/-- what changes nothing of its own, evaluated beside other memory -/
theorem EvP.ofEv {e : Expr} {t : T} (h : Ev C k env e ρ [] fun t' _ => t' = t) : EvP C k env e ρ μ t := fun A P s Q hA hS hQ =>
  h A P s Q hA (hS.part (μ'' := μ) (by rw [List.nil_append])) fun v P' h' tk μ' ⟨t', r, e⟩ w S' x => hQ v P' h' tk ⟨fun b o q => w.keep b o (by simp) q, w.le, fun b o q => (w.new b o q).imp id fun z => z.elim (fun y => by simp at y) id, w.sub⟩ (e ▸ r)
/-- an own list handed on frozen -/
theorem Ev.frz {e : Expr} (h : Ev C k env e ρ μ fun t μ' => ∃ a ts μ3, t = .adr a ∧ μ'.Perm ((a, .lst ts) :: μ3) ∧ Φ (.lst ts) μ3) : Ev C k env e ρ μ Φ := fun A P s Q hA hS hQ =>
  h A P s Q hA hS fun v P' h' tk μ' ⟨t, r, a, ts, μ3, e, p, hp⟩ w S x => by
    subst e
    cases r
    obtain ⟨P2, S2, w2, x2, r2⟩ := S.freeze p
    exact hQ _ P2 h' tk μ3 ⟨_, r2, hp⟩ (w.trans w2 x) S2 (x.trans' w (fun _ => .inl) x2)

/-- zip over two frozen lists -/
theorem IterOK.zip {fx : Str} {fp p tp : Pos} {e e2 : Expr} {es : List Expr} {j : Nat} {xs ys : List T} (hf : Tr C k env (eval (.Name fx fp) env) ρ μ fun _ u => u = .type "zip") (he : isStarred e = false ∧ isStarred e2 = false) (h : EvPs C k env [e, e2] p ρ μ [.lst xs, .lst ys]) :
    IterOK C k env (.Call (.Name fx fp) [e, e2] [] p) (.Tuple es j tp) ρ μ (min xs.length ys.length) (TupR fun i => [xs.getD i .none, ys.getD i .none]) := fun A P s Q hA hS hQ =>
  tree_call hA hS hf .type (fun e' h' => by
      rcases List.mem_cons.mp h' with rfl | h'
      · exact he.1
      rw [List.mem_singleton.mp h']; exact he.2) h fun vs P1 h1 tk1 st1 r1 => by
    have S1 := hS.step st1
    cases r1 with
    | cons r rs => cases rs with
      | cons r' rs =>
        cases rs
        cases r with
        | lst e1 rs =>
          cases r' with
          | lst e2 rs2 =>
            rename_i l n1 ws l2 n2 zs
            have hl : h1.IsList l ws.toArray := ⟨_, S1.gd.s _ _ e1, rfl, _, rfl⟩
            have hl2 : h1.IsList l2 zs.toArray := ⟨_, S1.gd.s _ _ e2, rfl, _, rfl⟩
            have hlt : l < h1.objs.size := Heap.lt_size (S1.gd.s _ _ e1)
            have hlt2 : l2 < h1.objs.size := Heap.lt_size (S1.gd.s _ _ e2)
            have D : ZipApart (h1.objs.size + 4) (h1.objs.size + 2) (h1.objs.size + 3) h1.objs.size (h1.objs.size + 1) l l2 := ktu_apart _ _ _ hlt hlt2
            refine call_zip_2 (s := { s with heap := h1, toks := tk1 }) hl hl2 fun h' hz hTI hTO hi1 hi2 hsz hk => ?_
            refine wpAny_pyIter_zip hz ?_
            have g : PStep P1 h1 P1 h' := .grow S1.gd.s hk
            have st := st1.trans g
            have W := (WalksT.zip2 (prog := C.prog) (w := C.w) hA.h _ _ _ _ _ _ _ D ws.toArray zs.toArray).toU
            have hlen : min ws.toArray.size zs.toArray.size = min xs.length ys.length := by simp [rs.length, rs2.length]
            rw [hlen] at W
            have pn : ∀ b, h1.objs.size ≤ b → P1 b = none := fun b hb => by
              cases e : P1 b with
              | none => rfl
              | some o' => exact absurd (Heap.lt_size (S1.gd.s _ _ e)) (Nat.not_lt.mpr hb)
            have sn : ∀ b, h1.objs.size ≤ b → s.heap.get? b = none := fun b hb => none_back st1.keep (Heap.get?_none_of_le hb)
            obtain ⟨o1, q1, _⟩ := id hi1
            obtain ⟨o2, q2, _⟩ := id hi2
            have lv : ∀ b ∈ [h1.objs.size + 4, h1.objs.size + 2, h1.objs.size + 3, h1.objs.size, h1.objs.size + 1], h1.objs.size ≤ b ∧ ∃ o, h'.get? b = some o := fun b hb => by
              simp only [List.mem_cons, List.not_mem_nil, or_false] at hb
              rcases hb with rfl | rfl | rfl | rfl | rfl
              · exact ⟨Nat.le_add_right _ _, _, hz⟩
              · exact ⟨Nat.le_add_right _ _, _, hTI⟩
              · exact ⟨Nat.le_add_right _ _, _, hTO⟩
              · exact ⟨Nat.le_refl _, _, q1⟩
              · exact ⟨Nat.le_add_right _ _, _, q2⟩
            refine hQ (h1.objs.size + 4) _ _ _ _ _ P1 h' tk1 st
              { self := W.self
                w := KTurns.ofWalksU W
                st := ⟨hz, hTI, ⟨_, _, hTO⟩, hi1, hi2, hl.at fun o e => hk l o e, hl2.at fun o e => hk l2 o e⟩
                hfp := fun b hb => ?_
                hwr := fun b hb => ?_
                live := fun i h st b hb => ?_
                elt := fun i v Pc hc hi le sub hv => ?_ }
            · have hb' : b = h1.objs.size + 4 ∨ b = h1.objs.size + 2 ∨ b = h1.objs.size + 3 ∨ b = h1.objs.size ∨ b = h1.objs.size + 1 ∨ b = l ∨ b = l2 := by simpa using hb
              have gt : b ∈ [h1.objs.size + 4, h1.objs.size + 2, h1.objs.size + 3, h1.objs.size, h1.objs.size + 1] → (∃ o, P1 b = some o) ∨ (s.heap.get? b = none ∧ ∃ o, h'.get? b = some o) := fun q => .inr ⟨sn _ (lv b q).1, (lv b q).2⟩
              rcases hb' with q | q | q | q | q | q | q
              · exact gt (by simp [q])
              · exact gt (by simp [q])
              · exact gt (by simp [q])
              · exact gt (by simp [q])
              · exact gt (by simp [q])
              · rw [q]; exact .inl ⟨_, e1⟩
              · rw [q]; exact .inl ⟨_, e2⟩
            · have hb' : b = h1.objs.size + 4 ∨ b = h1.objs.size + 3 ∨ b = h1.objs.size ∨ b = h1.objs.size + 1 := by simpa using hb
              have q := lv b (by rcases hb' with q | q | q | q <;> simp [q])
              exact ⟨sn _ q.1, pn _ q.1, q.2⟩
            · obtain ⟨y1, y2, ⟨_, _, y3⟩, ⟨o1, y4, _⟩, ⟨o2, y5, _⟩, _⟩ := st
              have hb' : b = h1.objs.size + 4 ∨ b = h1.objs.size + 3 ∨ b = h1.objs.size ∨ b = h1.objs.size + 1 := by simpa using hb
              rcases hb' with q | q | q | q
              · rw [q]; exact ⟨_, y1⟩
              · rw [q]; exact ⟨_, y3⟩
              · rw [q]; exact ⟨_, y4⟩
              · rw [q]; exact ⟨_, y5⟩
            · obtain ⟨Ta, vals, rfl, ⟨x, y, hx, hy, rfl⟩, hT⟩ := hv
              obtain ⟨t, et, r⟩ := rs.get' (i := i) (v := x) (by simpa using hx)
              obtain ⟨t2, et2, r2⟩ := rs2.get' (i := i) (v := y) (by simpa using hy)
              refine ⟨Ta, [x, y], rfl, hT, .cons ?_ (.one ?_)⟩
              · rw [List.getD_eq_getElem?_getD, et]; exact r.mono le
              · rw [List.getD_eq_getElem?_getD, et2]; exact r2.mono le
end
end Mine

open PySem PySem.W PySem.Calls PyProof.Rows PySem.Spec PySem.Builtin PySem.Builtin.ObjectAttr
namespace Mine

theorem Room.in1 {k : Nat} {A : Around} (h : Room (k + 1) A) : Room k A.in1 := ⟨h.h, by have := h.d; show A.depth + k < _; omega, by have := h.u; show A.units + 1 + 20 * k + 100 < _; omega⟩

/-! fields of an object -/
noncomputable def putF (name : Str) (t : T) : List (Str × T) → List (Str × T)
  | [] => [(name, t)]
  | (x, u) :: r => match name == x with | true => (x, t) :: r | false => (x, u) :: putF name t r

theorem fld_find {P : PM} {name : Str} : ∀ {es : List DictEntry} {fs : List (Str × T)}, FldRep P es fs →
    match fs.lookup name with | some t => ∃ e, es.find? (fun e => e.key.isStr name) = some e ∧ Rep P e.val t | none => es.find? (fun e => e.key.isStr name) = none
  | [], [], _ => rfl
  | e :: es, (x, u) :: fs, ⟨⟨tok, ek⟩, r, h⟩ => by
    have ih := fld_find (name := name) h
    simp only [List.lookup_cons, List.find?_cons]
    have hk : e.key.isStr name = (name == x) := by
      rw [ek]; show (x == name) = _
      by_cases q : x = name
      · subst q; simp
      · rw [beq_eq_false_iff_ne.mpr q, beq_eq_false_iff_ne.mpr (Ne.symm q)]
    rw [hk]
    cases name == x with
    | true => exact ⟨e, rfl, r⟩
    | false => exact ih
theorem fld_noref {P : PM} : ∀ {es : List DictEntry} {fs : List (Str × T)}, FldRep P es fs → es.any (·.refKey) = false
  | [], [], _ => rfl
  | e :: es, (x, u) :: fs, ⟨⟨tok, ek⟩, r, h⟩ => by
    rw [List.any_cons, fld_noref h]
    have : e.refKey = false := by unfold DictEntry.refKey; rw [ek]
    rw [this]; rfl
theorem fld_get {P : PM} {name : Str} {es : List DictEntry} {fs : List (Str × T)} {t : T} (h : FldRep P es fs) (hl : fs.lookup name = some t) : ∃ v, getL name es = some (some v) ∧ Rep P v t := by
  have q := fld_find (name := name) h
  rw [hl] at q
  obtain ⟨e, he, r⟩ := q
  exact ⟨e.val, by unfold getL; rw [he], r⟩
theorem fld_none {P : PM} {name : Str} {es : List DictEntry} {fs : List (Str × T)} (h : FldRep P es fs) (hl : fs.lookup name = none) : getL name es = some none := by
  have q := fld_find (name := name) h
  rw [hl] at q
  unfold getL
  rw [q, fld_noref h]; rfl
theorem fld_put {P : PM} {name : Str} {hsh : Int} {tk : Tok} {v : Value} {t : T} (r : Rep P v t) : ∀ {es : List DictEntry} {fs : List (Str × T)}, FldRep P es fs → FldRep P (putL name hsh (.str name tk) v es) (putF name t fs)
  | [], [], _ => ⟨⟨tk, rfl⟩, r, trivial⟩
  | e :: es, (x, u) :: fs, ⟨⟨tok, ek⟩, r', h⟩ => by
    have hk : e.key.isStr name = (name == x) := by
      rw [ek]; show (x == name) = _
      by_cases q : x = name
      · subst q; simp
      · rw [beq_eq_false_iff_ne.mpr q, beq_eq_false_iff_ne.mpr (Ne.symm q)]
    unfold putL putF
    rw [hk]
    cases name == x with
    | true => exact ⟨⟨tok, ek⟩, r, h⟩
    | false => exact ⟨⟨tok, ek⟩, r', fld_put r h⟩
theorem FldRep.length {P : PM} : ∀ {es : List DictEntry} {fs : List (Str × T)}, FldRep P es fs → es.length = fs.length
  | [], [], _ => rfl
  | _ :: _, (_, _) :: _, ⟨_, _, h⟩ => by simp [h.length]
theorem putL_len (name : Str) (hsh : Int) (key v : Value) : ∀ es : List DictEntry, (putL name hsh key v es).length ≤ es.length + 1
  | [] => by simp [putL]
  | e :: r => by
    unfold putL
    split
    · simp
    · have := putL_len name hsh key v r; simp; omega
theorem handed {P : PM} {v : Value} {t : T} (r : Rep P v t) : handedIn v = true := by cases r <;> rfl

/-- a class of plain objects -/
structure PlainCls (C : Cfg) (c : Addr) (flds : List Str) : Prop where
  mkI : makesIn C.K c = true
  kp : keepIn C.K (.ref c) = true
  get : plainGet C.K c "" = true
  dic : hasDictIn C.K c = true
  set : findIn C.K (.ref c) "__setattr__" = some (some (.builtin "object.__setattr__"))
  ovr : plainOver C.K c = true
  fld : ∀ x ∈ flds, findIn C.K (.ref c) x = some none
structure Meth (C : Cfg) (c : Addr) (name : Str) (f : Addr) : Prop where
  find : findIn C.K (.ref c) name = some (some (.ref f))
  fn : isFn C.K (.ref f) = true
structure InstM (μ : Mem) (x c dx : Addr) (fs : List (Str × T)) : Prop where
  o : (x, MObj.raw (instObj c dx)) ∈ μ
  d : (dx, MObj.flds fs) ∈ μ

section
variable {C : Cfg} {k : Nat} {env : Env} {ρ : List (Option T)} {μ : Mem} {Ψ : Out → Prop} {Φ : T → Mem → Prop} {c x dx : Addr} {flds : List Str} {fs : List (Str × T)}

theorem Gd.frag {P : PM} {h : Heap} (G : Gd C P h) : C.K.In h := fun a o e => G.top _ _ (C.hK a o e)
theorem InstM.at {P : PM} {h : Heap} (I : InstM μ x c dx fs) (M : MemSt C P h μ) : ∃ es n, InstAt h x (instObj c dx) c (some (dictOf es n)) ∧ h.get? dx = some (dictOf es n) ∧ FldRep P es fs := by
  have e1 : h.get? x = some (instObj c dx) := M.rep _ I.o
  obtain ⟨es, n, e2, r⟩ := M.rep _ I.d
  exact ⟨es, n, ⟨e1, rfl, rfl, e2⟩, e2, r⟩

theorem EvP.attr {n attr : Str} {np pos : Pos} {t : T} (X : PlainCls C c flds) (hx : attr ∈ flds) (hn : EvP C k env (.Name n np) ρ μ (.adr x)) (I : InstM μ x c dx fs) (hl : fs.lookup attr = some t) : EvP C k env (.Attribute (.Name n np) attr pos) ρ μ t := fun A P s Q hA hS hQ =>
  Attribute_name (hn A P s _ hA hS fun v P1 h1 tk1 st1 r1 => by
    cases r1
    have S1 := hS.step st1
    obtain ⟨es, m, J, _, fr⟩ := I.at S1.me
    obtain ⟨v, e, r⟩ := fld_get fr hl
    exact get_value (s := { s with heap := h1, toks := tk1 }) S1.gd.frag J (plainGet_of X.get).1 (findObj_own X.dic (X.fld _ hx) rfl (by rw [lookIn_dict]; exact e)) (handed r) (hQ v P1 h1 _ st1 r))

theorem set_field {name : Str} {v : Value} {t : T} {A : Around} {P : PM} {s : Shared} {Q : Unit → Shared → Prop} {μ2 : Mem} (X : PlainCls C c flds) (hx : name ∈ flds) (hS : St C env P s.heap ρ μ) (ho : (x, MObj.raw (instObj c dx)) ∈ μ) (pm : μ.Perm ((dx, .flds fs) :: μ2)) (hz : fs.length < 1000) (r : Rep P v t)
    (hQ : ∀ h' tk, St C env P h' ρ ((dx, .flds (putF name t fs)) :: μ2) → WStep (NM μ) P s.heap P h' → Sub μ s.heap ((dx, .flds (putF name t fs)) :: μ2) → Q () { s with heap := h', toks := tk }) : wpAny (model C.prog C.w) A (setAttr (.ref x) name v) Q (fun _ _ => False) s := by
  obtain ⟨es, n, J, e2, fr⟩ := InstM.at ⟨ho, pm.mem_iff.mpr (.head _)⟩ hS.me
  have Kh := hS.gd.frag
  have hx1 : s.heap.get? x = some (instObj c dx) := J.at_
  obtain ⟨cd, hc, hd⟩ := any_some X.dic
  refine set_plain Kh J X.set (osa_open (s := { s with toks := s.toks + 1 }) Kh J X.ovr (by unfold takerIn; rw [X.fld _ hx]; rfl) fun b => ?_)
  show wpAny _ _ (storeInOwnDict (.ref x) (.ref c) (.str name s.toks) name v b) _ _ _
  unfold storeInOwnDict ownStreamTells ownDictForStores instanceDict
  refine wpAny_bind (wpAny_pure ?_)
  refine wpAny_bind (wpAny_bind (wpAny_loadPart hx1 (wpAny_bind (Looks.here (s := { s with toks := s.toks + 1 }) (looks_clsIn Kh hc) ?_))))
  rw [hd]
  refine wpAny_pure (wpAny_bind ?_)
  dsimp only
  unfold newKeyGuard nsSet
  refine wpAny_pure (wpAny_bind (wpAny_bind (wpAny_bind (wpAny_askSetting (wpAny_pure (wpAny_bind (wpAny_mkText (wpAny_bind (wpAny_loadPart e2 ?_)))))))))
  dsimp only
  have noref : aRefKeyMayBeTheName name es.toArray = false := by
    rw [aRefKeyMayBeTheName_at, ← Array.any_toList, ← Array.any_toList]
    show (_ && es.any (·.refKey)) = false
    rw [fld_noref fr, Bool.and_false]
  rw [noref]
  refine wpAny_updatePart e2 ?_
  have upd := Heap.get?_update_self (Obj.putName name (PyData.keyHash C.w.params name) (.str name (s.toks + 1)) v) e2 (by rw [putName_dict]; rfl)
  rw [putName_dict] at upd
  have hlen := putL_len name (PyData.keyHash C.w.params name) (.str name (s.toks + 1)) v es
  refine wpAny_bind (wpAny_lookBehind upd (pastItsLine_dict (by rw [List.size_toArray, sizeLine_eq]; have := fr.length; omega)) ?_)
  obtain ⟨S', w', x'⟩ := hS.chg pm (Heap.SameBut.update ..) (o' := .flds (putF name t fs)) ⟨_, _, upd, fld_put r fr⟩
  exact wpAny_pure (hQ _ _ S' w' x')

/-- a field set -/
theorem Ex1.setA {n attr : Str} {np ap p : Pos} {e : Expr} (X : PlainCls C c flds) (hx : attr ∈ flds)
    (h : Ev C k env e ρ μ fun t μ1 => EvP C k env (.Name n np) ρ μ1 (.adr x) ∧ ∃ fs μ2, (x, MObj.raw (instObj c dx)) ∈ μ1 ∧ μ1.Perm ((dx, .flds fs) :: μ2) ∧ fs.length < 1000 ∧ Ψ (.next ρ ((dx, .flds (putF attr t fs)) :: μ2)))
    (hs : swapsWith e (some (.Attribute (.Name n np) attr ap)) p.line env = pure false := by rfl) : Ex1 C k env (.Assign [.Attribute (.Name n np) attr ap] e p) ρ μ Ψ := fun A P s Q hA hS hQ =>
  plainObj_wpAny_Assign_Attribute (h A P s _ hA hS fun v P1 h1 tk1 μ1 ⟨t, r1, hn, fs, μ2, ho, pm, hz, hp⟩ w1 S1 x1 => hn A P1 _ _ hA S1 fun ov P2 h2 tk2 st2 r2 => by
    cases r2
    have S2 := S1.step st2
    exact set_field (s := { s with heap := h2, toks := tk2 }) X hx S2 ho pm hz (r1.mono st2.le) fun h3 tk3 S3 w3 x3 => by
      have w2 : WStep (NM μ) P s.heap P2 h2 := w1.trans (st2.toW (N := NM μ1)) x1
      have xx : Sub μ s.heap μ1 := x1
      exact hQ _ P2 h3 tk3 _ hp (w2.trans w3 xx).nn ⟨rfl, S3, xx.trans' w1 (fun _ => .inl) fun b hb => (x3 b hb).imp id (none_back st2.keep)⟩) hs

/-- a call of a method of its own -/
theorem Ev.methodOwn {n name : Str} {np ap cp : Pos} {es : List Expr} {f : Addr} {ts : List T} {Φ1 : T → Mem → Prop} (μ1 μ2 : Mem) (pm : μ.Perm (μ1 ++ μ2)) (X : PlainCls C c flds) (Me : Meth C c name f) (hf : ∃ o fd, C.g0.get? f = some o ∧ o.data = .func fd) (hn : EvP C k env (.Name n np) ρ μ (.adr x)) (I : InstM μ x c dx fs) (hl : fs.lookup name = none)
    (he : EvPs C k env es cp ρ μ ts) (h3 : CallM C k μ1 (.ref f) (.adr x :: ts) Φ1) (hΦ : ∀ t μ1', Φ1 t μ1' → Φ t (μ1' ++ μ2)) (hs : ∀ e ∈ es, isStarred e = false := by intro e he; revert e; simp [isStarred]) (hline : (ap.endLine == cp.line) = true := by rfl)
    (hform : methodCallForm (es.length + ([] : List Keyword).length) (backTo cp (starEach es env)) (backToKw cp (keywordEach [] env)) = true := by rfl) : Ev C k env (.Call (.Attribute (.Name n np) name ap) es [] cp) ρ μ Φ := fun A P s Q hA hS hQ => by
  have hb : attributeBase (.Name n np) name env (eval (.Name n np) env) = eval (.Name n np) env := rfl
  rw [arm_eval_Call, hb]
  refine wpAny_bind (hn A P s _ hA hS fun v P1 h1 tk1 st1 r1 => ?_)
  cases r1
  have S1 := hS.step st1
  obtain ⟨fes, m, J, _, fr⟩ := I.at S1.me
  refine wpAny_bind (wpAny_standAt ?_)
  have hpos : methodCallPos true (.Name n np) env ap cp = pure cp := by unfold methodCallPos; simp [hline]
  unfold methodCall
  rw [hform]
  refine wpAny_bind (wpAny_holding (method_fn (s := { s with heap := h1, toks := tk1 }) S1.gd.frag J (plainGet_of X.get).1 (plainGet_of X.get).2 Me.find (beq_iff_eq.mp Me.fn) (by show (lookIn name (dictOf fes m)).map _ = _; rw [lookIn_dict, fld_none fr hl]; rfl) ?_))
  refine wpAny_bind (wpAny_of_eq hpos ?_)
  obtain ⟨o, fd, ho, hd⟩ := hf
  refine callWith_function (o := o) (fd := fd) (evalArgs_ev hs (he A P1 _ _ hA S1 fun vs P2 h2 tk2 st2 r2 => ?_))
  have S2 := S1.step st2
  refine ⟨⟨S2.gd.top _ _ ho, hd⟩, ?_⟩
  exact h3.wp A P2 _ _ _ hA S2.gd (S2.me.perm pm).left (.cons .adr r2) fun v P3 h3 tk3 t μ1' hp w M' xx r => by
    obtain ⟨S3, w3, x3⟩ := S2.frame pm w M' xx
    exact hQ v P3 h3 tk3 _ ⟨t, r, hΦ _ _ hp⟩ ((st1.trans st2).toW.trans w3 fun _ => .inl) S3 fun a ha => (x3 a ha).imp id (none_back (st1.trans st2).keep)

/-- an object made -/
theorem Ev.make {fx : Str} {fp p : Pos} {e : Expr} {es : List Expr} {fI : Addr} {ts : List T} {Φ1 : Addr → Addr → T → Mem → Prop} (X : PlainCls C c flds) (hg : C.mg fx = some (.ref c)) (Me : Meth C c "__init__" fI) (he : EvPs C (k + 1) env (e :: es) p ρ μ ts)
    (h3 : ∀ x dx, CallM C k [(x, .raw (instObj c dx)), (dx, .flds [])] (.ref fI) (.adr x :: ts) (Φ1 x dx)) (hΦ : ∀ x dx t μ1', Φ1 x dx t μ1' → t = .none ∧ Φ (.adr x) (μ1' ++ μ))
    (hl : env.kindOf fx = some .globalImplicit := by rfl) (hx : (fx == ("__debug__" : Str)) = false := by decide) (hse : starEach (e :: es) env = (false, eval e env) :: starEach es env := by rfl) (hpl : (backTo p (starEach es env)).any (·.1) = false := by rfl) :
    Ev C (k + 1) env (.Call (.Name fx fp) (e :: es) [] p) ρ μ Φ := fun A P s Q hA hS hQ =>
  wpAny_Call_NameR (Tr.glob (k := k + 1) hl hg hx A P s _ hA hS fun fv P1 h1 tk1 st1 ef => by
    subst ef
    have S1 := hS.step st1
    refine callWith_K (K := C.K) (h₀ := h1) S1.gd.frag X.kp (he A P1 _ _ hA S1 fun vs P2 h2 tk2 st2 r2 => ?_) hse hpl
    have S2 := S1.step st2
    refine ⟨S2.gd.frag, wpAny_call ?_⟩
    have n1 : h2.get? h2.objs.size = none := Heap.get?_none_of_le (Nat.le_refl _)
    have S3 := S2.own (h' := h2.push emptyDict) (a := h2.objs.size) (o := .flds []) (fun b o q => Heap.get?_push_of_some _ q) n1 ⟨[], 0, Heap.get?_push_size _ rfl, trivial⟩
    have sz : (h2.push emptyDict).objs.size = h2.objs.size + 1 := Heap.size_push ..
    have n2 : (h2.push emptyDict).get? (h2.objs.size + 1) = none := Heap.get?_none_of_le (by rw [sz]; exact Nat.le_refl _)
    have S4 := S3.own (h' := (h2.push emptyDict).push (instObj c h2.objs.size)) (a := h2.objs.size + 1) (o := .raw (instObj c h2.objs.size)) (fun b o q => Heap.get?_push_of_some _ q) n2 (by show _ = _; rw [← sz]; exact Heap.get?_push_size _ rfl)
    have kp : ∀ b o, h2.get? b = some o → ((h2.push emptyDict).push (instObj c h2.objs.size)).get? b = some o := fun b o q => Heap.get?_push_of_some _ (Heap.get?_push_of_some _ q)
    refine make_core (makes_of S2.gd.frag X.mkI) (looks_findIn S2.gd.frag Me.find) (fun self => bind_fn S2.gd.frag self (beq_iff_eq.mp Me.fn)) (.inl rfl) ?_
    have hA' : Room k (A.under (.builtin "type.__call__" ⟨.ref c :: vs, []⟩)) := by
      refine ⟨hA.h, ?_, ?_⟩
      · have := hA.d; show A.depth + 1 + k < _; omega
      · have := hA.u; show A.units + 1 + 20 * k + 100 < _; omega
    have pm : ((h2.objs.size + 1, MObj.raw (instObj c h2.objs.size)) :: (h2.objs.size, MObj.flds []) :: μ).Perm ([(h2.objs.size + 1, .raw (instObj c h2.objs.size)), (h2.objs.size, .flds [])] ++ μ) := .refl _
    have lg : PStep P2 h2 P2 ((h2.push emptyDict).push (instObj c h2.objs.size)) := .grow S2.gd.s kp
    refine h3 (h2.objs.size + 1) h2.objs.size _ P2 ⟨(h2.push emptyDict).push (instObj c h2.objs.size), _, _, _, _⟩ _ _ hA' S4.gd (S4.me.perm pm).left (.cons .adr r2) fun v P5 h5 tk5 t μ1' hp w M' xx r => ?_
    obtain ⟨et, hp2⟩ := hΦ _ _ _ _ hp
    subst et
    cases r
    obtain ⟨S5, w5, x5⟩ := S4.frame pm w M' xx
    have st := (st1.trans st2).trans lg
    have back : ∀ b, b ∈ (((h2.objs.size + 1, MObj.raw (instObj c h2.objs.size)) :: (h2.objs.size, MObj.flds []) :: μ).map (·.1)) → b ∈ μ.map (·.1) ∨ s.heap.get? b = none := fun b q => by
      rcases List.mem_cons.mp q with rfl | q
      · exact .inr (none_back (st1.trans st2).keep (Heap.get?_none_of_le (Nat.le_succ _)))
      · rcases List.mem_cons.mp q with rfl | q
        · exact .inr (none_back (st1.trans st2).keep n1)
        · exact .inl q
    exact ⟨rfl, hQ _ P5 h5 tk5 _ ⟨_, .adr, hp2⟩ (st.toW.trans w5 back) S5 fun a ha => by
      rcases x5 a ha with q | q
      · exact back a q
      · exact .inr (none_back st.keep q)⟩)
end
end Mine

namespace Mine
noncomputable def nthS : List Stmt → Nat → Stmt
  | [], _ => .Pass default
  | s :: _, 0 => s
  | _ :: r, n + 1 => nthS r n
noncomputable def fnBody : Stmt → List Stmt
  | .FunctionDef _ _ b .. => b
  | .ClassDef _ _ _ b .. => b
  | _ => []
noncomputable def fnArgs : Stmt → Arguments
  | .FunctionDef _ a .. => a
  | _ => default
noncomputable def fnScope : Stmt → Scope
  | .FunctionDef _ _ _ _ _ _ s .. => s
  | _ => default
noncomputable def topS (i : Nat) : Stmt := nthS PySem.Challenge.pw_np0032_01.main.body i
structure FX where
  name : Str
  qual : Str
  doc : Value
  pm : Value
  an : Option Addr
  cdv : Value
  ct : Value
noncomputable abbrev mkFd (st : Stmt) (x : FX) : FuncData := fnOf x.name x.qual (fnArgs st) (fnBody st) (fnScope st) .none .none x.doc x.pm x.an x.cdv x.ct
theorem sc5 : ScopeOK (fnScope (topS 5)) ["old", "new"] := ⟨by rfl, by decide +kernel, by decide +kernel, by decide +kernel, by decide +kernel, by rfl, by rfl, by rfl⟩
set_option maxRecDepth 100000 in
theorem bind5 (x : FX) : ∀ vs : List Value, vs.length = 2 → bindArgs (mkFd (topS 5) x) ⟨vs, []⟩ = pure ((["old", "new"] : List Str).zip vs)
  | [a, b], _ => by rfl


section
variable {C : Cfg} {k : Nat} {env : Env} {ρ : List (Option T)} {μ : Mem}
theorem EvP.loc {x : Str} {p : Pos} {t : T} (i : Nat) (hi : env.scope.names[i]? = some (x, NameKind.local) := by rfl) (hr : ρ[i]? = some (some t) := by rfl)
    (hx : (x == ("__debug__" : Str)) = false := by decide) (hy : (x == ("__classdict__" : Str)) = false := by decide) : EvP C k env (.Name x p) ρ μ t := EvP.name hi (.inl rfl) hr hx hy
theorem EvP.one {e : Expr} {p : Pos} {t : T} (h : EvP C k env e ρ μ t) (hs : starEach [e] env = [(false, eval e env)] := by rfl) : EvPs C k env [e] p ρ μ [t] := .cons h .nil hs
theorem EvP.two {e e' : Expr} {p : Pos} {t t' : T} (h : EvP C k env e ρ μ t) (h' : EvP C k env e' ρ μ t') (hs : starEach [e, e'] env = [(false, eval e env), (false, eval e' env)] := by rfl) (hs' : starEach [e'] env = [(false, eval e' env)] := by rfl) : EvPs C k env [e, e'] p ρ μ [t, t'] := .cons h (.cons h' .nil hs') (by rw [hs, hs'])
theorem EvP.neg1 {j : Nat} {p p' : Pos} {i : Int} : EvP C k env (.UnaryOp .USub (.Constant (.int i) j p) p') ρ μ (.int (-i)) := .un .int (fun A P s v Q hA hG hM r1 hQ => by cases r1; exact neg_int (hQ _ P _ _ (.refl hG.s) .int))
/-- built-ins as the top has them -/
structure Bt (C : Cfg) : Prop where
  range : C.mg "range" = none ∧ C.mb "range" = some (.type "range")
  len : C.mg "len" = none ∧ C.mb "len" = some (.builtin "len")
  max : C.mg "max" = none ∧ C.mb "max" = some (.builtin "max")
  tuple : C.mg "tuple" = none ∧ C.mb "tuple" = some (.type "tuple")
  list : C.mg "list" = none ∧ C.mb "list" = some (.type "list")
  int : C.mg "int" = none ∧ C.mb "int" = some (.type "int")
  enumerate : C.mg "enumerate" = none ∧ C.mb "enumerate" = some (.type "enumerate")
  zip : C.mg "zip" = none ∧ C.mb "zip" = some (.type "zip")
  sum : C.mg "sum" = none ∧ C.mb "sum" = some (.builtin "sum")
  abs : C.mg "abs" = none ∧ C.mb "abs" = some (.builtin "abs")
theorem Tr.bt {x : Str} {p : Pos} {v : Value} (h : C.mg x = none ∧ C.mb x = some v) (hl : env.kindOf x = some .globalImplicit := by rfl) (hx : (x == ("__debug__" : Str)) = false := by decide) : Tr C k env (eval (.Name x p) env) ρ μ fun _ u => u = v := Tr.built hl h.1 h.2 hx
/-- a call of one built-in or def on plain arguments -/
theorem EvP.callB {fx : Str} {fp p : Pos} {es : List Expr} {f : Value} {ts : List T} {t : T} (h : C.mg fx = Option.none ∧ C.mb fx = Option.some f) (hc : Callee C f) (he : EvPs C k env es p ρ μ ts) (h3 : CallOp C k μ f ts t)
    (hl : env.kindOf fx = some .globalImplicit := by rfl) (hx : (fx == ("__debug__" : Str)) = false := by decide) (hs : ∀ e ∈ es, isStarred e = false := by intro e he; revert e; simp [isStarred]) : EvP C k env (.Call (.Name fx fp) es [] p) ρ μ t := EvP.call (Tr.built hl h.1 h.2 hx) hc hs he h3
theorem EvP.callF {fx : Str} {fp p : Pos} {es : List Expr} {f : Value} {ts : List T} {t : T} (h : C.mg fx = some f) (hc : Callee C f) (he : EvPs C k env es p ρ μ ts) (h3 : CallOp C k μ f ts t)
    (hl : env.kindOf fx = some .globalImplicit := by rfl) (hx : (fx == ("__debug__" : Str)) = false := by decide) (hs : ∀ e ∈ es, isStarred e = false := by intro e he; revert e; simp [isStarred]) : EvP C k env (.Call (.Name fx fp) es [] p) ρ μ t := EvP.call (Tr.glob hl h hx) hc hs he h3
end
end Mine

set_option maxRecDepth 100000
namespace Mine
noncomputable abbrev Cell := Int × Int
noncomputable def ec (c : Cell) : T := .tup [.int c.1, .int c.2]
noncomputable def er (r : List Cell) : T := .lst (r.map ec)
theorem ec_ok (c : Cell) (n : Nat) : kqdOk (n + 1) (ec c).toD = true := by simp [ec, T.toD, toDs, kqdOk]
theorem ec_inj {c d : Cell} : ec c = ec d ↔ c = d := by
  constructor
  · intro h; simp [ec] at h; exact Prod.ext h.1 h.2
  · intro h; rw [h]

noncomputable def lastU (o n : List Cell) : Nat → Nat
  | 0 => 0
  | p + 1 => if o.getD p default ≠ n.getD p default then p + 1 else lastU o n p

theorem len_row {C : Cfg} {k : Nat} {μ : Mem} {r : List Cell} (h : r.length < 1000) : CallOp C k μ (.builtin "len") [er r] (.int r.length) := by
  have := len_list (C := C) (k := k) (μ := μ) (ts := r.map ec) .frozen (by simp; omega)
  rw [List.length_map] at this; exact this
theorem sub_row {C : Cfg} {k : Nat} {μ : Mem} {v i : Expr} {r : List Cell} {n : Int} {j : Nat} (hn : n = j) (h : j < r.length) (hz : r.length < 1000) : SubOp C k μ v i (er r) (.int n) (ec (r.getD j default)) := by
  subst hn
  exact sub_list .frozen (by omega) (by omega) (by simp [h])
theorem ne_cell {C : Cfg} {k : Nat} {μ : Mem} {c d : Cell} : Op2 C k μ (compareOp .NotEq) (ec c) (ec d) fun _ v => v = .bool (decide (c ≠ d)) :=
  op_ne (ec_ok c 8) (ec_ok d 8) (by simp [ec_inj])

section
variable {C : Cfg} {f : Addr} {x : FX}
theorem last_ok (B : Bt C) (F : FnC C f (mkFd (topS 5) x) (fnBody (topS 5)) ["old", "new"]) (o n : List Cell) (hl : n.length ≤ o.length) (hz : o.length < 1000) :
    CallM C 1 [] (.ref f) [er o, er n] fun t _ => t = .int (lastU o n n.length) := by
  refine call_body 1 F rfl fun L => ?_
  refine Ex.cons (Ex1.loop (fun j ρ μ => μ = [] ∧ (∃ y, ρ = [some (er o), some (er n), y]) ∧ lastU o n (n.length - j) = lastU o n n.length)
    (IterOK.rangeDown (n := n.length) (Tr.bt B.range) ⟨rfl, rfl, rfl⟩
      (.cons (EvP.callB B.len .builtin (EvP.one (EvP.loc 1)) (len_row (by omega))) (EvP.two .int .neg1) rfl) (by omega) (by omega))
    (fun i hi => TgtH.name (i := 2) (kd := .local) rfl (.inl rfl)) ⟨rfl, ⟨_, rfl⟩, by simp⟩ ?_ ?_ (by intro _; rfl))
  · rintro i ρ' μ' hi ⟨rfl, ⟨y, rfl⟩, hI⟩
    have hi' : i < n.length := by simpa using hi
    obtain ⟨p, hp⟩ : ∃ p, n.length - i = p + 1 := ⟨n.length - i - 1, by omega⟩
    rw [hp, lastU] at hI
    have hpi : ((n.length : Int) - i) - 1 = (p : Int) := by omega
    refine Ex.cons (Ex1.ite (EvB.cmp (EvP.sub (EvP.loc 0) (EvP.bin (EvP.loc 2) .int op_sub) (sub_row hpi (by omega) hz)) (EvP.sub (EvP.loc 1) (EvP.bin (EvP.loc 2) .int op_sub) (sub_row hpi (by omega) (by omega))) ne_cell rfl) ?_ ?_)
    · intro h
      refine Ex.cons (Ex1.ret (EvP.ev (EvP.loc 2) ?_))
      rw [if_pos (by simpa using h)] at hI
      show T.int _ = T.int _
      rw [← hI]; congr 1; omega
    · intro h
      rw [if_neg (by simpa using h)] at hI
      exact Ex.nil (Ex.nil ⟨rfl, ⟨_, rfl⟩, by rw [show n.length - (i + 1) = p by omega]; exact hI⟩)
  · rintro ρ' μ' ⟨rfl, ⟨y, rfl⟩, hI⟩
    refine Ex.cons (Ex1.ret (EvP.ev .int ?_))
    show T.int 0 = T.int _
    simp at hI
    rw [← hI, lastU]; rfl
end
end Mine

namespace Mine

/-- a global name, a value of its own and what is known of it -/
noncomputable def Has (C : Cfg) (name : Str) (spec : Value → Prop) : Prop := ∃ f, C.mg name = some f ∧ Callee C f ∧ spec f
structure Gl (C : Cfg) : Prop extends Bt C where
  empty : ∃ v, C.mg "EMPTY_CELL" = some v ∧ Rep (fun b => C.g0.get? b) v (.tup [.int 32, .int 0])
  move : ∃ t, C.mg "MOVE_COST" = some (.int 4 t)
  clear : ∃ t, C.mg "CLEAR_COST" = some (.int 2 t)
theorem CallM.le {C : Cfg} {k k' : Nat} {μ : Mem} {f : Value} {ts : List T} {Φ : T → Mem → Prop} (h : CallM C k μ f ts Φ) (hk : k ≤ k') : CallM C k' μ f ts Φ := fun A P s vs Q hA => h A P s vs Q (hA.le hk)
theorem CallM.mono {C : Cfg} {k : Nat} {μ : Mem} {f : Value} {ts : List T} {Φ Φ' : T → Mem → Prop} (h : CallM C k μ f ts Φ) (hi : ∀ t μ', Φ t μ' → Φ' t μ') : CallM C k μ f ts Φ' := fun A P s vs Q hA hG hM hr hQ => h A P s vs Q hA hG hM hr fun v P' h' tk t μ' hp => hQ v P' h' tk t μ' (hi _ _ hp)

section
variable {C : Cfg} {k : Nat} {env : Env} {ρ : List (Option T)} {μ : Mem} {Φ : T → Mem → Prop} {Ψ : Out → Prop}
noncomputable def Ecell : Cell := (32, 0)
theorem lt1k {n : Nat} (h : Nat.ble n 1000 = true := by rfl) : n ≤ 1000 := Nat.le_of_ble_eq_true h
theorem EvP.empty {p : Pos} (G : Gl C) (hl : env.kindOf "EMPTY_CELL" = some .globalImplicit := by rfl) : EvP C k env (.Name "EMPTY_CELL" p) ρ μ (ec Ecell) := let ⟨_, a, b⟩ := G.empty; EvP.glob hl a (by decide) b
theorem EvP.moveC {p : Pos} (G : Gl C) (hl : env.kindOf "MOVE_COST" = some .globalImplicit := by rfl) : EvP C k env (.Name "MOVE_COST" p) ρ μ (.int 4) := let ⟨_, a⟩ := G.move; EvP.glob hl a (by decide) .int
theorem EvP.clearC {p : Pos} (G : Gl C) (hl : env.kindOf "CLEAR_COST" = some .globalImplicit := by rfl) : EvP C k env (.Name "CLEAR_COST" p) ρ μ (.int 2) := let ⟨_, a⟩ := G.clear; EvP.glob hl a (by decide) .int
theorem EvP.cel {x : Str} {p : Pos} {t : T} (i : Nat) (hi : env.scope.names[i]? = some (x, NameKind.cell) := by rfl) (hr : ρ[i]? = some (some t) := by rfl)
    (hx : (x == ("__debug__" : Str)) = false := by decide) (hy : (x == ("__classdict__" : Str)) = false := by decide) : EvP C k env (.Name x p) ρ μ t := EvP.name hi (.inr (.inl rfl)) hr hx hy
theorem EvP.none1 {e : Expr} {p : Pos} {t : T} (h : EvPs C k env [e] p ρ μ [t]) : EvPs C k env [e] p ρ μ [t] := h
theorem EvP.three {e e' e'' : Expr} {p : Pos} {t t' t'' : T} (h : EvP C k env e ρ μ t) (h' : EvP C k env e' ρ μ t') (h'' : EvP C k env e'' ρ μ t'') (hs : starEach [e, e', e''] env = [(false, eval e env), (false, eval e' env), (false, eval e'' env)] := by rfl) (hs' : starEach [e', e''] env = [(false, eval e' env), (false, eval e'' env)] := by rfl) (hs'' : starEach [e''] env = [(false, eval e'' env)] := by rfl) : EvPs C k env [e, e', e''] p ρ μ [t, t', t''] := .cons h (EvP.two h' h'' hs' hs'') (by rw [hs, hs'])
theorem EvP.four {e e' e'' e3 : Expr} {p : Pos} {t t' t'' t3 : T} (h : EvP C k env e ρ μ t) (h' : EvP C k env e' ρ μ t') (h'' : EvP C k env e'' ρ μ t'') (h3 : EvP C k env e3 ρ μ t3) (hs : starEach [e, e', e'', e3] env = (false, eval e env) :: starEach [e', e'', e3] env := by rfl) (hs1 : starEach [e', e'', e3] env = [(false, eval e' env), (false, eval e'' env), (false, eval e3 env)] := by rfl) (hs' : starEach [e'', e3] env = [(false, eval e'' env), (false, eval e3 env)] := by rfl) (hs'' : starEach [e3] env = [(false, eval e3 env)] := by rfl) : EvPs C k env [e, e', e'', e3] p ρ μ [t, t', t'', t3] := .cons h (EvP.three h' h'' h3 hs1 hs' hs'') hs
/-- a call of a def of the text, on plain arguments -/
theorem EvP.callH {fx : Str} {fp p : Pos} {es : List Expr} {ts : List T} {t : T} {spec : Value → Prop} (H : Has C fx spec) (he : EvPs C k env es p ρ μ ts) (h3 : ∀ f, spec f → CallM C k [] f ts fun t' _ => t' = t)
    (hs : ∀ e ∈ es, isStarred e = false) (hl : env.kindOf fx = some .globalImplicit := by rfl) (hx : (fx == ("__debug__" : Str)) = false := by decide) : EvP C k env (.Call (.Name fx fp) es [] p) ρ μ t :=
  let ⟨_, a, b, c⟩ := H
  EvP.call (Tr.glob hl a hx) b hs he (h3 _ c).pure
theorem Ev.callH {fx : Str} {fp p : Pos} {es : List Expr} {ts : List T} {spec : Value → Prop} {Φ1 : T → Mem → Prop} (μ1 μ2 : Mem) (pm : μ.Perm (μ1 ++ μ2)) (H : Has C fx spec) (he : EvPs C k env es p ρ μ ts) (h3 : ∀ f, spec f → CallM C k μ1 f ts Φ1) (hΦ : ∀ t μ1', Φ1 t μ1' → Φ t (μ1' ++ μ2))
    (hs : ∀ e ∈ es, isStarred e = false) (hl : env.kindOf fx = some .globalImplicit := by rfl) (hx : (fx == ("__debug__" : Str)) = false := by decide) : Ev C k env (.Call (.Name fx fp) es [] p) ρ μ Φ :=
  let ⟨_, a, b, c⟩ := H
  Ev.call μ1 μ2 pm (Tr.glob hl a hx) b hs he (h3 _ c) hΦ
theorem nostar1 {e : Expr} (h : isStarred e = false := by rfl) : ∀ x ∈ [e], isStarred x = false := fun x hx => by rw [List.mem_singleton.mp hx]; exact h
theorem nostar2 {e e' : Expr} (h : isStarred e = false := by rfl) (h' : isStarred e' = false := by rfl) : ∀ x ∈ [e, e'], isStarred x = false := fun x hx => (List.mem_cons.mp hx).elim (fun q => q ▸ h) (nostar1 h' x)
theorem nostar3 {e e' e'' : Expr} (h : isStarred e = false := by rfl) (h' : isStarred e' = false := by rfl) (h'' : isStarred e'' = false := by rfl) : ∀ x ∈ [e, e', e''], isStarred x = false := fun x hx => (List.mem_cons.mp hx).elim (fun q => q ▸ h) (nostar2 h' h'' x)
theorem nostarB {es : List Expr} (h : (es.all fun e => !isStarred e) = true := by rfl) : ∀ x ∈ es, isStarred x = false := fun x hx => by simpa using List.all_eq_true.mp h x hx
theorem Ev.sub {v i : Expr} {p : Pos} (h1 : Ev C k env v ρ μ fun a μ1 => Ev C k env i ρ μ1 fun b μ2 => ∃ t, SubOp C k μ2 v i a b t ∧ Φ t μ2) : Ev C k env (.Subscript v i p) ρ μ Φ := fun A P s Q hA hS hQ =>
  Subscript_ (h1 A P s _ hA hS fun v P1 h1 tk1 μ1 ⟨a, r1, hr⟩ w1 S1 x1 => hr A P1 _ _ hA S1 fun w P2 h2 tk2 μ2 ⟨b, r2, t, ho, hp⟩ w2 S2 x2 =>
    ho A P2 _ _ _ _ hA S2.gd S2.me (r1.mono w2.le) r2 fun u P3 h3 tk3 st3 r3 => hQ u P3 h3 tk3 μ2 ⟨t, r3, hp⟩ ((w1.trans w2 x1).trans st3.toW fun _ => .inl) (S2.step st3) (x1.trans' w1 (fun _ => .inl) x2))
end

theorem op_gtN {C : Cfg} {k : Nat} {μ : Mem} {a b : Nat} : Op2 C k μ (compareOp .Gt) (.int a) (.int b) fun _ v => v = .bool (decide (b < a)) := by
  have h := op_gt (C := C) (k := k) (μ := μ) (a := (a : Int)) (b := (b : Int))
  rwa [decide_eq_decide.mpr Int.ofNat_lt] at h
/-! rows and orders -/
theorem pick_mid {α : Type} (f : α → T) (l : List α) {b e : Nat} (hb : b ≤ l.length) (he : e ≤ l.length) : pickT (l.map f) (some (b : Int)) (some (e : Int)) = ((l.drop b).take (e - b)).map f := by
  unfold pickT kms_lo kms_hi
  simp only [List.length_map, Int.toNat_natCast]
  rw [if_neg (by omega), if_neg (by omega), Nat.min_eq_left hb, Nat.min_eq_left he, List.map_take, List.map_drop]
theorem pick_to {α : Type} (f : α → T) (l : List α) {e : Nat} (he : e ≤ l.length) : pickT (l.map f) none (some (e : Int)) = (l.take e).map f := by
  unfold pickT kms_lo kms_hi
  simp only [List.length_map, Int.toNat_natCast, List.drop_zero, Nat.sub_zero]
  rw [if_neg (by omega), Nat.min_eq_left he, List.map_take]
theorem pick_from {α : Type} (f : α → T) (l : List α) {b : Nat} (hb : b ≤ l.length) : pickT (l.map f) (some (b : Int)) none = (l.drop b).map f := by
  unfold pickT kms_lo kms_hi
  simp only [List.length_map, Int.toNat_natCast]
  rw [if_neg (by omega), Nat.min_eq_left hb, ← List.map_drop, ← List.map_take, List.take_of_length_le (by simp)]

inductive Ord where
  | write (row col : Nat) (cells : List Cell) | clear (row col : Nat) | insert (row many bottom : Nat) | delete (row many bottom : Nat) | cursor (r c : Int)
noncomputable def eo : Ord → T
  | .write r c cs => .tup [.str "write", .int r, .int c, .tup (cs.map ec)]
  | .clear r c => .tup [.str "clear", .int r, .int c]
  | .insert r m b => .tup [.str "insert", .int r, .int m, .int b]
  | .delete r m b => .tup [.str "delete", .int r, .int m, .int b]
  | .cursor r c => .tup [.str "cursor", .int r, .int c]
noncomputable def firstU (o n : List Cell) (i : Nat) : Nat → Nat
  | 0 => i
  | k + 1 => if o.getD i default ≠ n.getD i default then i else firstU o n (i + 1) k
noncomputable def textE (r : List Cell) : Nat → Nat
  | 0 => 0
  | p + 1 => if r.getD p default ≠ Ecell then p + 1 else textE r p
theorem firstU_le (o n : List Cell) : ∀ k i, firstU o n i k ≤ i + k
  | 0, i => Nat.le_refl _
  | k + 1, i => by
    unfold firstU
    split
    · omega
    · have := firstU_le o n k (i + 1); omega
theorem lastU_le (o n : List Cell) : ∀ k, lastU o n k ≤ k
  | 0 => Nat.le_refl _
  | k + 1 => by
    unfold lastU
    split
    · exact Nat.le_refl _
    · exact Nat.le_succ_of_le (lastU_le o n k)
theorem textE_le (r : List Cell) : ∀ k, textE r k ≤ k
  | 0 => Nat.le_refl _
  | k + 1 => by
    unfold textE
    split
    · exact Nat.le_refl _
    · exact Nat.le_succ_of_le (textE_le r k)
noncomputable def mid (n : List Cell) (b e : Nat) : List Cell := (n.drop b).take (e - b)
noncomputable def rowOrders (num : Nat) (o n : List Cell) : List Ord :=
  let b := firstU o n 0 n.length
  let e := lastU o n n.length
  if e ≤ b then [] else
    let z := max b (textE n n.length)
    if e ≤ z + 2 then [.write num b (mid n b e)] else (if b < z then [.write num b (mid n b z)] else []) ++ [.clear num z]
noncomputable def ordCost : Ord → Nat
  | .write _ _ cs => 1 + cs.length
  | _ => 2
noncomputable def rowCost (o n : List Cell) : Nat := ((rowOrders 0 o n).map ordCost).sum
end Mine

namespace Mine
section
variable {C : Cfg} {f : Addr} {x : FX}
theorem len_rowE {C : Cfg} {k : Nat} {env : Env} {ρ : List (Option T)} {μ : Mem} {fp np p : Pos} {nm : Str} {r : List Cell} (B : Bt C) (h : EvP C k env (.Name nm np) ρ μ (er r)) (hz : r.length < 1000) (hl : env.kindOf "len" = some .globalImplicit := by rfl) : EvP C k env (.Call (.Name "len" fp) [.Name nm np] [] p) ρ μ (.int r.length) :=
  EvP.callB B.len .builtin (EvP.one h) (len_row hz) hl (by decide) nostar1
theorem first_ok (B : Gl C) (F : FnC C f (mkFd (topS 6) x) (fnBody (topS 6)) ["old", "new"]) (o n : List Cell) (hl : n.length ≤ o.length) (hz : o.length < 1000) :
    CallM C 1 [] (.ref f) [er o, er n] fun t _ => t = .int (firstU o n 0 n.length) := by
  have hn : n.length < 1000 := Nat.lt_of_le_of_lt hl hz
  refine call_body 1 F rfl fun L => ?_
  refine Ex.cons (Ex1.loop (fun j ρ μ => μ = [] ∧ (∃ y, ρ = [some (er o), some (er n), y]) ∧ firstU o n j (n.length - j) = firstU o n 0 n.length)
    (IterOK.range (n := (n.length : Int)) (Tr.bt B.range) rfl (EvP.one (len_rowE B.toBt (EvP.loc 1) hn)) (Int.natCast_nonneg _) (by omega))
    (fun i hi => TgtH.name (i := 2) (kd := .local) rfl (.inl rfl)) ⟨rfl, ⟨_, rfl⟩, rfl⟩ ?_ ?_ (by intro _; rfl))
  · rintro i ρ' μ' hi ⟨rfl, ⟨y, rfl⟩, hI⟩
    have hi' : i < n.length := hi
    obtain ⟨p, hp⟩ : ∃ p, n.length - i = p + 1 := ⟨n.length - i - 1, by omega⟩
    rw [hp, firstU] at hI
    refine Ex.cons (Ex1.ite (EvB.cmp (EvP.sub (EvP.loc 0) (EvP.loc 2) (sub_row rfl (Nat.lt_of_lt_of_le hi' hl) hz)) (EvP.sub (EvP.loc 1) (EvP.loc 2) (sub_row rfl hi' hn)) ne_cell rfl) ?_ ?_)
    · intro h
      rw [if_pos (of_decide_eq_true h)] at hI
      exact Ex.cons (Ex1.ret (EvP.ev (EvP.loc 2) (congrArg (fun n : Nat => T.int n) hI)))
    · intro h
      rw [if_neg (of_decide_eq_false h)] at hI
      exact Ex.nil (Ex.nil ⟨rfl, ⟨_, rfl⟩, by rw [show n.length - (i + 1) = p by omega]; exact hI⟩)
  · rintro ρ' μ' ⟨rfl, ⟨y, rfl⟩, hI⟩
    rw [show n.length - Int.toNat n.length = 0 from Nat.sub_self _] at hI
    exact Ex.cons (Ex1.ret (EvP.ev (len_rowE B.toBt (EvP.loc 1) hn) (congrArg (fun n : Nat => T.int n) hI)))
theorem ec_empty : T.tup [.int 32, .int 0] = ec Ecell := rfl
theorem text_ok (B : Gl C) (F : FnC C f (mkFd (topS 7) x) (fnBody (topS 7)) ["row"]) (r : List Cell) (hz : r.length < 1000) :
    CallM C 1 [] (.ref f) [er r] fun t _ => t = .int (textE r r.length) := by
  refine call_body 1 F rfl fun L => ?_
  refine Ex.cons (Ex1.loop (fun j ρ μ => μ = [] ∧ (∃ y, ρ = [some (er r), y]) ∧ textE r (r.length - j) = textE r r.length)
    (IterOK.rangeDown (n := r.length) (Tr.bt B.range) ⟨rfl, rfl, rfl⟩
      (.cons (len_rowE B.toBt (EvP.loc 0) hz) (EvP.two .int .neg1) rfl) (Int.natCast_nonneg _) (by omega))
    (fun i hi => TgtH.name (i := 1) (kd := .local) rfl (.inl rfl)) ⟨rfl, ⟨_, rfl⟩, rfl⟩ ?_ ?_ (by intro _; rfl))
  · rintro i ρ' μ' hi ⟨rfl, ⟨y, rfl⟩, hI⟩
    have hi' : i < r.length := hi
    obtain ⟨p, hp⟩ : ∃ p, r.length - i = p + 1 := ⟨r.length - i - 1, by omega⟩
    rw [hp, textE] at hI
    have hpi : ((r.length : Int) - i) - 1 = (p : Int) := by omega
    have hp1 : ((r.length : Int) - i) = ((p + 1 : Nat) : Int) := by omega
    refine Ex.cons (Ex1.ite (EvB.cmp (EvP.sub (EvP.loc 0) (EvP.bin (EvP.loc 1) .int op_sub) (sub_row hpi (by omega) hz)) (EvP.empty B) ne_cell rfl) ?_ ?_)
    · intro h
      rw [if_pos (of_decide_eq_true h)] at hI
      exact Ex.cons (Ex1.ret (EvP.ev (EvP.loc 1) (by show T.int _ = T.int _; rw [← hI, hp1])))
    · intro h
      rw [if_neg (of_decide_eq_false h)] at hI
      exact Ex.nil (Ex.nil ⟨rfl, ⟨_, rfl⟩, by rw [show r.length - (i + 1) = p by omega]; exact hI⟩)
  · rintro ρ' μ' ⟨rfl, ⟨y, rfl⟩, hI⟩
    rw [show r.length - Int.toNat r.length = 0 from Nat.sub_self _] at hI
    exact Ex.cons (Ex1.ret (EvP.ev .int (congrArg (fun n : Nat => T.int n) hI)))

/-- the three looks at rows, as the text calls them -/
structure Looks3 (C : Cfg) : Prop where
  first : Has C "first_unlike" fun f => ∀ o n : List Cell, n.length ≤ o.length → o.length < 1000 → CallM C 1 [] f [er o, er n] fun t _ => t = .int (firstU o n 0 n.length)
  last : Has C "last_unlike" fun f => ∀ o n : List Cell, n.length ≤ o.length → o.length < 1000 → CallM C 1 [] f [er o, er n] fun t _ => t = .int (lastU o n n.length)
  text : Has C "text_end" fun f => ∀ r : List Cell, r.length < 1000 → CallM C 1 [] f [er r] fun t _ => t = .int (textE r r.length)
theorem sliceT {C : Cfg} {k : Nat} {env : Env} {ρ : List (Option T)} {μ : Mem} {fp np sp p q : Pos} {nm : Str} {e1 e2 : Expr} {r : List Cell} {b e : Nat} (B : Bt C) (h : EvP C k env (.Name nm np) ρ μ (er r)) (h1 : EvP C k env e1 ρ μ (.int b)) (h2 : EvP C k env e2 ρ μ (.int e)) (hz : r.length < 1000) (hb : b ≤ r.length) (he : e ≤ r.length) (hl : env.kindOf "tuple" = some .globalImplicit := by rfl) :
    EvP C k env (.Call (.Name "tuple" fp) [.Subscript (.Name nm np) (.Slice (some e1) (some e2) none sp) q] [] p) ρ μ (.tup ((mid r b e).map ec)) := by
  have hs := EvP.slice (p := sp) (p' := q) h .frozen (.some h1) (.some h2) (by simp; omega)
  rw [pick_mid _ _ hb he] at hs
  exact EvP.callB B.tuple .type (EvP.one hs) (tuple_list .frozen (by simp [mid]; omega)) hl (by decide) nostar1
theorem row_orders_ok (B : Gl C) (X : Looks3 C) (F : FnC C f (mkFd (topS 8) x) (fnBody (topS 8)) ["number", "old", "new"]) (num : Nat) (o n : List Cell) (hl : n.length ≤ o.length) (hz : o.length < 1000) :
    CallM C 2 [] (.ref f) [.int num, er o, er n] fun t _ => t = .lst ((rowOrders num o n).map eo) := by
  have hn : n.length < 1000 := Nat.lt_of_le_of_lt hl hz
  have bl : firstU o n 0 n.length ≤ n.length := by have := firstU_le o n n.length 0; omega
  have el : lastU o n n.length ≤ n.length := lastU_le o n n.length
  have tl : textE n n.length ≤ n.length := textE_le n n.length
  unfold rowOrders
  generalize hb : firstU o n 0 n.length = b at bl
  generalize he : lastU o n n.length = e at el
  generalize ht : textE n n.length = z at tl
  refine call_body 4 F rfl fun L => ?_
  refine Ex.cons (Ex1.assignSwap (ns := ["begin", "end"]) (ts := [.int b, .int e]) (f := fun ρ => (ρ.set 4 (some (.int e))).set 3 (some (.int b)))
    (EvP.ev (EvP.tuple (EvP.two (EvP.callH X.first (EvP.two (EvP.loc 1) (EvP.loc 2)) (fun f s => hb ▸ s o n hl hz) nostar2) (EvP.callH X.last (EvP.two (EvP.loc 1) (EvP.loc 2)) (fun f s => he ▸ s o n hl hz) nostar2)) lt1k) ⟨rfl, ?_⟩)
    (.cons (Tgt.bind (i := 4) (kd := .local) rfl (.inl rfl)) (.cons (Tgt.bind (i := 3) (kd := .local) rfl (.inl rfl)) .nil)) rfl (by rfl) (by rfl))
  refine Ex.cons (Ex1.ite (EvB.cmp (EvP.loc 3) (EvP.loc 4) op_ge rfl) ?_ ?_)
  · intro h
    have h : e ≤ b := by simpa using h
    exact Ex.cons (Ex1.ret (EvP.ev (EvP.list .nil lt1k) (by show _ = _; rw [if_pos h]; rfl)))
  · intro h
    have h : ¬ e ≤ b := by simpa using h
    refine Ex.nil ?_
    have mx : max (b : Int) (z : Int) = ((max b z : Nat) : Int) := by omega
    have ml : max b z ≤ n.length := Nat.max_le.mpr ⟨bl, tl⟩
    refine Ex.cons (Ex1.assign (i := 5) (EvP.ev (EvP.callB B.max .builtin (EvP.two (EvP.loc 3) (EvP.callH X.text (EvP.one (EvP.loc 2)) (fun f s => ht ▸ s n hn) nostar1)) max_ints rfl (by decide) nostar2) ?_) rfl (.inl rfl) (by rfl))
    rw [mx]
    refine Ex.cons (Ex1.ite (EvB.cmp (EvP.bin (EvP.loc 4) (EvP.loc 5) op_sub) (EvP.clearC B) op_le rfl) ?_ ?_)
    · intro h2
      have h2 : e ≤ max b z + 2 := by have := of_decide_eq_true h2; omega
      refine Ex.cons (Ex1.ret (EvP.ev (EvP.list (EvP.one (EvP.tuple (EvP.four .str (EvP.loc 0) (EvP.loc 3) (sliceT B.toBt (EvP.loc 2) (EvP.loc 3) (EvP.loc 4) hn bl el)) lt1k)) lt1k) ?_))
      show _ = _
      rw [if_neg h]
      dsimp only
      rw [if_pos h2]; rfl
    · intro h2
      have h2 : ¬ e ≤ max b z + 2 := by have := of_decide_eq_false h2; omega
      refine Ex.nil ?_
      refine Ex.cons (Ex1.assign (i := 6) (EvP.ev (t := .lst ((if b < max b z then [Ord.write num b (mid n b (max b z))] else []).map eo)) (EvP.ife (c := decide (b < max b z)) (EvB.cmp (c := decide (b < max b z)) (EvP.loc 5) (EvP.loc 3) op_gtN rfl) ?_ ?_) ?_) rfl (.inl rfl) (by rfl))
      · intro h3
        rw [if_pos (of_decide_eq_true h3)]
        exact EvP.list (EvP.one (EvP.tuple (EvP.four .str (EvP.loc 0) (EvP.loc 3) (sliceT B.toBt (EvP.loc 2) (EvP.loc 3) (EvP.loc 5) hn bl ml)) lt1k)) lt1k
      · intro h3
        rw [if_neg (of_decide_eq_false h3)]
        exact EvP.list .nil lt1k
      · refine Ex.cons (Ex1.ret (EvP.ev (EvP.bin (EvP.loc 6) (EvP.list (EvP.one (EvP.tuple (EvP.three .str (EvP.loc 0) (EvP.loc 5)) lt1k)) lt1k) (op_addL .frozen .frozen (by split <;> exact Nat.le_of_ble_eq_true rfl))) ?_))
        show _ = _
        rw [if_neg h]
        dsimp only
        rw [if_neg h2, List.map_append]; rfl
end
end Mine

namespace Mine
noncomputable abbrev Scr := List (List Cell)
noncomputable def es (s : Scr) : T := .lst (s.map er)
/-- all rows of width w -/
noncomputable def Wd (w : Nat) (s : Scr) : Prop := ∀ r ∈ s, r.length = w
inductive Word where | keep | drop | add
deriving DecidableEq
noncomputable def Word.s : Word → Str | .keep => "keep" | .drop => "drop" | .add => "add"
noncomputable def ech (c : Nat × Word) : T := .tup [.int c.1, .str c.2.s]
noncomputable def rowAt (s : Scr) (i : Nat) : List Cell := s.getD i []
noncomputable def choicesOf (D : Nat → Nat → Nat) (old new : Scr) (bl : List Cell) (g m : Nat) : List (Nat × Word) :=
  (if 0 < g ∧ 0 < m then [(D (g - 1) (m - 1) + rowCost (rowAt old (g - 1)) (rowAt new (m - 1)), Word.keep)] else []) ++
  (if 0 < g then [(D (g - 1) m + 4, Word.drop)] else []) ++
  (if 0 < m then [(D g (m - 1) + 4 + rowCost bl (rowAt new (m - 1)), Word.add)] else [])
noncomputable def pickMin (f : Nat × Word) : List (Nat × Word) → Nat × Word
  | [] => f
  | c :: r => pickMin (if c.1 < f.1 then c else f) r
noncomputable def bestOf (cs : List (Nat × Word)) : Nat × Word := pickMin (cs.getD 0 (0, .keep)) (cs.drop 1)
noncomputable def dpF (old new : Scr) (bl : List Cell) : Nat → Nat → Nat → Nat × Word
  | 0, _, _ => (0, .keep)
  | n + 1, g, m => if g + m = 0 then (0, .keep) else bestOf (choicesOf (fun a b => (dpF old new bl n a b).1) old new bl g m)
noncomputable def dp (old new : Scr) (bl : List Cell) (g m : Nat) : Nat × Word := dpF old new bl (g + m) g m
noncomputable def backF (old new : Scr) (bl : List Cell) : Nat → Nat → Nat → List Word
  | 0, _, _ => []
  | n + 1, g, m => if g + m = 0 then [] else
    let w := (dp old new bl g m).2
    w :: backF old new bl n (g - if w = .add then 0 else 1) (m - if w = .drop then 0 else 1)
noncomputable def blankOf (new : Scr) : List Cell := List.replicate (new.getD 0 []).length Ecell
noncomputable def stepsOf (old new : Scr) : List Word := (backF old new (blankOf new) (old.length + new.length) old.length new.length).reverse

theorem choices_congr {D D' : Nat → Nat → Nat} {old new : Scr} {bl : List Cell} {g m : Nat} (h : ∀ a b, a + b < g + m → D a b = D' a b) : choicesOf D old new bl g m = choicesOf D' old new bl g m := by
  unfold choicesOf
  congr 1
  · congr 1
    · split
      · rename_i h'; rw [h _ _ (by omega)]
      · rfl
    · split
      · rename_i h'; rw [h _ _ (by omega)]
      · rfl
  · split
    · rename_i h'; rw [h _ _ (by omega)]
    · rfl
theorem dpF_fuel (old new : Scr) (bl : List Cell) : ∀ n g m, g + m ≤ n → dpF old new bl n g m = dp old new bl g m
  | 0, g, m, h => by
    have : g + m = 0 := by omega
    unfold dp; rw [this]
  | n + 1, g, m, h => by
    by_cases e : g + m = 0
    · unfold dp; rw [e]; unfold dpF; rw [if_pos e]
    · obtain ⟨k, hk⟩ : ∃ k, g + m = k + 1 := ⟨g + m - 1, by omega⟩
      unfold dp
      rw [hk]
      unfold dpF
      rw [if_neg e, if_neg e]
      congr 1
      refine choices_congr fun a b hab => ?_
      rw [dpF_fuel old new bl n a b (by omega), dpF_fuel old new bl k a b (by omega)]
theorem dp_step {old new : Scr} {bl : List Cell} {g m : Nat} (h : 0 < g + m) : dp old new bl g m = bestOf (choicesOf (fun a b => (dp old new bl a b).1) old new bl g m) := by
  obtain ⟨k, hk⟩ : ∃ k, g + m = k + 1 := ⟨g + m - 1, by omega⟩
  rw [show dp old new bl g m = dpF old new bl (k + 1) g m by unfold dp; rw [hk]]
  unfold dpF
  rw [if_neg (by omega)]
  congr 1
  exact choices_congr fun a b hab => by rw [dpF_fuel old new bl k a b (by omega)]
theorem pickMin_mem : ∀ (cs : List (Nat × Word)) (f : Nat × Word), pickMin f cs = f ∨ pickMin f cs ∈ cs
  | [], _ => .inl rfl
  | c :: r, f => by
    unfold pickMin
    rcases pickMin_mem r (if c.1 < f.1 then c else f) with h | h
    · rw [h]
      split
      · exact .inr (.head _)
      · exact .inl rfl
    · exact .inr (.tail _ h)
theorem bestOf_mem {cs : List (Nat × Word)} (h : cs ≠ []) : bestOf cs ∈ cs := by
  cases cs with
  | nil => exact absurd rfl h
  | cons c r =>
    show pickMin c r ∈ c :: r
    rcases pickMin_mem r c with q | q
    · rw [q]; exact .head _
    · exact .tail _ q
theorem choices_ne {D : Nat → Nat → Nat} {old new : Scr} {bl : List Cell} {g m : Nat} (h : 0 < g + m) : choicesOf D old new bl g m ≠ [] := by
  unfold choicesOf
  intro e
  simp only [List.append_eq_nil_iff] at e
  obtain ⟨⟨_, e1⟩, e2⟩ := e
  split at e1
  · cases e1
  · split at e2
    · cases e2
    · omega
/-- what the word at a place of the table allows -/
theorem dp_word {old new : Scr} {bl : List Cell} {g m : Nat} (h : 0 < g + m) : ((dp old new bl g m).2 ≠ .add → 0 < g) ∧ ((dp old new bl g m).2 ≠ .drop → 0 < m) := by
  rw [dp_step h]
  have hm := bestOf_mem (choices_ne (D := fun a b => (dp old new bl a b).1) (old := old) (new := new) (bl := bl) h)
  generalize bestOf _ = c at hm
  unfold choicesOf at hm
  simp only [List.mem_append] at hm
  rcases hm with (hm | hm) | hm
  · split at hm
    · rename_i q; exact ⟨fun _ => q.1, fun _ => q.2⟩
    · cases hm
  · split at hm
    · rename_i q
      rw [List.mem_singleton.mp hm]
      exact ⟨fun _ => q, fun z => absurd rfl z⟩
    · cases hm
  · split at hm
    · rename_i q
      rw [List.mem_singleton.mp hm]
      exact ⟨fun z => absurd rfl z, fun _ => q⟩
    · cases hm

section
variable {C : Cfg} {k : Nat} {env : Env} {ρ : List (Option T)} {μ : Mem} {Φ : T → Mem → Prop} {Ψ : Out → Prop}
theorem Ex.seq {st : Stmt} {rest : List Stmt} {ρ' : List (Option T)} {μ' : Mem} (h : Ex1 C k env st ρ μ fun o => o = .next ρ' μ') (h2 : Ex C k env rest ρ' μ' Ψ) : Ex C k env (st :: rest) ρ μ Ψ :=
  Ex.cons (Ex.mono h fun o e => by subst e; exact h2)
theorem len_scr {s : Scr} (h : s.length < 1000) : CallOp C k μ (.builtin "len") [es s] (.int s.length) := by
  have := len_list (C := C) (k := k) (μ := μ) (ts := s.map er) .frozen (by simp; omega)
  rw [List.length_map] at this; exact this
theorem sub_scr {v i : Expr} {s : Scr} {n : Int} {j : Nat} (hn : n = j) (h : j < s.length) (hz : s.length < 1000) : SubOp C k μ v i (es s) (.int n) (er (rowAt s j)) := by
  subst hn
  exact sub_list .frozen (Int.natCast_nonneg _) (by omega) (by unfold rowAt; simp [h])
theorem rowAt_w {s : Scr} {w j : Nat} (h : Wd w s) (hj : j < s.length) : (rowAt s j).length = w := h _ (by unfold rowAt; rw [List.getD_eq_getElem?_getD, List.getElem?_eq_getElem hj]; exact List.getElem_mem hj)
theorem op_gt0 {a : Nat} : Op2 C k μ (compareOp .Gt) (.int a) (.int 0) fun _ v => v = .bool (decide (0 < a)) := op_gtN (b := 0)
theorem sub_pair0 {v i : Expr} {a b : T} : SubOp C k μ v i (.tup [a, b]) (.int 0) a := sub_tuple (by decide) (by decide) rfl
theorem sub_pair1 {v i : Expr} {a b : T} : SubOp C k μ v i (.tup [a, b]) (.int 1) b := sub_tuple (by decide) (by decide) rfl
end
end Mine

namespace Mine
section
variable {C : Cfg} {f : Addr} {x : FX}
noncomputable abbrev RowO (C : Cfg) : Prop := Has C "row_orders" fun f => ∀ (num : Nat) (o n : List Cell), n.length ≤ o.length → o.length < 1000 → CallM C 2 [] f [.int num, er o, er n] fun t _ => t = .lst ((rowOrders num o n).map eo)
theorem rowOrders_kind (num : Nat) (o n : List Cell) : ∀ q ∈ rowOrders num o n, (∃ c cs, q = .write num c cs ∧ cs.length ≤ n.length) ∨ ∃ c, q = .clear num c := by
  have ml : ∀ b e, (mid n b e).length ≤ n.length := fun b e => by simp [mid]; omega
  intro q hq
  unfold rowOrders at hq
  dsimp only at hq
  split at hq
  · cases hq
  · split at hq
    · rw [List.mem_singleton.mp hq]; exact .inl ⟨_, _, rfl, ml _ _⟩
    · rcases List.mem_append.mp hq with hq | hq
      · split at hq
        · rw [List.mem_singleton.mp hq]; exact .inl ⟨_, _, rfl, ml _ _⟩
        · cases hq
      · rw [List.mem_singleton.mp hq]; exact .inr ⟨_, rfl⟩
theorem row_cost_ok (B : Gl C) (R : RowO C) (F : FnC C f (mkFd (topS 9) x) (fnBody (topS 9)) ["old", "new"]) (o n : List Cell) (hl : n.length ≤ o.length) (hz : o.length < 1000) :
    CallM C 3 [] (.ref f) [er o, er n] fun t _ => t = .int (rowCost o n) := by
  have hk := rowOrders_kind 0 o n
  unfold rowCost
  generalize hos : rowOrders 0 o n = os at hk
  refine call_body 2 F rfl fun L => ?_
  refine Ex.cons (Ex1.assign (i := 2) (EvP.ev .int ?_) rfl (.inl rfl) (by rfl))
  refine Ex.cons (Ex1.loop (fun j ρ μ => μ = [] ∧ ∃ y, ρ = [some (er o), some (er n), some (.int ((os.take j).map ordCost).sum), y])
    (IterOK.list (ts := os.map eo) (EvP.callH R (EvP.three .int (EvP.loc 0) (EvP.loc 1)) (fun f s => hos ▸ s 0 o n hl hz) nostar3))
    (fun i hi => TgtH.name (i := 3) (kd := .local) rfl (.inl rfl)) ⟨rfl, _, rfl⟩ ?_ ?_ (by intro _; rfl))
  · rintro i ρ' μ' hi ⟨rfl, y, rfl⟩
    have hi' : i < os.length := by simpa using hi
    have eg : (os.map eo).getD i T.none = eo (os[i]) := by simp [List.getD_eq_getElem?_getD, hi']
    have et : os.take (i + 1) = os.take i ++ [os[i]] := by rw [List.take_succ_eq_append_getElem hi']
    have hq := hk _ (List.getElem_mem hi')
    show Ex C 2 _ _ [some (er o), some (er n), some (.int ((os.take i).map ordCost).sum), some ((os.map eo).getD i T.none)] [] _
    rw [eg]
    generalize os[i] = q at et hq
    have es1 : (((os.take (i + 1)).map ordCost).sum : Nat) = ((os.take i).map ordCost).sum + ordCost q := by rw [et, List.map_append, List.sum_append]; rfl
    generalize ((os.take i).map ordCost).sum = c0 at es1
    have fin : ∀ d : Int, d = ordCost q → Ex C 2 (callEnvC (mkFd (topS 9) x) L f) [] [some (er o), some (er n), some (.int ((c0 : Int) + d)), some (eo q)] [] fun o' => match o' with | .next ρ'' μ'' => μ'' = [] ∧ ∃ y, ρ'' = [some (er o), some (er n), some (.int ((os.take (i + 1)).map ordCost).sum), y] | .ret t μ'' => Ret (fun t _ => t = .int (os.map ordCost).sum) (.ret t μ'') := fun d hd =>
      Ex.nil ⟨rfl, some (eo q), by rw [es1, hd]; rfl⟩
    rcases hq with ⟨c, cs, rfl, hcs⟩ | ⟨c, rfl⟩
    · refine Ex.cons (Ex1.assign (i := 2) (EvP.ev (EvP.bin (EvP.loc 2) (EvP.ife (c := false) (EvB.cmp (EvP.sub (EvP.loc 3) .int (sub_tuple (by decide) (by decide) rfl)) .str op_eqS rfl) (fun h => nomatch h) fun _ =>
        EvP.bin .int (EvP.callB B.len .builtin (EvP.one (EvP.sub (EvP.loc 3) .int (sub_tuple (n := 3) (by decide) (by decide) rfl))) (len_tup (by simp; omega)) rfl (by decide) nostar1) op_add) op_add) ?_) rfl (.inl rfl) (by rfl))
      exact fin _ (by simp [ordCost])
    · refine Ex.cons (Ex1.assign (i := 2) (EvP.ev (EvP.bin (EvP.loc 2) (EvP.ife (c := true) (EvB.cmp (EvP.sub (EvP.loc 3) .int (sub_tuple (by decide) (by decide) rfl)) .str op_eqS rfl) (fun _ => EvP.clearC B) fun h => nomatch h) op_add) ?_) rfl (.inl rfl) (by rfl))
      exact fin _ rfl
  · rintro ρ' μ' ⟨rfl, y, rfl⟩
    refine Ex.cons (Ex1.ret (EvP.ev (EvP.loc 2) ?_))
    show T.int _ = T.int _
    rw [List.take_of_length_le (by simp)]
end
end Mine

namespace Mine
theorem pickMin_snoc (c : Nat × Word) : ∀ (l : List (Nat × Word)) (f : Nat × Word), pickMin f (l ++ [c]) = if c.1 < (pickMin f l).1 then c else pickMin f l
  | [], f => rfl
  | a :: l, f => pickMin_snoc c l _
section
variable {C : Cfg} {k : Nat} {env : Env} {ρ : List (Option T)} {μ : Mem} {f : Addr} {x : FX}
theorem EvP.predN {nm : Str} {np kp p : Pos} {j : Nat} {g : Nat} (h : EvP C k env (.Name nm np) ρ μ (.int g)) (hg : 0 < g) : EvP C k env (.BinOp (.Name nm np) .Sub (.Constant (.int 1) j kp) p) ρ μ (.int ((g - 1 : Nat) : Int)) := by
  have e : ((g - 1 : Nat) : Int) = (g : Int) - 1 := by omega
  rw [e]
  exact EvP.bin h .int op_sub
theorem EvB.pos {nm : Str} {np kp p : Pos} {j : Nat} {g : Nat} (h : EvP C k env (.Name nm np) ρ μ (.int g)) : EvB C k env (.Compare (.Name nm np) [.Gt] [.Constant (.int 0) j kp] p) ρ μ (decide (0 < g)) := EvB.cmp h .int op_gt0 rfl
theorem tab_at {v : Expr} {i1 i2 : Expr} {j : Nat} {tp p : Pos} {d : Addr} {kvs : List (List Int × T)} {a b : Nat} {t : T} (hm : (d, MObj.dct kvs) ∈ μ) (hv : EvP C k env v ρ μ (.adr d)) (h1 : EvP C k env i1 ρ μ (.int a)) (h2 : EvP C k env i2 ρ μ (.int b)) (ht : kvs.lookup [(a : Int), (b : Int)] = some t)
    (hs : starEach [i1, i2] env = [(false, eval i1 env), (false, eval i2 env)] := by rfl) (hs' : starEach [i2] env = [(false, eval i2 env)] := by rfl) : EvP C k env (.Subscript v (.Tuple [i1, i2] j tp) p) ρ μ t :=
  EvP.sub hv (EvP.tuple (EvP.two h1 h2 hs hs') lt1k) (sub_dict (ks := [(a : Int), (b : Int)]) hm ht)
noncomputable abbrev RowC (C : Cfg) : Prop := Has C "row_cost" fun f => ∀ (o n : List Cell), n.length ≤ o.length → o.length < 1000 → CallM C 3 [] f [er o, er n] fun t _ => t = .int (rowCost o n)
theorem best_ok (B : Gl C) (R : RowC C) (F : FnC C f (mkFd (topS 11) x) (fnBody (topS 11)) ["table", "old", "new", "gone", "made", "blank"]) {d : Addr} {kvs : List (List Int × T)} {D : Nat → Nat → Nat} {old new : Scr} {bl : List Cell} {w g m : Nat}
    (ho : Wd w old) (hn : Wd w new) (hb : bl.length = w) (hw : w < 1000) (hzo : old.length < 1000) (hzn : new.length < 1000) (hg : g ≤ old.length) (hm : m ≤ new.length) (h0 : 0 < g + m)
    (ht : ∀ a b, a ≤ g → b ≤ m → a + b < g + m → ∃ s, kvs.lookup [(a : Int), (b : Int)] = some (.tup [.int (D a b), .str s])) :
    CallM C 4 [(d, .dct kvs)] (.ref f) [.adr d, es old, es new, .int g, .int m, er bl] fun t μ' => t = ech (bestOf (choicesOf D old new bl g m)) ∧ μ' = [(d, .dct kvs)] := by
  have hcne := choices_ne (D := D) (old := old) (new := new) (bl := bl) h0
  unfold choicesOf at hcne ⊢
  refine call_body 3 F rfl fun L => ?_
  refine Ex.cons (Ex1.assign (i := 6) (Ev.newL .nil lt1k fun c => ?_) rfl (.inl rfl) (by rfl))
  have rc : ∀ i j, i < old.length → j < new.length → ∀ f, (∀ (o n : List Cell), n.length ≤ o.length → o.length < 1000 → CallM C 3 [] f [er o, er n] fun t _ => t = .int (rowCost o n)) → CallM C 3 [] f [er (rowAt old i), er (rowAt new j)] fun t _ => t = .int (rowCost (rowAt old i) (rowAt new j)) := fun i j hi hj f s => s _ _ (by rw [rowAt_w ho hi, rowAt_w hn hj]; exact Nat.le_refl _) (by rw [rowAt_w ho hi]; exact hw)
  -- keep
  generalize hc1 : (if 0 < g ∧ 0 < m then [(D (g - 1) (m - 1) + rowCost (rowAt old (g - 1)) (rowAt new (m - 1)), Word.keep)] else []) = c1 at hcne ⊢
  refine Ex.seq (ρ' := [some (.adr d), some (es old), some (es new), some (.int g), some (.int m), some (er bl), some (.adr c), none, none]) (μ' := [(c, .lst (c1.map ech)), (d, .dct kvs)]) (Ex1.ite (c := decide (0 < g) && (decide (0 < m) && true)) (EvB.bool (AllB.and_cons (EvB.pos (EvP.loc 3)) fun _ => AllB.and_cons (EvB.pos (EvP.loc 4)) fun _ => AllB.and_nil)) ?_ ?_) ?_
  · intro h
    have h : 0 < g ∧ 0 < m := by simpa using h
    rw [if_pos h] at hc1
    subst hc1
    obtain ⟨s, hs⟩ := ht (g - 1) (m - 1) (by omega) (by omega) (by omega)
    refine Ex.cons (Ex1.append (EvP.loc 6) (.head _) (EvP.ev (EvP.tuple (EvP.two (EvP.bin (EvP.sub (tab_at (.tail _ (.head _)) (EvP.loc 0) (EvP.predN (EvP.loc 3) h.1) (EvP.predN (EvP.loc 4) h.2) hs) .int sub_pair0)
      (EvP.callH R (EvP.two (EvP.sub (EvP.loc 1) (EvP.predN (EvP.loc 3) h.1) (sub_scr rfl (by omega) hzo)) (EvP.sub (EvP.loc 2) (EvP.predN (EvP.loc 4) h.2) (sub_scr rfl (by omega) hzn))) (rc _ _ (by omega) (by omega)) nostar2) op_add) .str) lt1k) ⟨_, _, .refl _, by decide, Ex.nil rfl⟩))
  · intro h
    have h : ¬ (0 < g ∧ 0 < m) := by simpa using h
    rw [if_neg h] at hc1
    subst hc1
    exact Ex.nil rfl
  -- drop
  generalize hc2 : (if 0 < g then [(D (g - 1) m + 4, Word.drop)] else []) = c2 at hcne ⊢
  refine Ex.seq (ρ' := [some (.adr d), some (es old), some (es new), some (.int g), some (.int m), some (er bl), some (.adr c), none, none]) (μ' := [(c, .lst ((c1 ++ c2).map ech)), (d, .dct kvs)]) (Ex1.ite (EvB.pos (EvP.loc 3)) ?_ ?_) ?_
  · intro h
    have h : 0 < g := of_decide_eq_true h
    rw [if_pos h] at hc2
    subst hc2
    obtain ⟨s, hs⟩ := ht (g - 1) m (by omega) (Nat.le_refl _) (by omega)
    refine Ex.cons (Ex1.append (EvP.loc 6) (.head _) (EvP.ev (EvP.tuple (EvP.two (EvP.bin (EvP.sub (tab_at (.tail _ (.head _)) (EvP.loc 0) (EvP.predN (EvP.loc 3) h) (EvP.loc 4) hs) .int sub_pair0) (EvP.moveC B) op_add) .str) lt1k) ⟨_, _, .refl _, ?_, Ex.nil (by rw [List.map_append]; rfl)⟩))
    rw [List.length_map, ← hc1]; split <;> exact Nat.le_of_ble_eq_true rfl
  · intro h
    have h : ¬ 0 < g := of_decide_eq_false h
    rw [if_neg h] at hc2
    subst hc2
    exact Ex.nil (by rw [List.append_nil])
  -- add
  generalize hc3 : (if 0 < m then [(D g (m - 1) + 4 + rowCost bl (rowAt new (m - 1)), Word.add)] else []) = c3 at hcne ⊢
  have hl12 : (c1 ++ c2).length ≤ 2 := by rw [List.length_append, ← hc1, ← hc2]; split <;> split <;> exact Nat.le_of_ble_eq_true rfl
  have hl3 : c3.length ≤ 1 := by rw [← hc3]; split <;> exact Nat.le_of_ble_eq_true rfl
  refine Ex.seq (ρ' := [some (.adr d), some (es old), some (es new), some (.int g), some (.int m), some (er bl), some (.adr c), none, none]) (μ' := [(c, .lst ((c1 ++ c2 ++ c3).map ech)), (d, .dct kvs)]) (Ex1.ite (EvB.pos (EvP.loc 4)) ?_ ?_) ?_
  · intro h
    have h : 0 < m := of_decide_eq_true h
    rw [if_pos h] at hc3
    subst hc3
    obtain ⟨s, hs⟩ := ht g (m - 1) (Nat.le_refl _) (by omega) (by omega)
    refine Ex.cons (Ex1.append (EvP.loc 6) (.head _) (EvP.ev (EvP.tuple (EvP.two (EvP.bin (EvP.bin (EvP.sub (tab_at (.tail _ (.head _)) (EvP.loc 0) (EvP.loc 3) (EvP.predN (EvP.loc 4) h) hs) .int sub_pair0) (EvP.moveC B) op_add)
      (EvP.callH R (EvP.two (EvP.loc 5) (EvP.sub (EvP.loc 2) (EvP.predN (EvP.loc 4) h) (sub_scr rfl (by omega) hzn))) (fun f s => s bl (rowAt new (m - 1)) (by rw [rowAt_w hn (by omega), hb]; exact Nat.le_refl _) (by rw [hb]; exact hw)) nostar2) op_add) .str) lt1k) ⟨_, _, .refl _, ?_, Ex.nil (by rw [List.map_append (l₁ := c1 ++ c2)]; rfl)⟩))
    rw [List.length_map]; omega
  · intro h
    have h : ¬ 0 < m := of_decide_eq_false h
    rw [if_neg h] at hc3
    subst hc3
    exact Ex.nil (by rw [List.append_nil])
  have hlen : (c1 ++ c2 ++ c3).length ≤ 3 := by rw [List.length_append]; omega
  generalize c1 ++ c2 ++ c3 = cs at hcne hlen
  cases cs with
  | nil => exact absurd rfl hcne
  | cons c0 r =>
    refine Ex.cons (Ex1.assign (i := 7) (EvP.ev (EvP.sub (EvP.loc 6) .int (sub_list (.owned (.head _)) (by decide) (by decide) rfl)) ?_) rfl (.inl rfl) (by rfl))
    refine Ex.cons (Ex1.loop (fun j ρ μ => μ = [(c, .lst ((c0 :: r).map ech)), (d, .dct kvs)] ∧ ∃ y, ρ = [some (.adr d), some (es old), some (es new), some (.int g), some (.int m), some (er bl), some (.adr c), some (ech (pickMin c0 (r.take j))), y])
      (IterOK.list (ts := r.map ech) (by
        have e : pickT ((c0 :: r).map ech) (some 1) none = r.map ech := pick_from (b := 1) ech (c0 :: r) (by simp)
        rw [← e]
        exact EvP.slice (EvP.loc 6) (.owned (.head _)) (.some .int) .none (by rw [List.length_map]; omega)))
      (fun i hi => TgtH.name (i := 8) (kd := .local) rfl (.inl rfl)) ⟨rfl, _, rfl⟩ ?_ ?_ (by intro _; rfl))
    · rintro i ρ' μ' hi ⟨rfl, y, rfl⟩
      have hi' : i < r.length := by simpa using hi
      have eg : (r.map ech).getD i T.none = ech (r[i]) := by simp [List.getD_eq_getElem?_getD, hi']
      have et : r.take (i + 1) = r.take i ++ [r[i]] := by rw [List.take_succ_eq_append_getElem hi']
      show Ex C 3 _ _ [some (.adr d), some (es old), some (es new), some (.int g), some (.int m), some (er bl), some (.adr c), some (ech (pickMin c0 (r.take i))), some ((r.map ech).getD i T.none)] _ _
      rw [eg, et, pickMin_snoc]
      generalize r[i] = q
      generalize pickMin c0 (r.take i) = z
      refine Ex.cons (Ex1.ite (c := decide (q.1 < z.1)) (EvB.cmp (EvP.sub (EvP.loc 8) .int sub_pair0) (EvP.sub (EvP.loc 7) .int sub_pair0) (by have h := op_lt (C := C) (k := 3) (μ := [(c, .lst ((c0 :: r).map ech)), (d, .dct kvs)]) (a := (q.1 : Int)) (b := (z.1 : Int)); rwa [decide_eq_decide.mpr Int.ofNat_lt] at h) rfl) ?_ ?_)
      · intro h
        rw [if_pos (of_decide_eq_true h)]
        exact Ex.cons (Ex1.assign (i := 7) (EvP.ev (EvP.loc 8) (Ex.nil (Ex.nil ⟨rfl, _, rfl⟩))) rfl (.inl rfl) (by rfl))
      · intro h
        rw [if_neg (of_decide_eq_false h)]
        exact Ex.nil (Ex.nil ⟨rfl, _, rfl⟩)
    · rintro ρ' μ' ⟨rfl, y, rfl⟩
      refine Ex.part [(d, .dct kvs)] [(c, .lst ((c0 :: r).map ech))] (List.Perm.swap ..) (Ex.cons (Ex1.ret (EvP.ev (EvP.loc 7) ⟨?_, rfl⟩)))
      rw [List.take_of_length_le (by simp)]; rfl
end
end Mine

namespace Mine
theorem mem_toDs {α : Type} {f : α → T} {l : List α} {d : Dat} (h : d ∈ toDs (l.map f)) : ∃ x ∈ l, d = (f x).toD := by
  induction l with
  | nil => cases h
  | cons a r ih =>
    rw [List.map_cons, toDs] at h
    rcases List.mem_cons.mp h with rfl | h
    · exact ⟨a, .head _, rfl⟩
    · obtain ⟨x, hx, e⟩ := ih h; exact ⟨x, .tail _ hx, e⟩
theorem okL {α : Type} {f : α → T} {n : Nat} (h : ∀ x, kqdOk n (f x).toD = true) (l : List α) : kqdOk (n + 1) (T.lst (l.map f)).toD = true := by
  rw [T.toD, kqdOk, List.all_eq_true]
  intro d hd
  obtain ⟨x, _, rfl⟩ := mem_toDs hd
  exact h x
theorem okT {α : Type} {f : α → T} {n : Nat} (h : ∀ x, kqdOk n (f x).toD = true) (l : List α) : kqdOk (n + 1) (T.tup (l.map f)).toD = true := by
  rw [T.toD, kqdOk, List.all_eq_true]
  intro d hd
  obtain ⟨x, _, rfl⟩ := mem_toDs hd
  exact h x
theorem er_ok (n : Nat) (r : List Cell) : kqdOk (n + 2) (er r).toD = true := okL (fun c => ec_ok c n) r
theorem es_ok (n : Nat) (s : Scr) : kqdOk (n + 3) (es s).toD = true := okL (fun r => er_ok n r) s
theorem nil_ok : kqdOk 9 (T.lst []).toD = true := by rw [T.toD, toDs, kqdOk]; rfl

noncomputable def TabAt (old new : Scr) (bl : List Cell) (kvs : List (List Int × T)) (a b : Nat) : Prop := ∃ s, kvs.lookup [(a : Int), (b : Int)] = some (.tup [.int (dp old new bl a b).1, .str s]) ∧ (0 < a + b → s = (dp old new bl a b).2.s)
structure TabInv (old new : Scr) (bl : List Cell) (M : Nat) (kvs : List (List Int × T)) (g m : Nat) : Prop where
  pres : ∀ a b, b ≤ M → (a < g ∨ (a = g ∧ b < m) ∨ (a = 0 ∧ b = 0)) → TabAt old new bl kvs a b
  abs : ∀ a b, (g < a ∨ (a = g ∧ m ≤ b)) → 0 < a + b → kvs.lookup [(a : Int), (b : Int)] = none
  len : kvs.length ≤ 1000 * g + m + 1
theorem key_eq {a b g m : Nat} : (([(a : Int), (b : Int)] : List Int) == [(g : Int), (m : Int)]) = decide (a = g ∧ b = m) := by
  rw [Bool.eq_iff_iff, beq_iff_eq, decide_eq_true_iff]
  constructor
  · intro h; simp only [List.cons.injEq, and_true] at h; omega
  · rintro ⟨rfl, rfl⟩; rfl
theorem lookup_snoc {α : Type} {k k' : List Int} {v : α} : ∀ {l : List (List Int × α)}, (l ++ [(k', v)]).lookup k = match l.lookup k with | some x => some x | none => if k == k' then some v else none
  | [] => by
    simp only [List.nil_append, List.lookup_cons, List.lookup_nil]
    cases k == k' <;> rfl
  | (a, b) :: l => by
    simp only [List.cons_append, List.lookup_cons]
    cases k == a with
    | true => rfl
    | false => exact lookup_snoc
theorem TabInv.start {old new : Scr} {bl : List Cell} {M : Nat} : TabInv old new bl M [([(0 : Int), (0 : Int)], .tup [.int 0, .str ""])] 0 0 where
  pres := fun a b hb h => by
    have h : a = 0 ∧ b = 0 := by omega
    obtain ⟨rfl, rfl⟩ := h
    exact ⟨"", rfl, fun z => absurd z (by omega)⟩
  abs := fun a b h h' => by
    have e := key_eq (a := a) (b := b) (g := 0) (m := 0)
    rw [show decide (a = 0 ∧ b = 0) = false from decide_eq_false (by omega)] at e
    simp only [List.lookup_cons, List.lookup_nil]
    rw [show ([(a : Int), (b : Int)] == [(0 : Int), (0 : Int)]) = false from e]
  len := by simp
theorem TabInv.skip {old new : Scr} {bl : List Cell} {M : Nat} {kvs : List (List Int × T)} (h : TabInv old new bl M kvs 0 0) : TabInv old new bl M kvs 0 1 where
  pres := fun a b hb q => h.pres a b hb (by omega)
  abs := fun a b q z => h.abs a b (by omega) z
  len := by have := h.len; omega
theorem TabInv.set {old new : Scr} {bl : List Cell} {M : Nat} {kvs : List (List Int × T)} {g m : Nat} (h : TabInv old new bl M kvs g m) (h0 : 0 < g + m) : TabInv old new bl M (kvs ++ [([(g : Int), (m : Int)], ech (dp old new bl g m))]) g (m + 1) where
  pres := fun a b hb q => by
    unfold TabAt
    rw [lookup_snoc, key_eq]
    by_cases e : a = g ∧ b = m
    · obtain ⟨rfl, rfl⟩ := e
      rw [h.abs a b (by omega) h0]
      exact ⟨_, by simp; rfl, fun _ => rfl⟩
    · obtain ⟨s, e1, e2⟩ := h.pres a b hb (by omega)
      rw [e1]
      exact ⟨s, rfl, e2⟩
  abs := fun a b q z => by
    rw [lookup_snoc, key_eq, h.abs a b (by omega) z]
    simp only
    rw [decide_eq_false (by omega)]; rfl
  len := by rw [List.length_append]; have := h.len; simp; omega
theorem TabInv.row {old new : Scr} {bl : List Cell} {M : Nat} {kvs : List (List Int × T)} {g : Nat} (h : TabInv old new bl M kvs g (M + 1)) (hM : M < 999) (ha : ∀ b, b ≤ M → True) : TabInv old new bl M kvs (g + 1) 0 where
  pres := fun a b hb q => h.pres a b hb (by omega)
  abs := fun a b q z => h.abs a b (by omega) z
  len := by have := h.len; omega

section
variable {C : Cfg} {k : Nat} {env : Env} {ρ : List (Option T)} {μ : Mem} {f : Addr} {x : FX}
theorem EvB.posSum {n1 n2 : Str} {p1 p2 bp kp p : Pos} {j : Nat} {g m : Nat} (h1 : EvP C k env (.Name n1 p1) ρ μ (.int g)) (h2 : EvP C k env (.Name n2 p2) ρ μ (.int m)) : EvB C k env (.Compare (.BinOp (.Name n1 p1) .Add (.Name n2 p2) bp) [.Gt] [.Constant (.int 0) j kp] p) ρ μ (decide (0 < g + m)) :=
  EvB.cmp (EvP.bin h1 h2 op_add) .int (op_gt0 (a := g + m)) rfl
noncomputable abbrev BestC (C : Cfg) : Prop := Has C "best_step" fun f => ∀ {d : Addr} {kvs : List (List Int × T)} {D : Nat → Nat → Nat} {old new : Scr} {bl : List Cell} {w g m : Nat},
    Wd w old → Wd w new → bl.length = w → w < 1000 → old.length < 1000 → new.length < 1000 → g ≤ old.length → m ≤ new.length → 0 < g + m →
    (∀ a b, a ≤ g → b ≤ m → a + b < g + m → ∃ s, kvs.lookup [(a : Int), (b : Int)] = some (.tup [.int (D a b), .str s])) →
    CallM C 4 [(d, .dct kvs)] f [.adr d, es old, es new, .int g, .int m, er bl] fun t μ' => t = ech (bestOf (choicesOf D old new bl g m)) ∧ μ' = [(d, .dct kvs)]
theorem starAll {es : List Expr} (h : (es.all fun e => !isStarred e) = true := by rfl) : ∀ e ∈ es, isStarred e = false := nostarB h
theorem cost_table_ok (B : Gl C) (R : BestC C) (F : FnC C f (mkFd (topS 10) x) (fnBody (topS 10)) ["old", "new"]) {old new : Scr} {w : Nat}
    (ho : Wd w old) (hn : Wd w new) (hw : w < 999) (hzo : old.length < 999) (hzn : new.length < 999) (hne : 0 < new.length) :
    CallM C 5 [] (.ref f) [es old, es new] fun t μ' => ∃ d kvs, t = .adr d ∧ μ' = [(d, .dct kvs)] ∧ ∀ a b, a ≤ old.length → b ≤ new.length → TabAt old new (blankOf new) kvs a b := by
  have hbl : (blankOf new).length = w := by
    unfold blankOf
    rw [List.length_replicate]
    exact rowAt_w (s := new) (j := 0) hn hne
  have ebl : T.lst (List.replicate (Int.toNat ((rowAt new 0).length : Int)) (ec Ecell)) = er (blankOf new) := by
    unfold er blankOf; rw [List.map_replicate]; rfl
  have w0 : (rowAt new 0).length = w := rowAt_w hn hne
  refine call_body 4 F rfl fun L => ?_
  refine Ex.cons (Ex1.assign (i := 2) (EvP.ev (EvP.bin (EvP.list (EvP.one (EvP.empty B)) lt1k) (EvP.ife (c := true) (EvB.cmp (EvP.loc 1) (EvP.list .nil lt1k) (op_ne (es_ok 6 new) nil_ok ⟨fun _ e => by
      unfold es at e
      rw [T.lst.injEq, List.map_eq_nil_iff] at e
      rw [e] at hne; exact absurd hne (by decide), fun _ => rfl⟩) rfl)
    (fun _ => EvP.callB B.len .builtin (EvP.one (EvP.sub (EvP.loc 1) .int (sub_scr (j := 0) rfl hne (by omega)))) (len_row (by omega)) rfl (by decide) nostar1) fun h => nomatch h) (op_mulL (Int.natCast_nonneg _) (by omega))) ?_) rfl (.inl rfl) (by rfl))
  rw [ebl]
  generalize hblg : blankOf new = bl at hbl ⊢
  show Ex C 4 _ _ [some (es old), some (es new), some (er bl), none, none, none] [] _
  refine Ex.cons ?_
  refine @Ex1.assign _ _ _ _ _ _ _ _ _ _ 3 .local ?_ ?_ ?_ ?_
  rotate_left
  · rfl
  · exact .inl rfl
  · rfl
  refine @Ev.dict1 _ _ _ _ _ _ _ _ _ [0, 0] (.tup [.int 0, .str ""]) ?_ ?_ fun d => ?_
  · exact EvP.tuple (EvP.two .int .int) lt1k
  · exact EvP.tuple (EvP.two .int .str) lt1k
  refine Ex.cons (Ex1.loop (fun g ρ μ => ∃ kvs y z, ρ = [some (es old), some (es new), some (er bl), some (.adr d), y, z] ∧ μ = [(d, .dct kvs)] ∧ TabInv old new bl new.length kvs g 0)
    (IterOK.range (n := ((old.length + 1 : Nat) : Int)) (Tr.bt B.range) rfl (EvP.one (EvP.bin (EvP.callB B.len .builtin (EvP.one (EvP.loc 0)) (len_scr (by omega)) rfl (by decide) nostar1) .int op_add)) (Int.natCast_nonneg _) (by omega))
    (fun i hi => TgtH.name (i := 4) (kd := .local) rfl (.inl rfl)) ⟨_, _, _, rfl, rfl, .start⟩ ?_ ?_ (by intro _; rfl))
  · rintro g ρ' μ' hg ⟨kvs, y, z, rfl, rfl, hI⟩
    have hg' : g < old.length + 1 := hg
    refine Ex.cons (Ex1.loop (fun m ρ μ => ∃ kvs z, ρ = [some (es old), some (es new), some (er bl), some (.adr d), some (.int g), z] ∧ μ = [(d, .dct kvs)] ∧ TabInv old new bl new.length kvs g m)
      (IterOK.range (n := ((new.length + 1 : Nat) : Int)) (Tr.bt B.range) rfl (EvP.one (EvP.bin (EvP.callB B.len .builtin (EvP.one (EvP.loc 1)) (len_scr (by omega)) rfl (by decide) nostar1) .int op_add)) (Int.natCast_nonneg _) (by omega))
      (fun i hi => TgtH.name (i := 5) (kd := .local) rfl (.inl rfl)) ⟨_, _, rfl, rfl, hI⟩ ?_ ?_ (by intro _; rfl))
    · rintro m ρ' μ' hm ⟨kvs, z, rfl, rfl, hI⟩
      have hm' : m < new.length + 1 := hm
      refine Ex.cons (Ex1.ite (EvB.posSum (EvP.loc 4) (EvP.loc 5)) ?_ ?_)
      · intro h
        have h : 0 < g + m := of_decide_eq_true h
        have e := dp_step (old := old) (new := new) (bl := bl) h
        refine Ex.cons (Ex1.setD (d := d) (Ev.callH [(d, .dct kvs)] [] (.refl _) R (.cons (EvP.loc 3) (.cons (EvP.loc 0) (EvP.four (EvP.loc 1) (EvP.loc 4) (EvP.loc 5) (EvP.loc 2)) rfl) rfl)
          (fun f s => s (D := fun a b => (dp old new bl a b).1) ho hn hbl (by omega) (by omega) (by omega) (by omega) (by omega) h fun a b ha hb hab => by
            obtain ⟨s, e1, _⟩ := hI.pres a b (by omega) (by omega)
            exact ⟨s, e1⟩)
          (fun t μ1' hp => ?_) starAll))
        obtain ⟨rfl, rfl⟩ := hp
        rw [← e]
        exact ⟨EvP.loc 3, [(g : Int), (m : Int)], kvs, [], EvP.tuple (EvP.two (EvP.loc 4) (EvP.loc 5)) lt1k, .refl _, hI.abs g m (by omega) h, by have := hI.len; omega, Ex.nil (Ex.nil ⟨_, _, rfl, rfl, hI.set h⟩)⟩
      · intro h
        have h : ¬ 0 < g + m := of_decide_eq_false h
        obtain ⟨rfl, rfl⟩ : g = 0 ∧ m = 0 := by omega
        exact Ex.nil (Ex.nil ⟨_, _, rfl, rfl, hI.skip⟩)
    · rintro ρ' μ' ⟨kvs, z, rfl, rfl, hI⟩
      exact Ex.nil ⟨_, _, _, rfl, rfl, hI.row (by omega) fun _ _ => trivial⟩
  · rintro ρ' μ' ⟨kvs, y, z, rfl, rfl, hI⟩
    have hI : TabInv old new bl new.length kvs (old.length + 1) 0 := hI
    exact Ex.cons (Ex1.ret (EvP.ev (EvP.loc 3) ⟨d, kvs, rfl, rfl, fun a b ha hb => hblg ▸ hI.pres a b hb (by omega)⟩))
end
end Mine

namespace Mine
section
variable {C : Cfg} {k : Nat} {env : Env} {ρ : List (Option T)} {μ : Mem} {Ψ : Out → Prop}
/-- a tuple laid onto names; what it holds is known only once it is evaluated -/
theorem Ex1.assignTupE {es : List Expr} {j : Nat} {tp p : Pos} {e : Expr} (h : Ev C k env e ρ μ fun t μ' => ∃ ts f, t = .tup ts ∧ Tgts C k env ((assignEach es env).map (·.2)) ts f ∧ Ψ (.next (f ρ) μ'))
    (hstar : (assignEach es env).findIdx? (·.1) = none) (hs : swapsWithSole [.Tuple es j tp] e p.line env = pure false) (hw : swappedStores [.Tuple es j tp] e env = pure none) : Ex1 C k env (.Assign [.Tuple es j tp] e p) ρ μ Ψ := fun A P s Q hA hS hQ =>
  Assign_Tuple (h A P s _ hA hS fun v P1 h1 tk1 μ' hΦ w1 S1 x1 => by
    obtain ⟨t, r, ts, f, rfl, hm, hp⟩ := hΦ
    exact Tgt.tuple hm hstar A P1 { s with heap := h1, toks := tk1 } v ρ μ' _ hA S1 r fun h' tk S2 w2 => hQ _ P1 h' tk _ hp (w1.nn.trans (wstep_frame w2) x1.nn) ⟨rfl, S2, x1⟩) hs hw
theorem Ex1.assignSwapE {es : List Expr} {j : Nat} {tp p : Pos} {e : Expr} {ns : List Str} (h : Ev C k env e ρ μ fun t μ' => ∃ ts f, t = .tup ts ∧ Tgts C k env (ns.reverse.map fun n => bindName env n) ts.reverse f ∧ ns.length = ts.length ∧ Ψ (.next (f ρ) μ'))
    (hs : swapsWithSole [.Tuple es j tp] e p.line env = pure false) (hw : swappedStores [.Tuple es j tp] e env = pure (some ns)) : Ex1 C k env (.Assign [.Tuple es j tp] e p) ρ μ Ψ := fun A P s Q hA hS hQ =>
  Assign_Tuple_swapped (h A P s _ hA hS fun v P1 h1 tk1 μ' hΦ w1 S1 x1 => by
    obtain ⟨t, r, ts, f, rfl, hm, hl, hp⟩ := hΦ
    obtain ⟨a, vs, rfl, ht, rs⟩ := r.tupAt S1.gd.s
    have hl' : ns.length = vs.toArray.size := by rw [hl, ← rs.length]; simp
    rw [hl']
    refine wpAny_unpackItems_tuple (s := { s with heap := h1, toks := tk1 }) hA.h ht fun h' he => ?_
    have g : PStep P1 h1 P1 h' := .grow S1.gd.s (extBut_keep he)
    exact assignInOrder_all hm (s := { s with heap := h', toks := tk1 }) hA (S1.step g) (by simpa using rs.reverse) fun h'' tk S2 w2 => hQ _ P1 h'' tk _ hp (w1.nn.trans (wstep_frame (g.toW.trans w2 nn_nil)) x1.nn) ⟨rfl, S2, x1⟩) hs hw
end
end Mine

namespace Mine
noncomputable def eW (w : Word) : T := .str w.s
theorem Word.s_inj {a b : Word} : (a.s == b.s) = decide (a = b) := by cases a <;> cases b <;> decide
noncomputable def er2 (c : Nat × Nat) : T := .tup [.int c.1, .int c.2]
theorem er2_ok (n : Nat) (c : Nat × Nat) : kqdOk (n + 1) (er2 c).toD = true := by simp [er2, T.toD, toDs, kqdOk]
noncomputable def addRun (found : List (Nat × Nat)) (number : Nat) : List (Nat × Nat) := match found.getLast? with
  | some p => if p.1 + p.2 = number then found.dropLast ++ [(p.1, p.2 + 1)] else found ++ [(number, 1)]
  | none => found ++ [(number, 1)]
noncomputable def runsFrom (hit skip : Word) : List (Nat × Nat) → Nat → List Word → List (Nat × Nat)
  | found, _, [] => found
  | found, number, w :: r => runsFrom hit skip (if w = hit then addRun found number else found) (number + if w = skip then 0 else 1) r
noncomputable def droppedRuns (steps : List Word) : List (Nat × Nat) := (runsFrom .drop .add [] 0 steps).reverse
noncomputable def addedRuns (steps : List Word) : List (Nat × Nat) := runsFrom .add .drop [] 0 steps

section
variable {C : Cfg} {k : Nat} {env : Env} {ρ : List (Option T)} {μ : Mem} {f : Addr} {x : FX}
theorem op_neNil {t : T} {ts : List T} (hl : LstAt C μ t ts) (hk : ∀ d ∈ toDs ts, kqdOk 8 d = true) : Op2 C k μ (compareOp .NotEq) t (.lst []) fun _ v => v = .bool (decide (ts ≠ [])) := fun A P s v w Q hA hG hM r1 r2 hQ => by
  obtain ⟨a, vs, rfl, ⟨o, ho, hc, n, hd⟩, rs⟩ := hl.get hG hM r1
  obtain ⟨bs, q2⟩ := r2.reads hG.s (.lst []) 9 nil_ok
  obtain ⟨as, q⟩ := Reps.reads hG.s ts 8 rs hk
  have hk9 : kqdOk 9 (T.lst ts).toD = true := by rw [T.toD, kqdOk, List.all_eq_true]; exact hk
  obtain ⟨as', q1⟩ : ∃ as', Reads s.heap (.ref a) (kqdP (T.lst ts).toD) as' := by rw [T.toD, kqdP]; exact ⟨_, reads_list_at ho hc hd (by simpa using q)⟩
  have e : (!PyData.eqv (kqdP (T.lst ts).toD) (kqdP (T.lst []).toD)) = decide (ts ≠ []) := by
    have q := kqd_eqv 9 (T.lst ts).toD (T.lst []).toD 9 hk9 nil_ok
    by_cases hq : ts = []
    · subst hq
      rw [q.mpr rfl]; rfl
    · have e2 : PyData.eqv (kqdP (T.lst ts).toD) (kqdP (T.lst []).toD) = false := Bool.eq_false_iff.mpr fun z => hq (by simpa using toD_inj _ _ 9 9 hk9 nil_ok (q.mp z))
      rw [decide_eq_true hq, e2]; rfl
  exact ne_dataH q1 q2 (shaped_of hk9) (shaped_of nil_ok) (by have := hA.u; omega) (by rw [e]; exact hQ _ P _ _ (.refl hG.s) rfl)
theorem getD_map {α : Type} {g : α → T} {l : List α} {i : Nat} (h : i < l.length) : (l.map g).getD i .none = g (l[i]) := by simp [List.getD_eq_getElem?_getD, h]
theorem drop_at {α : Type} {l : List α} {i : Nat} (h : i < l.length) : l.drop i = l[i] :: l.drop (i + 1) := List.drop_eq_getElem_cons h
/-- word == 'w' -/
theorem isW {nm : Str} {np p : Pos} {w : Word} {y : Word} {wp : Pos} {j : Nat} {ws : Str} (h : EvP C k env (.Name nm np) ρ μ (eW w)) (hw : ws = y.s := by rfl) : EvB C k env (.Compare (.Name nm np) [.Eq] [.Constant (.str ws) j wp] p) ρ μ (decide (w = y)) := by
  subst hw
  rw [← Word.s_inj]
  exact EvB.cmp h .str op_eqS rfl
/-- n + (0 if word == 'w' else 1) -/
theorem addW {nm n2 : Str} {np np2 p p2 p3 wp c0 c1 : Pos} {j j0 j1 : Nat} {w : Word} {y : Word} {ws : Str} {n : Nat} (h1 : EvP C k env (.Name n2 np2) ρ μ (.int n)) (h : EvP C k env (.Name nm np) ρ μ (eW w)) (hw : ws = y.s := by rfl) :
    EvP C k env (.BinOp (.Name n2 np2) .Add (.IfExp (.Compare (.Name nm np) [.Eq] [.Constant (.str ws) j wp] p) (.Constant (.int 0) j0 c0) (.Constant (.int 1) j1 c1) p2) p3) ρ μ (.int ((n + if w = y then 0 else 1 : Nat) : Int)) := by
  by_cases e : w = y
  · rw [if_pos e]
    exact EvP.bin h1 (EvP.ife (c := true) (by have := isW (w := w) (y := y) (p := p) (wp := wp) (j := j) h hw; rwa [decide_eq_true e] at this) (fun _ => .int) fun z => nomatch z) op_add
  · rw [if_neg e]
    exact EvP.bin h1 (EvP.ife (c := false) (by have := isW (w := w) (y := y) (p := p) (wp := wp) (j := j) h hw; rwa [decide_eq_false e] at this) (fun z => nomatch z) fun _ => .int) op_add
theorem subW {nm n2 : Str} {np np2 p p2 p3 wp c0 c1 : Pos} {j j0 j1 : Nat} {w : Word} {y : Word} {ws : Str} {n : Nat} (hn : w ≠ y → 0 < n) (h1 : EvP C k env (.Name n2 np2) ρ μ (.int n)) (h : EvP C k env (.Name nm np) ρ μ (eW w)) (hw : ws = y.s := by rfl) :
    EvP C k env (.BinOp (.Name n2 np2) .Sub (.IfExp (.Compare (.Name nm np) [.Eq] [.Constant (.str ws) j wp] p) (.Constant (.int 0) j0 c0) (.Constant (.int 1) j1 c1) p2) p3) ρ μ (.int ((n - if w = y then 0 else 1 : Nat) : Int)) := by
  by_cases e : w = y
  · rw [if_pos e, show ((n - 0 : Nat) : Int) = (n : Int) - 0 by omega]
    exact EvP.bin h1 (EvP.ife (c := true) (by have := isW (w := w) (y := y) (p := p) (wp := wp) (j := j) h hw; rwa [decide_eq_true e] at this) (fun _ => .int) fun z => nomatch z) op_sub
  · have := hn e
    rw [if_neg e, show ((n - 1 : Nat) : Int) = (n : Int) - 1 by omega]
    exact EvP.bin h1 (EvP.ife (c := false) (by have := isW (w := w) (y := y) (p := p) (wp := wp) (j := j) h hw; rwa [decide_eq_false e] at this) (fun z => nomatch z) fun _ => .int) op_sub

noncomputable abbrev TabC (C : Cfg) : Prop := Has C "cost_table" fun f => ∀ {old new : Scr} {w : Nat}, Wd w old → Wd w new → w < 999 → old.length < 999 → new.length < 999 → 0 < new.length →
    CallM C 5 [] f [es old, es new] fun t μ' => ∃ d kvs, t = .adr d ∧ μ' = [(d, .dct kvs)] ∧ ∀ a b, a ≤ old.length → b ≤ new.length → TabAt old new (blankOf new) kvs a b
theorem backF_zero (old new : Scr) (bl : List Cell) : ∀ n, backF old new bl n 0 0 = []
  | 0 => rfl
  | n + 1 => by unfold backF; rw [if_pos rfl]
theorem steps_ok (B : Gl C) (R : TabC C) (F : FnC C f (mkFd (topS 12) x) (fnBody (topS 12)) ["old", "new"]) {old new : Scr} {w : Nat}
    (ho : Wd w old) (hn : Wd w new) (hw : w < 999) (hzo : old.length < 999) (hzn : new.length < 999) (hne : 0 < new.length) :
    CallM C 6 [] (.ref f) [es old, es new] fun t _ => t = .lst ((stepsOf old new).map eW) := by
  refine call_body 5 F rfl fun L => ?_
  refine Ex.cons (Ex1.assignTupE (Ev.tuple (Evs.cons (Ev.callH [] [] (.refl _) R (EvP.two (EvP.loc 0) (EvP.loc 1)) (fun f s => s ho hn hw hzo hzn hne) (fun t μ' hp => ?_) starAll) rfl)) (by rfl) (by rfl) (by rfl))
  obtain ⟨d, kvs, rfl, rfl, hT⟩ := hp
  refine Evs.cons (EvP.ev (EvP.callB B.len .builtin (EvP.one (EvP.loc 0)) (len_scr (by omega)) rfl (by decide) nostar1) ?_) rfl
  refine Evs.cons (EvP.ev (EvP.callB B.len .builtin (EvP.one (EvP.loc 1)) (len_scr (by omega)) rfl (by decide) nostar1) ?_) rfl
  refine Evs.cons (Ev.newL .nil lt1k fun c => ?_) rfl
  refine Evs.nil ⟨lt1k, [.adr d, .int old.length, .int new.length, .adr c], _, rfl, .cons (Tgt.name (i := 2) (kd := .local) rfl (.inl rfl)) (.cons (Tgt.name (i := 3) (kd := .local) rfl (.inl rfl)) (.cons (Tgt.name (i := 4) (kd := .local) rfl (.inl rfl)) (.cons (Tgt.name (i := 5) (kd := .local) rfl (.inl rfl)) .nil))), ?_⟩
  have hst : stepsOf old new = (backF old new (blankOf new) (old.length + new.length) old.length new.length).reverse := rfl
  generalize hall : backF old new (blankOf new) (old.length + new.length) old.length new.length = all at hst
  refine Ex.cons (Ex1.while (fun n ρ μ => ∃ g m ws y fu, n = g + m ∧ g ≤ old.length ∧ m ≤ new.length ∧ ρ = [some (es old), some (es new), some (.adr d), some (.int g), some (.int m), some (.adr c), y] ∧ μ = [(c, .lst (ws.map eW)), (d, .dct kvs)] ∧
      g + m ≤ fu ∧ ws ++ backF old new (blankOf new) fu g m = all ∧ ws.length + n ≤ old.length + new.length) (old.length + new.length)
    ⟨old.length, new.length, [], _, _, rfl, Nat.le_refl _, Nat.le_refl _, rfl, rfl, Nat.le_refl _, hall, by simp⟩ ?_)
  rintro n ρ' μ' ⟨g, m, ws, y, fu, rfl, hg, hm, rfl, rfl, hfu, hB, hlen⟩
  refine ⟨_, EvB.posSum (EvP.loc 3) (EvP.loc 4), fun h => ?_, fun h => ?_⟩
  · have h : 0 < g + m := of_decide_eq_true h
    obtain ⟨fu, rfl⟩ : ∃ n, fu = n + 1 := ⟨fu - 1, by omega⟩
    unfold backF at hB
    rw [if_neg (by omega)] at hB
    obtain ⟨s, hs, hw⟩ := hT g m hg hm
    have hw := hw h
    subst hw
    have hv := dp_word (old := old) (new := new) (bl := blankOf new) h
    dsimp only at hB
    generalize hdp : dp old new (blankOf new) g m = q at hs hv hB
    obtain ⟨cost, w'⟩ := q
    dsimp only at hs hv hB
    refine Ex.cons (Ex1.assign (i := 6) (EvP.ev (EvP.sub (tab_at (.tail _ (.head _)) (EvP.loc 2) (EvP.loc 3) (EvP.loc 4) hs) .int sub_pair1) ?_) rfl (.inl rfl) (by rfl))
    refine Ex.cons (Ex1.append (a := c) (EvP.loc 5) (.head _) (EvP.ev (EvP.loc 6) ⟨_, _, .refl _, by rw [List.length_map]; omega, ?_⟩))
    refine Ex.cons (Ex1.assign (i := 3) (EvP.ev (subW (w := w') (y := .add) hv.1 (EvP.loc 3) (EvP.loc 6)) ?_) rfl (.inl rfl) (by rfl))
    refine Ex.cons (Ex1.assign (i := 4) (EvP.ev (subW (w := w') (y := .drop) hv.2 (EvP.loc 4) (EvP.loc 6)) ?_) rfl (.inl rfl) (by rfl))
    have dec : (g - if w' = .add then 0 else 1) + (m - if w' = .drop then 0 else 1) < g + m := by
      cases w' with
      | keep => have := hv.1 (by decide); simp; omega
      | drop => have := hv.1 (by decide); simp; omega
      | add => have := hv.2 (by decide); simp; omega
    refine Ex.nil ⟨_, dec, _, _, ws ++ [w'], _, fu, rfl, Nat.le_trans (Nat.sub_le _ _) hg, Nat.le_trans (Nat.sub_le _ _) hm, rfl, by rw [List.map_append]; rfl, by omega, by rw [List.append_assoc]; exact hB, ?_⟩
    rw [List.length_append, List.length_singleton]; omega
  · have h : ¬ 0 < g + m := of_decide_eq_false h
    obtain ⟨rfl, rfl⟩ : g = 0 ∧ m = 0 := by omega
    rw [backF_zero, List.append_nil] at hB
    refine Ex.cons (Ex1.ret (EvP.ev (EvP.rev (EvP.loc 5) (.owned (.head _)) .neg1 (by rw [List.length_map]; omega)) ?_))
    show T.lst _ = T.lst _
    rw [hst, ← hB, List.map_reverse]
end
end Mine

namespace Mine
theorem addRun_nil (n : Nat) : addRun [] n = [(n, 1)] := rfl
theorem addRun_snoc (fr : List (Nat × Nat)) (p : Nat × Nat) (n : Nat) : addRun (fr ++ [p]) n = if p.1 + p.2 = n then fr ++ [(p.1, p.2 + 1)] else fr ++ [p] ++ [(n, 1)] := by
  unfold addRun
  rw [List.getLast?_append]; simp
theorem addRun_len (found : List (Nat × Nat)) (n : Nat) : (addRun found n).length ≤ found.length + 1 := by
  rcases List.eq_nil_or_concat found with rfl | ⟨fr, p, rfl⟩
  · simp [addRun]
  · rw [List.concat_eq_append, addRun_snoc]; split <;> simp
theorem last_ix {α : Type} (fr : List α) (p : α) (g : α → T) : ((fr ++ [p]).map g)[(-1 + (((fr ++ [p]).map g).length : Int)).toNat]? = some (g p) := by
  have e : (-1 + (((fr ++ [p]).map g).length : Int)).toNat = (fr.map g).length := by simp; omega
  rw [e, List.map_append]; simp
theorem set_last {α : Type} (g : α → T) (fr : List α) (p q : α) (t : T) (h : g q = t) : ((fr ++ [p]).map g).set fr.length t = (fr ++ [q]).map g := by
  subst h
  induction fr with
  | nil => rfl
  | cons a r ih => exact congrArg (g a :: ·) ih
section
variable {C : Cfg} {k : Nat} {env : Env} {ρ : List (Option T)} {μ : Mem} {f : Addr} {x : FX}
theorem lastOf {v : Expr} {p : Pos} {j : Nat} {c : Addr} {fr : List (Nat × Nat)} {r : Nat × Nat} {kp up : Pos} (h : EvP C k env v ρ μ (.adr c)) (hm : (c, MObj.lst ((fr ++ [r]).map er2)) ∈ μ) (hz : fr.length < 9999) : EvP C k env (.Subscript v (.UnaryOp .USub (.Constant (.int 1) j kp) up) p) ρ μ (er2 r) :=
  EvP.sub h .neg1 (sub_list_neg (.owned hm) (by decide) (by simp; omega) (by simp; omega) (last_ix fr r er2))

theorem dropped_ok (B : Gl C) (F : FnC C f (mkFd (topS 13) x) (fnBody (topS 13)) ["steps"]) (steps : List Word) (hz : steps.length < 999) :
    CallM C 1 [] (.ref f) [.lst (steps.map eW)] fun t _ => t = .lst ((droppedRuns steps).map er2) := by
  have hspec : droppedRuns steps = (runsFrom .drop .add [] 0 steps).reverse := rfl
  generalize hall : runsFrom .drop .add [] 0 steps = all at hspec
  refine call_body 3 F rfl fun L => ?_
  refine Ex.cons (Ex1.assignSwapE (ns := ["found", "number"]) (Ev.tuple (Evs.cons (Ev.newL .nil lt1k fun c => ?_) rfl)) (by rfl) (by rfl))
  refine Evs.cons (EvP.ev .int ?_) rfl
  refine Evs.nil ⟨lt1k, [.adr c, .int 0], _, rfl, .cons (Tgt.bind (i := 2) (kd := .local) rfl (.inl rfl)) (.cons (Tgt.bind (i := 1) (kd := .local) rfl (.inl rfl)) .nil), rfl, ?_⟩
  refine Ex.cons (Ex1.loop (fun i ρ μ => ∃ found number y, ρ = [some (.lst (steps.map eW)), some (.adr c), some (.int (number : Nat)), y] ∧ μ = [(c, .lst (found.map er2))] ∧ runsFrom .drop .add found number (steps.drop i) = all ∧ found.length ≤ i)
    (IterOK.list (ts := steps.map eW) (EvP.loc 0)) (fun i hi => TgtH.name (i := 3) (kd := .local) rfl (.inl rfl)) ⟨[], 0, _, rfl, rfl, hall, Nat.le_refl _⟩ ?_ ?_ (by intro _; rfl))
  · rintro i ρ' μ' hi ⟨found, number, y, rfl, rfl, hI, hfl⟩
    have hi' : i < steps.length := by simpa using hi
    rw [drop_at hi', runsFrom] at hI
    show Ex C 0 _ _ [some (.lst (steps.map eW)), some (.adr c), some (.int (number : Nat)), some ((steps.map eW).getD i .none)] _ _
    rw [getD_map hi']
    generalize steps[i] = w at hI
    refine Ex.seq (ρ' := [some (.lst (steps.map eW)), some (.adr c), some (.int (number : Nat)), some (eW w)]) (μ' := [(c, .lst ((if w = .drop then addRun found number else found).map er2))]) (Ex1.ite (isW (y := .drop) (EvP.loc 3)) ?_ ?_) ?_
    · intro h
      rw [if_pos (of_decide_eq_true h)]
      rcases List.eq_nil_or_concat found with rfl | ⟨fr, p, rfl⟩
      · refine Ex.cons (Ex1.ite (c := false) (EvB.bool (AllB.and_cons (c := true) (EvB.cmp (EvP.loc 1) (EvP.list .nil lt1k) (op_neNil (ts := []) (.owned (.head _)) (fun d hd => nomatch hd)) rfl) fun h => nomatch h)) (fun h => nomatch h) fun _ => ?_)
        exact Ex.cons (Ex1.append (a := c) (EvP.loc 1) (.head _) (EvP.ev (EvP.tuple (EvP.two (EvP.loc 2) .int) lt1k) ⟨_, _, .refl _, Nat.le_of_ble_eq_true rfl, Ex.nil (Ex.nil rfl)⟩))
      · rw [List.concat_eq_append] at hfl ⊢
        have hl : fr.length < 999 := by simp at hfl; omega
        rw [addRun_snoc]
        refine Ex.cons (Ex1.ite (c := true && (decide (p.1 + p.2 = number) && true)) (EvB.bool (AllB.and_cons (EvB.cmp (c := true) (EvP.loc 1) (EvP.list .nil lt1k) (by
              have e : decide ((fr ++ [p]).map er2 ≠ []) = true := decide_eq_true (by simp)
              rw [← e]
              exact op_neNil (.owned (.head _)) fun d hd => by obtain ⟨q, _, rfl⟩ := mem_toDs hd; exact er2_ok 7 q) rfl) fun _ =>
            AllB.and_cons (EvB.cmp (EvP.bin (EvP.sub (lastOf (EvP.loc 1) (.head _) (by omega)) .int sub_pair0) (EvP.sub (lastOf (EvP.loc 1) (.head _) (by omega)) .int sub_pair1) op_add) (EvP.loc 2) (by
              have e : ((p.1 : Int) + p.2 == (number : Int)) = decide (p.1 + p.2 = number) := by rw [Bool.eq_iff_iff, beq_iff_eq, decide_eq_true_iff]; omega
              rw [← e]
              exact op_eqI) rfl) fun _ => AllB.and_nil)) (fun h => ?_) fun h => ?_)
        · have h : p.1 + p.2 = number := by simpa using h
          rw [if_pos h]
          refine Ex.cons (Ex1.setL (a := c) (EvP.ev (EvP.tuple (EvP.two (EvP.sub (lastOf (EvP.loc 1) (.head _) (by omega)) .int sub_pair0) (EvP.bin (EvP.sub (lastOf (EvP.loc 1) (.head _) (by omega)) .int sub_pair1) .int op_add)) lt1k) ⟨EvP.loc 1, EvP.ev .neg1 ⟨-1, _, [], fr.length, rfl, .refl _, by simp, by simp; omega, .inr (by simp; omega), Ex.nil (Ex.nil ?_)⟩⟩))
          rw [set_last er2 fr p (p.1, p.2 + 1) (.tup [.int p.1, .int ((p.2 : Int) + 1)]) rfl]
        · have h : ¬ p.1 + p.2 = number := by simpa using h
          rw [if_neg h]
          exact Ex.cons (Ex1.append (a := c) (EvP.loc 1) (.head _) (EvP.ev (EvP.tuple (EvP.two (EvP.loc 2) .int) lt1k) ⟨_, _, .refl _, by simp; omega, Ex.nil (Ex.nil (by rw [List.map_append (l₁ := fr ++ [p])]; rfl))⟩))
    · intro h
      rw [if_neg (of_decide_eq_false h)]
      exact Ex.nil rfl
    · exact Ex.cons (Ex1.assign (i := 2) (EvP.ev (addW (w := w) (y := .add) (EvP.loc 2) (EvP.loc 3)) (Ex.nil ⟨_, _, _, rfl, rfl, hI, by split; exact Nat.le_trans (addRun_len _ _) (Nat.succ_le_succ hfl); exact Nat.le_succ_of_le hfl⟩)) rfl (.inl rfl) (by rfl))
  · rintro ρ' μ' ⟨found, number, y, rfl, rfl, hI, hfl⟩
    rw [show steps.drop (steps.map eW).length = [] by simp, runsFrom] at hI
    rw [List.length_map] at hfl
    subst hI
    refine Ex.cons (Ex1.ret (EvP.ev (EvP.rev (EvP.loc 1) (.owned (.head _)) .neg1 (by rw [List.length_map]; omega)) ?_))
    show T.lst _ = T.lst _
    rw [hspec, List.map_reverse]

theorem added_ok (B : Gl C) (F : FnC C f (mkFd (topS 14) x) (fnBody (topS 14)) ["steps"]) (steps : List Word) (hz : steps.length < 999) :
    CallM C 1 [] (.ref f) [.lst (steps.map eW)] fun t _ => t = .lst ((addedRuns steps).map er2) := by
  have hspec : addedRuns steps = (runsFrom .add .drop [] 0 steps) := rfl
  generalize hall : runsFrom .add .drop [] 0 steps = all at hspec
  refine call_body 3 F rfl fun L => ?_
  refine Ex.cons (Ex1.assignSwapE (ns := ["found", "number"]) (Ev.tuple (Evs.cons (Ev.newL .nil lt1k fun c => ?_) rfl)) (by rfl) (by rfl))
  refine Evs.cons (EvP.ev .int ?_) rfl
  refine Evs.nil ⟨lt1k, [.adr c, .int 0], _, rfl, .cons (Tgt.bind (i := 2) (kd := .local) rfl (.inl rfl)) (.cons (Tgt.bind (i := 1) (kd := .local) rfl (.inl rfl)) .nil), rfl, ?_⟩
  refine Ex.cons (Ex1.loop (fun i ρ μ => ∃ found number y, ρ = [some (.lst (steps.map eW)), some (.adr c), some (.int (number : Nat)), y] ∧ μ = [(c, .lst (found.map er2))] ∧ runsFrom .add .drop found number (steps.drop i) = all ∧ found.length ≤ i)
    (IterOK.list (ts := steps.map eW) (EvP.loc 0)) (fun i hi => TgtH.name (i := 3) (kd := .local) rfl (.inl rfl)) ⟨[], 0, _, rfl, rfl, hall, Nat.le_refl _⟩ ?_ ?_ (by intro _; rfl))
  · rintro i ρ' μ' hi ⟨found, number, y, rfl, rfl, hI, hfl⟩
    have hi' : i < steps.length := by simpa using hi
    rw [drop_at hi', runsFrom] at hI
    show Ex C 0 _ _ [some (.lst (steps.map eW)), some (.adr c), some (.int (number : Nat)), some ((steps.map eW).getD i .none)] _ _
    rw [getD_map hi']
    generalize steps[i] = w at hI
    refine Ex.seq (ρ' := [some (.lst (steps.map eW)), some (.adr c), some (.int (number : Nat)), some (eW w)]) (μ' := [(c, .lst ((if w = .add then addRun found number else found).map er2))]) (Ex1.ite (isW (y := .add) (EvP.loc 3)) ?_ ?_) ?_
    · intro h
      rw [if_pos (of_decide_eq_true h)]
      rcases List.eq_nil_or_concat found with rfl | ⟨fr, p, rfl⟩
      · refine Ex.cons (Ex1.ite (c := false) (EvB.bool (AllB.and_cons (c := true) (EvB.cmp (EvP.loc 1) (EvP.list .nil lt1k) (op_neNil (ts := []) (.owned (.head _)) (fun d hd => nomatch hd)) rfl) fun h => nomatch h)) (fun h => nomatch h) fun _ => ?_)
        exact Ex.cons (Ex1.append (a := c) (EvP.loc 1) (.head _) (EvP.ev (EvP.tuple (EvP.two (EvP.loc 2) .int) lt1k) ⟨_, _, .refl _, Nat.le_of_ble_eq_true rfl, Ex.nil (Ex.nil rfl)⟩))
      · rw [List.concat_eq_append] at hfl ⊢
        have hl : fr.length < 999 := by simp at hfl; omega
        rw [addRun_snoc]
        refine Ex.cons (Ex1.ite (c := true && (decide (p.1 + p.2 = number) && true)) (EvB.bool (AllB.and_cons (EvB.cmp (c := true) (EvP.loc 1) (EvP.list .nil lt1k) (by
              have e : decide ((fr ++ [p]).map er2 ≠ []) = true := decide_eq_true (by simp)
              rw [← e]
              exact op_neNil (.owned (.head _)) fun d hd => by obtain ⟨q, _, rfl⟩ := mem_toDs hd; exact er2_ok 7 q) rfl) fun _ =>
            AllB.and_cons (EvB.cmp (EvP.bin (EvP.sub (lastOf (EvP.loc 1) (.head _) (by omega)) .int sub_pair0) (EvP.sub (lastOf (EvP.loc 1) (.head _) (by omega)) .int sub_pair1) op_add) (EvP.loc 2) (by
              have e : ((p.1 : Int) + p.2 == (number : Int)) = decide (p.1 + p.2 = number) := by rw [Bool.eq_iff_iff, beq_iff_eq, decide_eq_true_iff]; omega
              rw [← e]
              exact op_eqI) rfl) fun _ => AllB.and_nil)) (fun h => ?_) fun h => ?_)
        · have h : p.1 + p.2 = number := by simpa using h
          rw [if_pos h]
          refine Ex.cons (Ex1.setL (a := c) (EvP.ev (EvP.tuple (EvP.two (EvP.sub (lastOf (EvP.loc 1) (.head _) (by omega)) .int sub_pair0) (EvP.bin (EvP.sub (lastOf (EvP.loc 1) (.head _) (by omega)) .int sub_pair1) .int op_add)) lt1k) ⟨EvP.loc 1, EvP.ev .neg1 ⟨-1, _, [], fr.length, rfl, .refl _, by simp, by simp; omega, .inr (by simp; omega), Ex.nil (Ex.nil ?_)⟩⟩))
          rw [set_last er2 fr p (p.1, p.2 + 1) (.tup [.int p.1, .int ((p.2 : Int) + 1)]) rfl]
        · have h : ¬ p.1 + p.2 = number := by simpa using h
          rw [if_neg h]
          exact Ex.cons (Ex1.append (a := c) (EvP.loc 1) (.head _) (EvP.ev (EvP.tuple (EvP.two (EvP.loc 2) .int) lt1k) ⟨_, _, .refl _, by simp; omega, Ex.nil (Ex.nil (by rw [List.map_append (l₁ := fr ++ [p])]; rfl))⟩))
    · intro h
      rw [if_neg (of_decide_eq_false h)]
      exact Ex.nil rfl
    · exact Ex.cons (Ex1.assign (i := 2) (EvP.ev (addW (w := w) (y := .drop) (EvP.loc 2) (EvP.loc 3)) (Ex.nil ⟨_, _, _, rfl, rfl, hI, by split; exact Nat.le_trans (addRun_len _ _) (Nat.succ_le_succ hfl); exact Nat.le_succ_of_le hfl⟩)) rfl (.inl rfl) (by rfl))
  · rintro ρ' μ' ⟨found, number, y, rfl, rfl, hI, hfl⟩
    rw [show steps.drop (steps.map eW).length = [] by simp, runsFrom] at hI
    rw [List.length_map] at hfl
    subst hI
    refine Ex.cons (Ex1.ret (Ev.frz (EvP.ev (EvP.loc 1) ⟨c, _, _, rfl, .refl _, ?_⟩)))
    show T.lst _ = T.lst _
    rw [hspec]
end
end Mine

namespace Mine
noncomputable def nodupB : List Str → Bool
  | [] => true
  | x :: r => (!r.any (· == x)) && nodupB r
theorem nodupB_ok : ∀ {l : List Str}, nodupB l = true → l.Nodup
  | [], _ => List.nodup_nil
  | x :: r, h => by
    rw [nodupB, Bool.and_eq_true] at h
    refine List.nodup_cons.mpr ⟨fun hm => ?_, nodupB_ok h.2⟩
    have : r.any (· == x) = true := List.any_eq_true.mpr ⟨x, hm, beq_self_eq_true x⟩
    rw [this] at h
    exact absurd h.1 (by decide)
noncomputable def compB (ns es : List (Str × NameKind)) : Bool := ns.all (fun y => y.2 != .cell) && (nodupB (ns.map (·.1)) && ns.all fun y => y.2 != .free || es.lookup y.1 == some .cell)
section
variable {C : Cfg} {k : Nat} {env : Env} {ρ : List (Option T)} {μ : Mem} {Ψ : Out → Prop} {Φ : T → Mem → Prop}
theorem CompOK.of {scope : Scope} {cl : List (Str × Addr)} (h1 : closureFor scope env = pure cl) (h2 : scope.kind = .function) (h3 : compB scope.names env.scope.names = true)
    (h4 : cl.map (fun p => env.cells.lookup p.1) = cl.map (fun p => some p.2)) (h5 : (scope.names.filter fun y => y.2 == .free).map (·.1) = (cl.map (·.1)).reverse) : CompOK env scope cl := by
  unfold compB at h3
  rw [Bool.and_eq_true, Bool.and_eq_true] at h3
  refine ⟨h1, h2, fun y hy e => ?_, nodupB_ok h3.2.1, fun y hy e => ?_, h4, h5⟩
  · have := List.all_eq_true.mp h3.1 y hy
    rw [e] at this; exact absurd this (by decide)
  · have := List.all_eq_true.mp h3.2.2 y hy
    rw [e] at this
    simpa using this
variable {elt iter target : Expr} {scope : Scope} {cl : List (Str × Addr)} {R : EltR} {tg : Nat → List (Option T) → List (Option T)}
/-- a comprehension that turns each item into one, and changes nothing -/
theorem CompRun.map {α : Type} (d : α) {as : List α} {g : α → T} (co : CompOK env scope cl) (hn : as.length < 1000000) (it : IterOK C k env iter target ρ μ as.length R) (htg : ∀ Ca i, i < as.length → TgtL C k (compEnvC scope cl Ca env) target (R i) (tg i))
    (el : ∀ Ca i, i < as.length → EvP C k (compEnvC scope cl Ca env) elt (tg i (innerρ scope.names env ρ)) [] (g (as.getD i d))) (fold : ∀ x, foldedSetIterable iter env x = pure x) :
    CompRun C k env ρ μ [] μ elt iter target [] scope as.length (fun i ys μi => μi = [] ∧ ys = (as.take i).map g) cl R tg where
  co := co
  pm := .refl _
  hn := hn
  it := it
  htg := htg
  h0 := ⟨rfl, rfl⟩
  step := fun Ca i ys μi hi ⟨e1, e2⟩ => by
    subst e1; subst e2
    have eg : as.getD i d = as[i] := by simp [List.getD_eq_getElem?_getD, hi]
    refine ⟨true, TestsB.nil, fun _ => EvP.ev (eg ▸ el Ca i hi) ⟨rfl, ?_⟩, fun h => nomatch h⟩
    rw [List.take_succ_eq_append_getElem hi, List.map_append]; rfl
  fold := fold
/-- one that keeps some of the items -/
theorem CompRun.filter {α : Type} (d : α) {as : List α} {g : α → T} {q : α → Bool} {c : Expr} (co : CompOK env scope cl) (hn : as.length < 1000000) (it : IterOK C k env iter target ρ μ as.length R) (htg : ∀ Ca i, i < as.length → TgtL C k (compEnvC scope cl Ca env) target (R i) (tg i))
    (te : ∀ Ca i, i < as.length → EvB C k (compEnvC scope cl Ca env) c (tg i (innerρ scope.names env ρ)) [] (q (as.getD i d))) (el : ∀ Ca i, i < as.length → q (as.getD i d) = true → EvP C k (compEnvC scope cl Ca env) elt (tg i (innerρ scope.names env ρ)) [] (g (as.getD i d))) (fold : ∀ x, foldedSetIterable iter env x = pure x) :
    CompRun C k env ρ μ [] μ elt iter target [c] scope as.length (fun i ys μi => μi = [] ∧ ys = ((as.take i).filter q).map g) cl R tg where
  co := co
  pm := .refl _
  hn := hn
  it := it
  htg := htg
  h0 := ⟨rfl, rfl⟩
  step := fun Ca i ys μi hi ⟨e1, e2⟩ => by
    subst e1; subst e2
    have eg : as.getD i d = as[i] := by simp [List.getD_eq_getElem?_getD, hi]
    refine ⟨_, TestsB.one (eg ▸ te Ca i hi), fun h => EvP.ev (eg ▸ el Ca i hi (by rw [eg]; exact h)) ⟨rfl, ?_⟩, fun h => ⟨rfl, ?_⟩⟩
    · rw [List.take_succ_eq_append_getElem hi, List.filter_append, List.map_append, List.filter_cons, if_pos h]; rfl
    · rw [List.take_succ_eq_append_getElem hi, List.filter_append, List.map_append, List.filter_cons, if_neg (by rw [h]; decide)]; simp
  fold := fold
theorem EvP.mapComp {α : Type} {as : List α} {g : α → T} {pos : Pos} (X : CompRun C k env ρ μ [] μ elt iter target [] scope as.length (fun i ys μi => μi = [] ∧ ys = (as.take i).map g) cl R tg) : EvP C k env (.ListComp elt [⟨target, iter, [], 0⟩] scope pos) ρ μ (.lst (as.map g)) :=
  EvP.comp X fun ys μf ⟨_, e⟩ => by rw [e, List.take_length]
theorem EvP.filterComp {α : Type} {as : List α} {g : α → T} {q : α → Bool} {c : Expr} {pos : Pos} (X : CompRun C k env ρ μ [] μ elt iter target [c] scope as.length (fun i ys μi => μi = [] ∧ ys = ((as.take i).filter q).map g) cl R tg) : EvP C k env (.ListComp elt [⟨target, iter, [c], 0⟩] scope pos) ρ μ (.lst ((as.filter q).map g)) :=
  EvP.comp X fun ys μf ⟨_, e⟩ => by rw [e, List.take_length]
end
end Mine

namespace Mine
noncomputable def rowOf (old : Scr) (w at' : Nat) : Word → Scr
  | .add => [List.replicate w Ecell]
  | .keep => [rowAt old at']
  | .drop => []
noncomputable def rowsThenFrom (old : Scr) (w : Nat) : Nat → List Word → Scr
  | _, [] => []
  | at', u :: r => rowOf old w at' u ++ rowsThenFrom old w (at' + if u = .add then 0 else 1) r
noncomputable def rowsThen (old : Scr) (w : Nat) (steps : List Word) : Scr := rowsThenFrom old w 0 steps
/-- how many rows of the old screen, of the new one, some steps take -/
noncomputable def goneOf : List Word → Nat
  | [] => 0
  | u :: r => (if u = .add then 0 else 1) + goneOf r
noncomputable def madeOf : List Word → Nat
  | [] => 0
  | u :: r => (if u = .drop then 0 else 1) + madeOf r
noncomputable def ordersFrom (new : Scr) : Nat → Scr → List Ord
  | _, [] => []
  | i, r :: rs => rowOrders i r (rowAt new i) ++ ordersFrom new (i + 1) rs
noncomputable def updOrders (old new : Scr) (cr cc : Int) : List Ord :=
  let steps := stepsOf old new
  (droppedRuns steps).map (fun p => .delete p.1 p.2 new.length) ++ (addedRuns steps).map (fun p => .insert p.1 p.2 new.length) ++ ordersFrom new 0 (rowsThen old (new.getD 0 []).length steps) ++ [.cursor cr cc]

theorem goneOf_append : ∀ a b, goneOf (a ++ b) = goneOf a + goneOf b
  | [], b => by simp [goneOf]
  | u :: a, b => by simp only [List.cons_append, goneOf, goneOf_append a b]; omega
theorem madeOf_append : ∀ a b, madeOf (a ++ b) = madeOf a + madeOf b
  | [], b => by simp [madeOf]
  | u :: a, b => by simp only [List.cons_append, madeOf, madeOf_append a b]; omega
theorem back_counts (old new : Scr) (bl : List Cell) : ∀ n g m, g + m ≤ n → goneOf (backF old new bl n g m).reverse = g ∧ madeOf (backF old new bl n g m).reverse = m ∧ (backF old new bl n g m).length ≤ g + m
  | 0, g, m, h => by
    obtain ⟨rfl, rfl⟩ : g = 0 ∧ m = 0 := by omega
    exact ⟨rfl, rfl, Nat.le_refl _⟩
  | n + 1, g, m, h => by
    unfold backF
    by_cases e : g + m = 0
    · obtain ⟨rfl, rfl⟩ : g = 0 ∧ m = 0 := by omega
      rw [if_pos e]
      exact ⟨rfl, rfl, Nat.le_refl _⟩
    · rw [if_neg e]
      have hv := dp_word (old := old) (new := new) (bl := bl) (g := g) (m := m) (by omega)
      generalize (dp old new bl g m).2 = w at hv
      dsimp only
      have hd : (g - if w = .add then 0 else 1) + (m - if w = .drop then 0 else 1) < g + m ∧ (g - if w = .add then 0 else 1) + (if w = .add then 0 else 1) = g ∧ (m - if w = .drop then 0 else 1) + (if w = .drop then 0 else 1) = m := by
        cases w with
        | keep => have a := hv.1 (by decide); have b := hv.2 (by decide); simp; omega
        | drop => have a := hv.1 (by decide); simp; omega
        | add => have b := hv.2 (by decide); simp; omega
      obtain ⟨a, b, c⟩ := back_counts old new bl n _ _ (Nat.le_of_lt_succ (Nat.lt_of_lt_of_le hd.1 h))
      rw [List.reverse_cons, goneOf_append, madeOf_append, a, b, List.length_cons]
      simp only [goneOf, madeOf, Nat.add_zero]
      omega
theorem steps_counts (old new : Scr) : goneOf (stepsOf old new) = old.length ∧ madeOf (stepsOf old new) = new.length ∧ (stepsOf old new).length ≤ old.length + new.length := by
  obtain ⟨a, b, c⟩ := back_counts old new (blankOf new) _ old.length new.length (Nat.le_refl _)
  exact ⟨a, b, by unfold stepsOf; rw [List.length_reverse]; exact c⟩
theorem rowsThen_wd {old : Scr} {w : Nat} (ho : Wd w old) : ∀ (steps : List Word) (i : Nat), i + goneOf steps ≤ old.length → Wd w (rowsThenFrom old w i steps) ∧ (rowsThenFrom old w i steps).length = madeOf steps
  | [], i, h => ⟨fun r hr => (nomatch hr), rfl⟩
  | u :: r, i, h => by
    obtain ⟨a, b⟩ := rowsThen_wd ho r (i + if u = .add then 0 else 1) (by simp only [goneOf] at h; omega)
    unfold rowsThenFrom
    refine ⟨fun q hq => ?_, ?_⟩
    · rcases List.mem_append.mp hq with hq | hq
      · cases u with
        | add => rw [List.mem_singleton.mp hq]; exact List.length_replicate
        | keep => rw [List.mem_singleton.mp hq]; exact rowAt_w ho (by simp [goneOf] at h; omega)
        | drop => cases hq
      · exact a q hq
    · rw [List.length_append, b]
      cases u <;> simp [madeOf, rowOf]
theorem runs_len (hit skip : Word) : ∀ (steps : List Word) (found : List (Nat × Nat)) (n : Nat), (runsFrom hit skip found n steps).length ≤ found.length + steps.length
  | [], found, n => Nat.le_refl _
  | w :: r, found, n => by
    unfold runsFrom
    have h := runs_len hit skip r (if w = hit then addRun found n else found) (n + if w = skip then 0 else 1)
    have h2 : (if w = hit then addRun found n else found).length ≤ found.length + 1 := by split; exact addRun_len _ _; exact Nat.le_succ _
    rw [List.length_cons]; omega
theorem rowOrders_len (i : Nat) (o n : List Cell) : (rowOrders i o n).length ≤ 2 := by
  unfold rowOrders
  dsimp only
  split
  · exact Nat.zero_le _
  · split
    · exact Nat.le_succ 1
    · rw [List.length_append]; split <;> exact Nat.le_of_ble_eq_true rfl

section
variable {C : Cfg} {k : Nat} {env : Env} {ρ : List (Option T)} {μ : Mem} {f : Addr} {x : FX}
theorem blankRow {w : Nat} {np sp lp p : Pos} {nm : Str} (B : Gl C) (hw : w < 999) (h : EvP C k env (.Name nm np) ρ μ (.int w)) (hl : env.kindOf "EMPTY_CELL" = some .globalImplicit := by rfl) (hs : starEach [.Name "EMPTY_CELL" sp] env = [(false, eval (.Name "EMPTY_CELL" sp) env)] := by rfl) :
    EvP C k env (.BinOp (.List [.Name "EMPTY_CELL" sp] lp) .Mult (.Name nm np) p) ρ μ (er (List.replicate w Ecell)) := by
  have e : T.lst (List.replicate (Int.toNat (w : Int)) (ec Ecell)) = er (List.replicate w Ecell) := by unfold er; rw [List.map_replicate]; rfl
  rw [← e]
  exact EvP.bin (EvP.list (EvP.one (EvP.empty B hl) hs) lt1k) h (op_mulL (Int.natCast_nonneg _) (by omega))
theorem rows_then_ok (B : Gl C) (F : FnC C f (mkFd (topS 15) x) (fnBody (topS 15)) ["old", "steps", "width"]) {old : Scr} {steps : List Word} {w : Nat} (hw : w < 999) (hzo : old.length < 999) (hz : steps.length < 1999) (hg : goneOf steps ≤ old.length) :
    CallM C 1 [] (.ref f) [es old, .lst (steps.map eW), .int w] fun t _ => t = es (rowsThen old w steps) := by
  unfold rowsThen
  generalize hall : rowsThenFrom old w 0 steps = all
  refine call_body 3 F rfl fun L => ?_
  refine Ex.cons (Ex1.assignSwapE (ns := ["found", "at"]) (Ev.tuple (Evs.cons (Ev.newL .nil lt1k fun c => ?_) rfl)) (by rfl) (by rfl))
  refine Evs.cons (EvP.ev .int ?_) rfl
  refine Evs.nil ⟨lt1k, [.adr c, .int 0], _, rfl, .cons (Tgt.bind (i := 4) (kd := .local) rfl (.inl rfl)) (.cons (Tgt.bind (i := 3) (kd := .local) rfl (.inl rfl)) .nil), rfl, ?_⟩
  refine Ex.cons (Ex1.loop (fun i ρ μ => ∃ found at' y, ρ = [some (es old), some (.lst (steps.map eW)), some (.int w), some (.adr c), some (.int (at' : Nat)), y] ∧ μ = [(c, .lst (found.map er))] ∧ found ++ rowsThenFrom old w at' (steps.drop i) = all ∧ found.length ≤ i ∧ at' + goneOf (steps.drop i) ≤ old.length)
    (IterOK.list (ts := steps.map eW) (EvP.loc 1)) (fun i hi => TgtH.name (i := 5) (kd := .local) rfl (.inl rfl)) ⟨[], 0, _, rfl, rfl, hall, Nat.le_refl _, by simpa using hg⟩ ?_ ?_ (by intro _; rfl))
  · rintro i ρ' μ' hi ⟨found, at', y, rfl, rfl, hI, hfl, hga⟩
    have hi' : i < steps.length := by simpa using hi
    rw [drop_at hi', rowsThenFrom, ← List.append_assoc] at hI
    rw [drop_at hi', goneOf] at hga
    show Ex C 0 _ _ [some (es old), some (.lst (steps.map eW)), some (.int w), some (.adr c), some (.int (at' : Nat)), some ((steps.map eW).getD i .none)] _ _
    rw [getD_map hi']
    generalize steps[i] = u at hI hga
    refine Ex.seq (ρ' := [some (es old), some (.lst (steps.map eW)), some (.int w), some (.adr c), some (.int (at' : Nat)), some (eW u)]) (μ' := [(c, .lst ((found ++ rowOf old w at' u).map er))]) (Ex1.ite (isW (y := .add) (EvP.loc 5)) ?_ ?_) ?_
    · intro h
      have h : u = .add := of_decide_eq_true h
      subst h
      exact Ex.cons (Ex1.append (a := c) (EvP.loc 3) (.head _) (EvP.ev (blankRow B hw (EvP.loc 2)) ⟨_, _, .refl _, by rw [List.length_map]; omega, Ex.nil (by rw [List.map_append]; rfl)⟩))
    · intro h
      have h : u ≠ .add := of_decide_eq_false h
      refine Ex.cons (Ex1.ite (isW (y := .keep) (EvP.loc 5)) ?_ ?_)
      · intro h2
        have h2 : u = .keep := of_decide_eq_true h2
        subst h2
        exact Ex.cons (Ex1.append (a := c) (EvP.loc 3) (.head _) (EvP.ev (EvP.sub (EvP.loc 0) (EvP.loc 4) (sub_scr rfl (by simp at hga; omega) (by omega))) ⟨_, _, .refl _, by rw [List.length_map]; omega, Ex.nil (Ex.nil (by rw [List.map_append]; rfl))⟩))
      · intro h2
        have h2 : u ≠ .keep := of_decide_eq_false h2
        cases u with
        | keep => exact absurd rfl h2
        | add => exact absurd rfl h
        | drop => exact Ex.nil (Ex.nil (by rw [rowOf, List.append_nil]))
    · refine Ex.cons (Ex1.assign (i := 4) (EvP.ev (addW (w := u) (y := .add) (EvP.loc 4) (EvP.loc 5)) (Ex.nil ⟨_, _, _, rfl, rfl, hI, ?_, ?_⟩)) rfl (.inl rfl) (by rfl))
      · rw [List.length_append]
        have : (rowOf old w at' u).length ≤ 1 := by cases u <;> simp [rowOf]
        omega
      · omega
  · rintro ρ' μ' ⟨found, at', y, rfl, rfl, hI, hfl, hga⟩
    rw [show steps.drop (steps.map eW).length = [] by simp, rowsThenFrom, List.append_nil] at hI
    subst hI
    exact Ex.cons (Ex1.ret (Ev.frz (EvP.ev (EvP.loc 3) ⟨c, _, _, rfl, .refl _, rfl⟩)))

noncomputable abbrev StepsC (C : Cfg) : Prop := Has C "steps_of" fun f => ∀ {old new : Scr} {w : Nat}, Wd w old → Wd w new → w < 999 → old.length < 999 → new.length < 999 → 0 < new.length → CallM C 6 [] f [es old, es new] fun t _ => t = .lst ((stepsOf old new).map eW)
noncomputable abbrev RunsC (C : Cfg) : Prop := (Has C "dropped_runs" fun f => ∀ steps : List Word, steps.length < 999 → CallM C 1 [] f [.lst (steps.map eW)] fun t _ => t = .lst ((droppedRuns steps).map er2)) ∧ (Has C "added_runs" fun f => ∀ steps : List Word, steps.length < 999 → CallM C 1 [] f [.lst (steps.map eW)] fun t _ => t = .lst ((addedRuns steps).map er2))
noncomputable abbrev ThenC (C : Cfg) : Prop := Has C "rows_then" fun f => ∀ {old : Scr} {steps : List Word} {w : Nat}, w < 999 → old.length < 999 → steps.length < 1999 → goneOf steps ≤ old.length → CallM C 1 [] f [es old, .lst (steps.map eW), .int w] fun t _ => t = es (rowsThen old w steps)
end
end Mine

namespace Mine
section
variable {C : Cfg} {k : Nat} {env : Env} {ρ : List (Option T)} {μ : Mem} {f : Addr} {x : FX}
noncomputable def edel (h : Nat) (p : Nat × Nat) : T := eo (.delete p.1 p.2 h)
noncomputable def eins (h : Nat) (p : Nat × Nat) : T := eo (.insert p.1 p.2 h)
theorem er2_tss (l : List (Nat × Nat)) : T.lst (l.map er2) = .lst ((l.map fun p => [T.int p.1, T.int p.2]).map .tup) := by rw [List.map_map]; rfl
theorem pairsIt {iter : Expr} {es : List Expr} {j : Nat} {tp : Pos} {l : List (Nat × Nat)} (h : EvP C k env iter ρ μ (.lst (l.map er2))) : IterOK C k env iter (.Tuple es j tp) ρ μ l.length (TupR fun i => (l.map fun p => [T.int p.1, T.int p.2]).getD i []) := by
  rw [er2_tss] at h
  have := IterOK.listT (es := es) (j := j) (tp := tp) h
  rwa [List.length_map] at this
theorem getD_mapL {α β : Type} {g : α → List β} {l : List α} {i : Nat} (d : α) (h : i < l.length) : (l.map g).getD i [] = g (l.getD i d) := by simp [List.getD_eq_getElem?_getD, h]
theorem update_ok (B : Gl C) (XS : StepsC C) (XR : RunsC C) (XT : ThenC C) (XO : RowO C) (F : FnC C f (mkFd (topS 16) x) (fnBody (topS 16)) ["old", "new", "cursor"]) {old new : Scr} {w : Nat} {cr cc : Int}
    (ho : Wd w old) (hn : Wd w new) (hw : w < 999) (hz : old.length + new.length < 999) (hne : 0 < new.length) :
    CallM C 7 [] (.ref f) [es old, es new, .tup [.int cr, .int cc]] fun t _ => t = .lst ((updOrders old new cr cc).map eo) := by
  have w0 : (rowAt new 0).length = w := rowAt_w hn hne
  obtain ⟨c1, c2, c3⟩ := steps_counts old new
  obtain ⟨rwd, rlen⟩ := rowsThen_wd ho (stepsOf old new) 0 (by omega)
  have hspec : updOrders old new cr cc = (droppedRuns (stepsOf old new)).map (fun p => .delete p.1 p.2 new.length) ++ (addedRuns (stepsOf old new)).map (fun p => .insert p.1 p.2 new.length) ++ ordersFrom new 0 (rowsThenFrom old w 0 (stepsOf old new)) ++ [.cursor cr cc] := by
    unfold updOrders rowsThen
    rw [show (new.getD 0 []).length = w from w0]
  have dl : (droppedRuns (stepsOf old new)).length ≤ (stepsOf old new).length := by unfold droppedRuns; rw [List.length_reverse]; have := runs_len .drop .add (stepsOf old new) [] 0; simpa using this
  have al : (addedRuns (stepsOf old new)).length ≤ (stepsOf old new).length := by unfold addedRuns; have := runs_len .add .drop (stepsOf old new) [] 0; simpa using this
  generalize hst : stepsOf old new = steps at *
  refine call_body 6 F rfl fun L => ?_
  refine Ex.cons (Ex1.assignTupE (EvP.ev (EvP.tuple (EvP.two (EvP.callB B.len .builtin (EvP.one (EvP.loc 1)) (len_scr (by omega)) rfl (by decide) nostar1) (EvP.ife (c := true) (EvB.cmp (EvP.loc 1) (EvP.list .nil lt1k) (op_ne (es_ok 6 new) nil_ok ⟨fun _ e => by
      unfold es at e
      rw [T.lst.injEq, List.map_eq_nil_iff] at e
      rw [e] at hne; exact absurd hne (by decide), fun _ => rfl⟩) rfl)
    (fun _ => EvP.callB B.len .builtin (EvP.one (EvP.sub (EvP.loc 1) .int (sub_scr (j := 0) rfl hne (by omega)))) (len_row (by omega)) rfl (by decide) nostar1) fun h => nomatch h)) lt1k) ⟨[.int new.length, .int (rowAt new 0).length], _, rfl, .cons (Tgt.name (i := 3) (kd := .cell) rfl (.inr rfl)) (.cons (Tgt.name (i := 4) (kd := .local) rfl (.inl rfl)) .nil), ?_⟩) (by rfl) (by rfl) (by rfl))
  rw [w0]
  refine Ex.cons (Ex1.assign (i := 5) (EvP.ev (EvP.callH XS (EvP.two (EvP.loc 0) (EvP.loc 1)) (fun f s => s ho hn hw (by omega) (by omega) hne) nostar2) ?_) rfl (.inl rfl) (by rfl))
  rw [hst]
  have dsl : (droppedRuns steps).length < 999 := by omega
  refine Ex.cons (Ex1.assignComp (cl := [("height", L + 1)]) (i := 7) (CompRun.map (0, 0) (as := droppedRuns steps) (g := edel new.length) (tg := fun i ρ => (ρ.set 1 (some (.int ((droppedRuns steps).getD i (0, 0)).1))).set 2 (some (.int ((droppedRuns steps).getD i (0, 0)).2)))
    (CompOK.of (by kernel_rfl) rfl (by kernel_rfl) (by kernel_rfl) (by kernel_rfl)) (by omega)
    (pairsIt (EvP.callH XR.1 (EvP.one (EvP.loc 5)) (fun f s => (s steps (by omega)).le (by decide)) nostar1))
    (fun Ca i hi => by
      show TgtL C 6 _ _ (fun P h v => TupAt P h v (((droppedRuns steps).map fun p => [T.int p.1, T.int p.2]).getD i [])) _
      rw [getD_mapL (0, 0) hi]
      exact TgtL.tuple (.cons (i := 1) rfl (.cons (i := 2) rfl .nil)) (by rfl))
    (fun Ca i hi => EvP.tuple (EvP.four .str (EvP.loc 1) (EvP.loc 2) (EvP.cel 3)) lt1k) (by intro _; rfl)) rfl (fun D ys μf hJ => ?_) (by rfl))
  obtain ⟨rfl, rfl⟩ := hJ
  rw [List.take_length]
  refine Ex.cons (Ex1.assign (i := 7) (Ev.addOwn (xs := (droppedRuns steps).map (edel new.length)) (ys := (addedRuns steps).map (eins new.length)) (EvP.loc 7) (EvP.mapComp (cl := [("height", L + 1)]) (CompRun.map (0, 0) (as := addedRuns steps) (g := eins new.length) (tg := fun i ρ => (ρ.set 1 (some (.int ((addedRuns steps).getD i (0, 0)).1))).set 2 (some (.int ((addedRuns steps).getD i (0, 0)).2)))
    (CompOK.of (by kernel_rfl) rfl (by kernel_rfl) (by kernel_rfl) (by kernel_rfl)) (by omega)
    (pairsIt (EvP.callH XR.2 (EvP.one (EvP.loc 5)) (fun f s => (s steps (by omega)).le (by decide)) nostar1))
    (fun Ca i hi => by
      show TgtL C 6 _ _ (fun P h v => TupAt P h v (((addedRuns steps).map fun p => [T.int p.1, T.int p.2]).getD i [])) _
      rw [getD_mapL (0, 0) hi]
      exact TgtL.tuple (.cons (i := 1) rfl (.cons (i := 2) rfl .nil)) (by rfl))
    (fun Ca i hi => EvP.tuple (EvP.four .str (EvP.loc 1) (EvP.loc 2) (EvP.cel 3)) lt1k) (by intro _; rfl)))
    (.owned (.head _)) .frozen (by rw [List.length_map, List.length_map]; omega) fun E => ?_) rfl (.inl rfl) (by rfl))
  have e0 : (droppedRuns steps).map (edel new.length) ++ (addedRuns steps).map (eins new.length) = ((droppedRuns steps).map (fun p => Ord.delete p.1 p.2 new.length) ++ (addedRuns steps).map (fun p => Ord.insert p.1 p.2 new.length)).map eo := by
    rw [List.map_append, List.map_map, List.map_map]; rfl
  rw [e0]
  have l0 : ((droppedRuns steps).map (fun p => Ord.delete p.1 p.2 new.length) ++ (addedRuns steps).map (fun p => Ord.insert p.1 p.2 new.length)).length < 2000 := by rw [List.length_append, List.length_map, List.length_map]; omega
  generalize (droppedRuns steps).map (fun p => Ord.delete p.1 p.2 new.length) ++ (addedRuns steps).map (fun p => Ord.insert p.1 p.2 new.length) = pre at hspec l0
  have rl : (rowsThenFrom old w 0 steps).length = new.length := by omega
  generalize hrt : rowsThenFrom old w 0 steps = rt at *
  obtain ⟨all, hall⟩ : ∃ all, pre ++ ordersFrom new 0 rt = all := ⟨_, rfl⟩
  rw [hall] at hspec
  refine Ex.cons (Ex1.loop (fun i ρ μ => ∃ found y z, ρ = [some (es old), some (es new), some (.tup [.int cr, .int cc]), some (.int new.length), some (.int w), some (.lst (steps.map eW)), y, some (.adr E), z] ∧ μ = [(E, .lst (found.map eo)), (D, .lst ((droppedRuns steps).map (edel new.length)))] ∧ found ++ ordersFrom new i (rt.drop i) = all ∧ found.length < 2000 + 2 * i)
    (IterOK.enum (ts := rt.map er) (Tr.bt B.enumerate) rfl (EvP.one (EvP.callH XT (EvP.three (EvP.loc 0) (EvP.loc 5) (EvP.loc 4)) (fun f s => (CallM.le (s (old := old) (steps := steps) (w := w) hw (by omega) (by omega) (by omega)) (by decide)).mono fun t _ e => by rw [e]; show T.lst _ = T.lst _; rw [show rowsThen old w steps = rt from hrt]) nostar3)))
    (fun i hi => TgtH.tuple (ts := [.int i, (rt.map er).getD i .none]) (.cons (Tgt.name (i := 8) (kd := .local) rfl (.inl rfl)) (.cons (Tgt.name (i := 6) (kd := .local) rfl (.inl rfl)) .nil)) (by rfl)) ⟨_, _, _, rfl, rfl, hall, l0⟩ ?_ ?_ (by intro _; rfl))
  · rintro i ρ' μ' hi ⟨found, y, z, rfl, rfl, hI, hfl⟩
    have hi' : i < rt.length := by simpa using hi
    rw [drop_at hi', ordersFrom, ← List.append_assoc] at hI
    show Ex C 6 _ _ [some (es old), some (es new), some (.tup [.int cr, .int cc]), some (.int new.length), some (.int w), some (.lst (steps.map eW)), some ((rt.map er).getD i .none), some (.adr E), some (.int i)] _ _
    rw [getD_map hi']
    have wi : (rt[i]).length = w := rwd _ (List.getElem_mem hi')
    generalize rt[i] = r at hI wi
    have wn : (rowAt new i).length = w := rowAt_w hn (by omega)
    refine Ex.cons (Ex1.extend (a := E) (EvP.loc 7) (.head _) (EvP.ev (EvP.callH XO (EvP.three (EvP.loc 8) (EvP.loc 6) (EvP.sub (EvP.loc 1) (EvP.loc 8) (sub_scr rfl (by omega) (by omega)))) (fun f s => (s i r (rowAt new i) (by omega) (by omega)).le (by decide)) nostar3) ⟨_, _, _, rfl, .refl _, ?_, Ex.nil ⟨found ++ rowOrders i r (rowAt new i), _, _, rfl, by rw [List.map_append], hI, ?_⟩⟩))
    · rw [List.length_map, List.length_map]; have := rowOrders_len i r (rowAt new i); omega
    · rw [List.length_append]; have := rowOrders_len i r (rowAt new i); omega
  · rintro ρ' μ' ⟨found, y, z, rfl, rfl, hI, hfl⟩
    rw [List.length_map] at hI hfl
    rw [List.drop_length, ordersFrom, List.append_nil] at hI
    subst hI
    refine Ex.cons (Ex1.ret (EvP.ev (EvP.bin (EvP.loc 7) (EvP.list (EvP.one (EvP.tuple (EvP.three .str (EvP.sub (EvP.loc 2) .int sub_pair0) (EvP.sub (EvP.loc 2) .int sub_pair1)) lt1k)) lt1k) (op_addL (.owned (.head _)) .frozen (by rw [List.length_map]; simp; omega))) ?_))
    show T.lst _ = T.lst _
    rw [hspec, List.map_append]; rfl
end
end Mine

namespace Mine
noncomputable def mS (j : Nat) : Stmt := nthS (fnBody (topS 18)) j
noncomputable abbrev sFlds : List Str := ["width", "rows", "cursor", "written"]
structure SS where
  rows : Scr
  cr : Int
  cc : Int
  wr : Nat
noncomputable abbrev scrF (w : Nat) (rows : T) (s : SS) : List (Str × T) := [("width", .int w), ("rows", rows), ("cursor", .tup [.int s.cr, .int s.cc]), ("written", .int s.wr)]
noncomputable abbrev scrM (c x dx r : Addr) (w : Nat) (s : SS) : Mem := [(x, .raw (instObj c dx)), (dx, .flds (scrF w (.adr r) s)), (r, .lst (s.rows.map er))]
noncomputable def putRow (own : List Cell) (col : Nat) (cells : List Cell) : List Cell := own.take col ++ cells ++ own.drop (col + cells.length)
noncomputable def blankR (w : Nat) : List Cell := List.replicate w Ecell
noncomputable def applyO (w : Nat) (s : SS) : Ord → SS
  | .write r c cs => { s with rows := s.rows.set r (putRow (rowAt s.rows r) c cs), wr := s.wr + cs.length }
  | .clear r c => { s with rows := s.rows.set r ((rowAt s.rows r).take c ++ List.replicate (w - c) Ecell) }
  | .insert r m b => { s with rows := s.rows.take r ++ List.replicate m (blankR w) ++ (s.rows.drop r).take (b - m - r) ++ s.rows.drop b }
  | .delete r m b => { s with rows := s.rows.take r ++ (s.rows.drop (r + m)).take (b - (r + m)) ++ List.replicate m (blankR w) ++ s.rows.drop b }
  | .cursor a b => { s with cr := a, cc := b }
/-- an order that stays within the screen -/
noncomputable def OkO (w h : Nat) : Ord → Prop
  | .write r c cs => r < h ∧ c + cs.length ≤ w
  | .clear r c => r < h ∧ c ≤ w
  | .insert r m b => r + m ≤ b ∧ b ≤ h
  | .delete r m b => r + m ≤ b ∧ b ≤ h
  | .cursor _ _ => True
section
variable {C : Cfg} {k : Nat} {env : Env} {ρ : List (Option T)} {μ : Mem} {f : Addr} {fx : FX} {Ψ : Out → Prop} {Φ : T → Mem → Prop}
theorem Ex.perm {sts : List Stmt} {μ' : Mem} (p : μ.Perm μ') (h : Ex C k env sts ρ μ' Ψ) : Ex C k env sts ρ μ Ψ := Ex.part μ' [] (by rw [List.append_nil]; exact p) h
theorem IterOK.listM {α : Type} {as : List α} {g : α → T} {iter : Expr} {x : Str} {px : Pos} (h : EvP C k env iter ρ μ (.lst (as.map g))) : IterOK C k env iter (.Name x px) ρ μ as.length (RepR fun i => (as.map g).getD i .none) := by
  have := IterOK.list (x := x) (px := px) h
  rwa [List.length_map] at this
theorem Ev.addOwnE {l r : Expr} {p : Pos} (h1 : Ev C k env l ρ μ fun a μ1 => Ev C k env r ρ μ1 fun b μ2 => ∃ xs ys, LstAt C μ2 a xs ∧ LstAt C μ2 b ys ∧ xs.length + ys.length < 1000000 ∧ ∀ d, Φ (.adr d) ((d, .lst (xs ++ ys)) :: μ2)) : Ev C k env (.BinOp l .Add r p) ρ μ Φ := fun A P s Q hA hS hQ =>
  wpAny_BinOp (h1 A P s _ hA hS fun v P1 h1 tk1 μ1 ⟨a, r1, hr⟩ w1 S1 x1 => hr A P1 _ _ hA S1 fun w P2 h2 tk2 μ2 ⟨b, r2, xs, ys, ha, hb, hz, hΦ⟩ w2 S2 x2 =>
    addL_core (s := { s with heap := h2, toks := tk2 }) ha hb hz S2.gd S2.me (r1.mono w2.le) r2 fun vs rs => by
      have kp : ∀ b o, h2.get? b = some o → (h2.push { cls := .type "list", data := .seq vs.toArray }).get? b = some o := fun b o e => Heap.get?_push_of_some _ e
      have n0 : h2.get? h2.objs.size = none := Heap.get?_none_of_le (Nat.le_refl _)
      have S3 := S2.own (a := h2.objs.size) (o := .lst (xs ++ ys)) kp n0 ⟨vs, 0, Heap.get?_push_size _ rfl, rs⟩
      have w12 : WStep (NM μ) P s.heap P2 h2 := w1.trans w2 x1
      have x12 : Sub μ s.heap μ2 := x1.trans' w1 (fun _ => .inl) x2
      exact hQ _ P2 _ tk2 _ ⟨_, .adr, hΦ _⟩ (w12.trans (PStep.grow S2.gd.s kp).toW fun _ => .inl) S3 (x12.trans' w12 (fun _ => .inl) (.own n0)))

variable {c x dx r : Addr} {w : Nat} {s : SS}
theorem len_cells {ct : T} {cells : List Cell} (hc : ct = .tup (cells.map ec) ∨ ct = .lst (cells.map ec)) (hz : cells.length < 1000) : CallOp C k μ (.builtin "len") [ct] (.int cells.length) := by
  rcases hc with rfl | rfl
  · have := len_tup (C := C) (k := k) (μ := μ) (ts := cells.map ec) (by rw [List.length_map]; omega)
    rwa [List.length_map] at this
  · exact len_row hz
theorem inst_scr : InstM (scrM c x dx r w s) x c dx (scrF w (.adr r) s) := ⟨.head _, .tail _ (.head _)⟩

theorem write_ok (B : Gl C) (X : PlainCls C c sFlds) (F : FnC C f (mkFd (mS 3) fx) (fnBody (mS 3)) ["self", "row", "column", "cells"]) {ct : T} {cells : List Cell} {row col : Nat} (hc : ct = .tup (cells.map ec) ∨ ct = .lst (cells.map ec)) (hw : w < 999) (hwd : Wd w s.rows) (hz : s.rows.length < 999) (hr : row < s.rows.length) (hcol : col + cells.length ≤ w) :
    CallM C 1 (scrM c x dx r w s) (.ref f) [.adr x, .int row, .int col, ct] fun t μ' => t = .none ∧ ∃ r', μ' = scrM c x dx r' w (applyO w s (.write row col cells)) := by
  have ow : (rowAt s.rows row).length = w := rowAt_w hwd hr
  refine call_body 1 F rfl fun L => ?_
  have gr : (s.rows.map er)[row]? = some (er (rowAt s.rows row)) := by unfold rowAt; simp [hr]
  refine Ex.cons (Ex1.assign (i := 4) (EvP.ev (EvP.sub (EvP.attr X (by decide) (EvP.loc 0) inst_scr rfl) (EvP.loc 1) (sub_list (.owned (.tail _ (.tail _ (.head _)))) (Int.natCast_nonneg _) (by omega) gr)) ?_) rfl (.inl rfl) (by rfl))
  refine Ex.cons (Ex1.setL (a := r) (EvP.ev (t := er (putRow (rowAt s.rows row) col cells)) (by
      have e : er (putRow (rowAt s.rows row) col cells) = .lst (((rowAt s.rows row).take col).map ec ++ cells.map ec ++ ((rowAt s.rows row).drop (col + cells.length)).map ec) := by unfold er putRow; rw [List.map_append, List.map_append]
      rw [e, ← pick_to ec (rowAt s.rows row) (e := col) (by omega), ← pick_from ec (rowAt s.rows row) (b := col + cells.length) (by omega)]
      refine EvP.bin (EvP.bin (EvP.slice (EvP.loc 4) .frozen .none (.some (EvP.loc 2)) (by simp; omega)) (EvP.callB B.list .type (EvP.one (EvP.loc 3)) (list_seq hc (by simp; omega)) rfl (by decide) nostar1) (op_addL .frozen .frozen (by rw [pick_to ec (rowAt s.rows row) (e := col) (by omega)]; simp; omega)))
        (EvP.slice (EvP.loc 4) .frozen (.some (EvP.bin (EvP.loc 2) (EvP.callB B.len .builtin (EvP.one (EvP.loc 3)) (len_cells hc (by omega)) rfl (by decide) nostar1) op_add)) .none (by simp; omega)) (op_addL .frozen .frozen ?_)
      rw [pick_to ec (rowAt s.rows row) (e := col) (by omega), pick_from ec (rowAt s.rows row) (b := col + cells.length) (by omega)]; simp; omega)
    ⟨EvP.attr X (by decide) (EvP.loc 0) inst_scr rfl, EvP.ev (EvP.loc 1) ⟨row, _, _, row, rfl, (List.perm_append_comm (l₁ := [(x, MObj.raw (instObj c dx)), (dx, .flds (scrF w (.adr r) s))]) (l₂ := [(r, .lst (s.rows.map er))])), by rw [List.length_map]; exact hr, by rw [List.length_map]; omega, .inl rfl, ?_⟩⟩))
  refine Ex.cons (Ex1.setA (x := x) (dx := dx) X (by decide) (EvP.ev (EvP.bin (EvP.attr X (by decide) (EvP.loc 0) (fs := scrF w (.adr r) s) ⟨.tail _ (.head _), .tail _ (.tail _ (.head _))⟩ rfl) (EvP.callB B.len .builtin (EvP.one (EvP.loc 3)) (len_cells hc (by omega)) rfl (by decide) nostar1) op_add) ⟨EvP.loc 0, scrF w (.adr r) s, _, .tail _ (.head _), (List.perm_append_comm (l₁ := [(r, MObj.lst _), (x, MObj.raw (instObj c dx))]) (l₂ := [(dx, .flds (scrF w (.adr r) s))])), Nat.le_of_ble_eq_true rfl, Ex.perm ?_ (Ex.nil ⟨rfl, r, rfl⟩)⟩))
  rw [← List.map_set]
  exact List.perm_append_comm (l₁ := [(dx, MObj.flds (scrF w (.adr r) (applyO w s (.write row col cells)))), (r, .lst ((s.rows.set row (putRow (rowAt s.rows row) col cells)).map er))]) (l₂ := [(x, MObj.raw (instObj c dx))])
theorem clear_ok (B : Gl C) (X : PlainCls C c sFlds) (F : FnC C f (mkFd (mS 4) fx) (fnBody (mS 4)) ["self", "row", "column"]) {row col : Nat} (hw : w < 999) (hwd : Wd w s.rows) (hz : s.rows.length < 999) (hr : row < s.rows.length) (hcol : col ≤ w) :
    CallM C 1 (scrM c x dx r w s) (.ref f) [.adr x, .int row, .int col] fun t μ' => t = .none ∧ ∃ r', μ' = scrM c x dx r' w (applyO w s (.clear row col)) := by
  have ow : (rowAt s.rows row).length = w := rowAt_w hwd hr
  refine call_body 0 F rfl fun L => ?_
  have gr : (s.rows.map er)[row]? = some (er (rowAt s.rows row)) := by unfold rowAt; simp [hr]
  refine Ex.cons (Ex1.setL (a := r) (EvP.ev (t := er ((rowAt s.rows row).take col ++ List.replicate (w - col) Ecell)) (by
      have e : er ((rowAt s.rows row).take col ++ List.replicate (w - col) Ecell) = .lst (((rowAt s.rows row).take col).map ec ++ List.replicate (Int.toNat ((w : Int) - col)) (ec Ecell)) := by unfold er; rw [List.map_append, List.map_replicate, show Int.toNat ((w : Int) - col) = w - col by omega]
      rw [e, ← pick_to ec (rowAt s.rows row) (e := col) (by omega)]
      refine EvP.bin (EvP.slice (EvP.sub (EvP.attr X (by decide) (EvP.loc 0) inst_scr rfl) (EvP.loc 1) (sub_list (.owned (.tail _ (.tail _ (.head _)))) (Int.natCast_nonneg _) (by omega) gr)) .frozen .none (.some (EvP.loc 2)) (by simp; omega))
        (EvP.bin (EvP.list (EvP.one (EvP.empty B)) lt1k) (EvP.bin (EvP.attr X (by decide) (EvP.loc 0) inst_scr rfl) (EvP.loc 2) op_sub) (op_mulL (by omega) (by omega))) (op_addL .frozen .frozen ?_)
      rw [pick_to ec (rowAt s.rows row) (e := col) (by omega)]; simp; omega)
    ⟨EvP.attr X (by decide) (EvP.loc 0) inst_scr rfl, EvP.ev (EvP.loc 1) ⟨row, _, _, row, rfl, (List.perm_append_comm (l₁ := [(x, MObj.raw (instObj c dx)), (dx, .flds (scrF w (.adr r) s))]) (l₂ := [(r, .lst (s.rows.map er))])), by rw [List.length_map]; exact hr, by rw [List.length_map]; omega, .inl rfl, Ex.perm ?_ (Ex.nil ⟨rfl, r, rfl⟩)⟩⟩))
  rw [← List.map_set]
  exact List.perm_append_comm (l₁ := [(r, MObj.lst ((s.rows.set row ((rowAt s.rows row).take col ++ List.replicate (w - col) Ecell)).map er))]) (l₂ := [(x, MObj.raw (instObj c dx)), (dx, MObj.flds (scrF w (.adr r) s))])
theorem told_ok (B : Gl C) (X : PlainCls C c sFlds) (F : FnC C f (mkFd (mS 1) fx) (fnBody (mS 1)) ["self"]) (hwd : Wd w s.rows) (hw : w < 999) (hz : s.rows.length < 999) :
    CallM C 1 [(x, .raw (instObj c dx)), (dx, .flds (scrF w (es s.rows) s))] (.ref f) [.adr x] fun t μ' => t = .tup (s.rows.map fun r => .tup (r.map ec)) ∧ μ' = [(x, .raw (instObj c dx)), (dx, .flds (scrF w (es s.rows) s))] := by
  refine call_body 0 F rfl fun L => ?_
  have I : InstM [(x, MObj.raw (instObj c dx)), (dx, MObj.flds (scrF w (es s.rows) s))] x c dx (scrF w (es s.rows) s) := ⟨.head _, .tail _ (.head _)⟩
  refine Ex.cons (Ex1.ret (EvP.ev (t := T.tup (s.rows.map fun r : List Cell => T.tup (List.map ec r))) (EvP.callB B.tuple .type (EvP.one (EvP.mapComp (cl := []) (CompRun.map [] (as := s.rows) (g := fun r : List Cell => T.tup (r.map ec)) (tg := fun i ρ => ρ.set 1 (some (er (s.rows.getD i []))))
    (CompOK.of (by kernel_rfl) rfl (by kernel_rfl) (by kernel_rfl) (by kernel_rfl)) (by omega)
    (IterOK.listM (EvP.attr X (by decide) (EvP.loc 0) I rfl))
    (fun Ca i hi => by
      show TgtL C 0 _ _ (fun P h v => Rep P v ((s.rows.map er).getD i .none)) _
      rw [getD_map hi, show s.rows[i] = s.rows.getD i [] by simp [List.getD_eq_getElem?_getD, hi]]
      exact TgtL.name (i := 1) rfl)
    (fun Ca i hi => EvP.callB B.tuple .type (EvP.one (EvP.loc 1)) (tuple_list .frozen (by rw [List.length_map]; have := rowAt_w (j := i) hwd hi; unfold rowAt at this; omega)) rfl (by decide) nostar1) (by intro _; rfl)))) (tuple_list .frozen (by rw [List.length_map]; omega)) rfl (by decide) nostar1) ⟨rfl, rfl⟩))
end
end Mine

namespace Mine
noncomputable def HasM (C : Cfg) (c : Addr) (name : Str) (spec : Value → Prop) : Prop := ∃ f, Meth C c name f ∧ (∃ o fd, C.g0.get? f = some o ∧ o.data = .func fd) ∧ spec (.ref f)
section
variable {C : Cfg} {k : Nat} {env : Env} {ρ : List (Option T)} {μ : Mem} {f : Addr} {fx : FX} {Ψ : Out → Prop} {Φ : T → Mem → Prop}
variable {c x dx r : Addr} {w : Nat} {s : SS}
theorem Ev.methH {n name : Str} {np ap cp : Pos} {es : List Expr} {ts : List T} {fs : List (Str × T)} {spec : Value → Prop} {Φ1 : T → Mem → Prop} (μ1 μ2 : Mem) (pm : μ.Perm (μ1 ++ μ2)) (X : PlainCls C c sFlds) (H : HasM C c name spec) (hn : EvP C k env (.Name n np) ρ μ (.adr x)) (I : InstM μ x c dx fs) (hl : fs.lookup name = none)
    (he : EvPs C k env es cp ρ μ ts) (h3 : ∀ f, spec f → CallM C k μ1 f (.adr x :: ts) Φ1) (hΦ : ∀ t μ1', Φ1 t μ1' → Φ t (μ1' ++ μ2)) (hs : ∀ e ∈ es, isStarred e = false) (hline : (ap.endLine == cp.line) = true := by rfl)
    (hform : methodCallForm (es.length + ([] : List Keyword).length) (backTo cp (starEach es env)) (backToKw cp (keywordEach [] env)) = true := by rfl) : Ev C k env (.Call (.Attribute (.Name n np) name ap) es [] cp) ρ μ Φ :=
  let ⟨_, a, b, s⟩ := H
  Ev.methodOwn μ1 μ2 pm X a b hn I hl he (h3 _ s) hΦ hs hline hform
theorem blank_rows_ok (B : Gl C) (X : PlainCls C c sFlds) (F : FnC C f (mkFd (mS 2) fx) (fnBody (mS 2)) ["self", "many"]) {many : Nat} (hw : w < 999) (hm : many < 999) :
    CallM C 1 (scrM c x dx r w s) (.ref f) [.adr x, .int many] fun t μ' => t = es (List.replicate many (blankR w)) ∧ μ' = scrM c x dx r w s := by
  have ew : T.lst (List.replicate (Int.toNat (w : Int)) (ec Ecell)) = er (blankR w) := by unfold er blankR; rw [List.map_replicate]; rfl
  refine call_body 0 F rfl fun L => ?_
  refine Ex.cons (Ex1.ret (Ev.frz (Ev.comp (n := many) (μ1 := scrM c x dx r w s) (μ2 := []) (J := fun i ys μi => μi = scrM c x dx r w s ∧ ys = (List.replicate i (blankR w)).map er) (cl := [("self", L + 1)]) (tg := fun i ρ => ρ.set 1 (some (.int (i : Nat))))
    ⟨CompOK.of (by kernel_rfl) rfl (by kernel_rfl) (by kernel_rfl) (by kernel_rfl), by rw [List.append_nil], by omega,
      IterOK.range (n := (many : Int)) (Tr.bt B.range) rfl (EvP.one (EvP.loc 1)) (Int.natCast_nonneg _) (by omega), fun Ca i hi => TgtL.name (i := 1) rfl, ⟨rfl, rfl⟩,
      fun Ca i ys μi hi hJ => ⟨true, TestsB.nil, fun _ => ?_, fun h => nomatch h⟩, by intro _; rfl⟩ fun D ys μf hJ => ⟨D, ys, _, rfl, .refl _, ?_⟩)))
  · obtain ⟨rfl, rfl⟩ := hJ
    refine EvP.ev (t := er (blankR w)) ?_ ⟨rfl, by rw [List.replicate_succ', List.map_append]; rfl⟩
    rw [← ew]
    exact EvP.bin (EvP.list (EvP.one (EvP.empty B)) lt1k) (EvP.attr X (by decide) (EvP.cel 3) inst_scr rfl) (op_mulL (Int.natCast_nonneg _) (by omega))
  · obtain ⟨rfl, rfl⟩ := hJ
    exact ⟨rfl, List.append_nil _⟩
noncomputable abbrev BlankM (C : Cfg) (c : Addr) : Prop := HasM C c "blank_rows" fun f => ∀ {x dx r : Addr} {w : Nat} {s : SS} {many : Nat}, w < 999 → many < 999 → CallM C 1 (scrM c x dx r w s) f [.adr x, .int many] fun t μ' => t = es (List.replicate many (blankR w)) ∧ μ' = scrM c x dx r w s
theorem sliceRows {v : Expr} {e1 e2 : Expr} {p p' : Pos} {a b : Nat} {l : T} {rows : Scr} (h : EvP C k env v ρ μ l) (hl : LstAt C μ l (rows.map er)) (h1 : EvP C k env e1 ρ μ (.int a)) (h2 : EvP C k env e2 ρ μ (.int b)) (ha : a ≤ rows.length) (hb : b ≤ rows.length) (hz : rows.length < 999) : EvP C k env (.Subscript v (.Slice (some e1) (some e2) none p) p') ρ μ (es ((rows.drop a).take (b - a))) := by
  have := EvP.slice (p := p) (p' := p') h hl (.some h1) (.some h2) (by rw [List.length_map]; omega)
  rwa [pick_mid er rows ha hb] at this
theorem sliceTo {v : Expr} {e2 : Expr} {p p' : Pos} {b : Nat} {l : T} {rows : Scr} (h : EvP C k env v ρ μ l) (hl : LstAt C μ l (rows.map er)) (h2 : EvP C k env e2 ρ μ (.int b)) (hb : b ≤ rows.length) (hz : rows.length < 999) : EvP C k env (.Subscript v (.Slice none (some e2) none p) p') ρ μ (es (rows.take b)) := by
  have := EvP.slice (p := p) (p' := p') h hl .none (.some h2) (by rw [List.length_map]; omega)
  rwa [pick_to er rows hb] at this
theorem sliceFrom {v : Expr} {e1 : Expr} {p p' : Pos} {a : Nat} {l : T} {rows : Scr} (h : EvP C k env v ρ μ l) (hl : LstAt C μ l (rows.map er)) (h1 : EvP C k env e1 ρ μ (.int a)) (ha : a ≤ rows.length) (hz : rows.length < 999) : EvP C k env (.Subscript v (.Slice (some e1) none none p) p') ρ μ (es (rows.drop a)) := by
  have := EvP.slice (p := p) (p' := p') h hl (.some h1) .none (by rw [List.length_map]; omega)
  rwa [pick_from er rows ha] at this
theorem add_scr {a b : Scr} (hz : a.length + b.length < 999999) : Op2 C k μ (binaryOp .Add) (es a) (es b) fun P v => Rep P v (es (a ++ b)) := by
  have := op_addL (C := C) (k := k) (μ := μ) (xs := a.map er) (ys := b.map er) .frozen .frozen (by rw [List.length_map, List.length_map]; omega)
  rwa [← List.map_append] at this
theorem perm4 {α : Type} {a b c d : α} : [a, b, c, d].Perm ([d, a, c] ++ [b]) := (List.perm_append_comm (l₁ := [a, b, c]) (l₂ := [d])).trans (.cons _ (.cons _ (.swap ..)))
theorem insert_ok (B : Gl C) (X : PlainCls C c sFlds) (MB : BlankM C c) (F : FnC C f (mkFd (mS 5) fx) (fnBody (mS 5)) ["self", "row", "many", "bottom"]) {row many bot : Nat} (hw : w < 999) (hz : s.rows.length < 999) (h1 : row + many ≤ bot) (h2 : bot ≤ s.rows.length) :
    CallM C 2 (scrM c x dx r w s) (.ref f) [.adr x, .int row, .int many, .int bot] fun t μ' => t = .none ∧ ∃ r', μ' = scrM c x dx r' w (applyO w s (.insert row many bot)) := by
  refine call_body 1 F rfl fun L => ?_
  have eb : (bot : Int) - many = ((bot - many : Nat) : Int) := by omega
  refine Ex.cons (Ex1.assign (i := 4) (EvP.ev (sliceRows (a := row) (b := bot - many) (EvP.attr X (by decide) (EvP.loc 0) inst_scr rfl) (.owned (.tail _ (.tail _ (.head _)))) (EvP.loc 1) (eb ▸ EvP.bin (EvP.loc 3) (EvP.loc 2) op_sub) (by omega) (by omega) hz) ?_) rfl (.inl rfl) (by rfl))
  refine Ex.cons (Ex1.setA (x := x) (dx := dx) X (by decide) (Ev.addOwnE (Ev.bin (Ev.bin (EvP.ev (sliceTo (b := row) (EvP.attr X (by decide) (EvP.loc 0) inst_scr rfl) (.owned (.tail _ (.tail _ (.head _)))) (EvP.loc 1) (by omega) hz)
    (Ev.methH (scrM c x dx r w s) [] (by rw [List.append_nil]) X MB (EvP.loc 0) inst_scr rfl (EvP.one (EvP.loc 2)) (fun f s => s hw (by omega)) (fun t μ1' hp => ?_) nostar1))))))
  obtain ⟨rfl, rfl⟩ := hp
  rw [List.append_nil]
  refine ⟨_, add_scr (by simp; omega), EvP.ev (EvP.loc 4) ⟨_, add_scr (by simp; omega), EvP.ev (sliceFrom (a := bot) (EvP.attr X (by decide) (EvP.loc 0) inst_scr rfl) (.owned (.tail _ (.tail _ (.head _)))) (EvP.loc 3) h2 hz) ⟨_, _, .frozen, .frozen, by simp; omega, fun d => ⟨EvP.loc 0, scrF w (.adr r) s, _, .tail _ (.head _), (List.perm_append_comm (l₁ := [(d, MObj.lst _), (x, MObj.raw (instObj c dx))]) (l₂ := [(dx, .flds (scrF w (.adr r) s)), (r, _)])), Nat.le_of_ble_eq_true rfl, Ex.part (scrM c x dx d w (applyO w s (.insert row many bot))) [(r, .lst (s.rows.map er))] ?_ (Ex.nil ⟨rfl, d, rfl⟩)⟩⟩⟩⟩
  have e : (s.rows.take row ++ List.replicate many (blankR w) ++ (s.rows.drop row).take (bot - many - row)).map er ++ (s.rows.drop bot).map er = (applyO w s (.insert row many bot)).rows.map er := by rw [← List.map_append]; rfl
  rw [e]
  exact perm4
theorem delete_ok (B : Gl C) (X : PlainCls C c sFlds) (MB : BlankM C c) (F : FnC C f (mkFd (mS 6) fx) (fnBody (mS 6)) ["self", "row", "many", "bottom"]) {row many bot : Nat} (hw : w < 999) (hz : s.rows.length < 999) (h1 : row + many ≤ bot) (h2 : bot ≤ s.rows.length) :
    CallM C 2 (scrM c x dx r w s) (.ref f) [.adr x, .int row, .int many, .int bot] fun t μ' => t = .none ∧ ∃ r', μ' = scrM c x dx r' w (applyO w s (.delete row many bot)) := by
  refine call_body 1 F rfl fun L => ?_
  refine Ex.cons (Ex1.assign (i := 4) (EvP.ev (sliceRows (a := row + many) (b := bot) (EvP.attr X (by decide) (EvP.loc 0) inst_scr rfl) (.owned (.tail _ (.tail _ (.head _)))) (EvP.bin (EvP.loc 1) (EvP.loc 2) op_add) (EvP.loc 3) (by omega) (by omega) hz) ?_) rfl (.inl rfl) (by rfl))
  refine Ex.cons (Ex1.setA (x := x) (dx := dx) X (by decide) (Ev.addOwnE (Ev.bin (Ev.bin (EvP.ev (sliceTo (b := row) (EvP.attr X (by decide) (EvP.loc 0) inst_scr rfl) (.owned (.tail _ (.tail _ (.head _)))) (EvP.loc 1) (by omega) hz)
    (EvP.ev (EvP.loc 4) ⟨_, add_scr (by simp; omega), Ev.methH (scrM c x dx r w s) [] (by rw [List.append_nil]) X MB (EvP.loc 0) inst_scr rfl (EvP.one (EvP.loc 2)) (fun f s => s hw (by omega)) (fun t μ1' hp => ?_) nostar1⟩))))))
  obtain ⟨rfl, rfl⟩ := hp
  rw [List.append_nil]
  refine ⟨_, add_scr (by simp; omega), EvP.ev (sliceFrom (a := bot) (EvP.attr X (by decide) (EvP.loc 0) inst_scr rfl) (.owned (.tail _ (.tail _ (.head _)))) (EvP.loc 3) h2 hz) ⟨_, _, .frozen, .frozen, by simp; omega, fun d => ⟨EvP.loc 0, scrF w (.adr r) s, _, .tail _ (.head _), (List.perm_append_comm (l₁ := [(d, MObj.lst _), (x, MObj.raw (instObj c dx))]) (l₂ := [(dx, .flds (scrF w (.adr r) s)), (r, _)])), Nat.le_of_ble_eq_true rfl, Ex.part (scrM c x dx d w (applyO w s (.delete row many bot))) [(r, .lst (s.rows.map er))] ?_ (Ex.nil ⟨rfl, d, rfl⟩)⟩⟩⟩
  have e : (s.rows.take row ++ (s.rows.drop (row + many)).take (bot - (row + many)) ++ List.replicate many (blankR w)).map er ++ (s.rows.drop bot).map er = (applyO w s (.delete row many bot)).rows.map er := by rw [← List.map_append]; rfl
  rw [e]
  exact perm4
end
end Mine

namespace Mine
section
variable {C : Cfg} {k : Nat} {env : Env} {ρ : List (Option T)} {μ : Mem} {f : Addr} {fx : FX} {Ψ : Out → Prop} {Φ : T → Mem → Prop}
variable {c x dx r : Addr} {w : Nat} {s : SS}
noncomputable abbrev WriteM (C : Cfg) (c : Addr) : Prop := HasM C c "write" fun f => ∀ {x dx r : Addr} {w : Nat} {s : SS} {ct : T} {cells : List Cell} {row col : Nat}, (ct = .tup (cells.map ec) ∨ ct = .lst (cells.map ec)) → w < 999 → Wd w s.rows → s.rows.length < 999 → row < s.rows.length → col + cells.length ≤ w →
    CallM C 1 (scrM c x dx r w s) f [.adr x, .int row, .int col, ct] fun t μ' => t = .none ∧ ∃ r', μ' = scrM c x dx r' w (applyO w s (.write row col cells))
noncomputable abbrev ClearM (C : Cfg) (c : Addr) : Prop := HasM C c "clear" fun f => ∀ {x dx r : Addr} {w : Nat} {s : SS} {row col : Nat}, w < 999 → Wd w s.rows → s.rows.length < 999 → row < s.rows.length → col ≤ w →
    CallM C 1 (scrM c x dx r w s) f [.adr x, .int row, .int col] fun t μ' => t = .none ∧ ∃ r', μ' = scrM c x dx r' w (applyO w s (.clear row col))
noncomputable abbrev InsertM (C : Cfg) (c : Addr) : Prop := HasM C c "insert" fun f => ∀ {x dx r : Addr} {w : Nat} {s : SS} {row many bot : Nat}, w < 999 → s.rows.length < 999 → row + many ≤ bot → bot ≤ s.rows.length →
    CallM C 2 (scrM c x dx r w s) f [.adr x, .int row, .int many, .int bot] fun t μ' => t = .none ∧ ∃ r', μ' = scrM c x dx r' w (applyO w s (.insert row many bot))
noncomputable abbrev DeleteM (C : Cfg) (c : Addr) : Prop := HasM C c "delete" fun f => ∀ {x dx r : Addr} {w : Nat} {s : SS} {row many bot : Nat}, w < 999 → s.rows.length < 999 → row + many ≤ bot → bot ≤ s.rows.length →
    CallM C 2 (scrM c x dx r w s) f [.adr x, .int row, .int many, .int bot] fun t μ' => t = .none ∧ ∃ r', μ' = scrM c x dx r' w (applyO w s (.delete row many bot))
structure ScrMs (C : Cfg) (c : Addr) : Prop where
  write : WriteM C c
  clear : ClearM C c
  insert : InsertM C c
  delete : DeleteM C c
/-- the word of an order against another word -/
theorem isO {nm : Str} {np p wp : Pos} {j : Nat} {y z : Str} (h : EvP C k env (.Name nm np) ρ μ (.str y)) : EvB C k env (.Compare (.Name nm np) [.Eq] [.Constant (.str z) j wp] p) ρ μ (y == z) := EvB.cmp h .str op_eqS rfl
theorem carry_ok (B : Gl C) (X : PlainCls C c sFlds) (MS : ScrMs C c) (F : FnC C f (mkFd (mS 7) fx) (fnBody (mS 7)) ["self", "order"]) {o : Ord} (hw : w < 999) (hwd : Wd w s.rows) (hz : s.rows.length < 999) (ho : OkO w s.rows.length o) :
    CallM C 3 (scrM c x dx r w s) (.ref f) [.adr x, eo o] fun t μ' => t = .none ∧ ∃ r', μ' = scrM c x dx r' w (applyO w s o) := by
  refine call_body 1 F rfl fun L => ?_
  cases o with
  | write row col cells =>
    refine Ex.cons (Ex1.assign (i := 2) (EvP.ev (EvP.sub (EvP.loc 1) .int (sub_tuple (by decide) (by decide) rfl)) ?_) rfl (.inl rfl) (by rfl))
    refine Ex.cons (Ex1.ite (isO (EvP.loc 2)) (fun _ => ?_) fun h => absurd h (by decide))
    refine Ex.cons (Ex1.expr (Ev.methH (scrM c x dx r w s) [] (by rw [List.append_nil]) X MS.write (EvP.loc 0) inst_scr rfl (EvP.three (EvP.sub (EvP.loc 1) .int (sub_tuple (by decide) (by decide) rfl)) (EvP.sub (EvP.loc 1) .int (sub_tuple (n := 2) (by decide) (by decide) rfl)) (EvP.sub (EvP.loc 1) .int (sub_tuple (n := 3) (by decide) (by decide) rfl)))
      (fun f m => (m (cells := cells) (.inl rfl) hw hwd hz ho.1 ho.2).le (by decide)) (fun t μ1' hp => ⟨hp.1, Ex.nil (Ex.nil ⟨rfl, ?_⟩)⟩) nostar3))
    obtain ⟨_, r', rfl⟩ := hp
    exact ⟨r', List.append_nil _⟩
  | clear row col =>
    refine Ex.cons (Ex1.assign (i := 2) (EvP.ev (EvP.sub (EvP.loc 1) .int (sub_tuple (by decide) (by decide) rfl)) ?_) rfl (.inl rfl) (by rfl))
    refine Ex.cons (Ex1.ite (isO (EvP.loc 2)) (fun h => absurd h (by decide)) fun _ => ?_)
    refine Ex.cons (Ex1.ite (isO (EvP.loc 2)) (fun _ => ?_) fun h => absurd h (by decide))
    refine Ex.cons (Ex1.expr (Ev.methH (scrM c x dx r w s) [] (by rw [List.append_nil]) X MS.clear (EvP.loc 0) inst_scr rfl (EvP.two (EvP.sub (EvP.loc 1) .int (sub_tuple (by decide) (by decide) rfl)) (EvP.sub (EvP.loc 1) .int (sub_tuple (n := 2) (by decide) (by decide) rfl)))
      (fun f m => (m hw hwd hz ho.1 ho.2).le (by decide)) (fun t μ1' hp => ⟨hp.1, Ex.nil (Ex.nil (Ex.nil ⟨rfl, ?_⟩))⟩) nostar2))
    obtain ⟨_, r', rfl⟩ := hp
    exact ⟨r', List.append_nil _⟩
  | insert row many bot =>
    refine Ex.cons (Ex1.assign (i := 2) (EvP.ev (EvP.sub (EvP.loc 1) .int (sub_tuple (by decide) (by decide) rfl)) ?_) rfl (.inl rfl) (by rfl))
    refine Ex.cons (Ex1.ite (isO (EvP.loc 2)) (fun h => absurd h (by decide)) fun _ => ?_)
    refine Ex.cons (Ex1.ite (isO (EvP.loc 2)) (fun h => absurd h (by decide)) fun _ => ?_)
    refine Ex.cons (Ex1.ite (isO (EvP.loc 2)) (fun _ => ?_) fun h => absurd h (by decide))
    refine Ex.cons (Ex1.expr (Ev.methH (scrM c x dx r w s) [] (by rw [List.append_nil]) X MS.insert (EvP.loc 0) inst_scr rfl (EvP.three (EvP.sub (EvP.loc 1) .int (sub_tuple (by decide) (by decide) rfl)) (EvP.sub (EvP.loc 1) .int (sub_tuple (n := 2) (by decide) (by decide) rfl)) (EvP.sub (EvP.loc 1) .int (sub_tuple (n := 3) (by decide) (by decide) rfl)))
      (fun f m => (m hw hz ho.1 ho.2).le (by decide)) (fun t μ1' hp => ⟨hp.1, Ex.nil (Ex.nil (Ex.nil (Ex.nil ⟨rfl, ?_⟩)))⟩) nostar3))
    obtain ⟨_, r', rfl⟩ := hp
    exact ⟨r', List.append_nil _⟩
  | delete row many bot =>
    refine Ex.cons (Ex1.assign (i := 2) (EvP.ev (EvP.sub (EvP.loc 1) .int (sub_tuple (by decide) (by decide) rfl)) ?_) rfl (.inl rfl) (by rfl))
    refine Ex.cons (Ex1.ite (isO (EvP.loc 2)) (fun h => absurd h (by decide)) fun _ => ?_)
    refine Ex.cons (Ex1.ite (isO (EvP.loc 2)) (fun h => absurd h (by decide)) fun _ => ?_)
    refine Ex.cons (Ex1.ite (isO (EvP.loc 2)) (fun h => absurd h (by decide)) fun _ => ?_)
    refine Ex.cons (Ex1.ite (isO (EvP.loc 2)) (fun _ => ?_) fun h => absurd h (by decide))
    refine Ex.cons (Ex1.expr (Ev.methH (scrM c x dx r w s) [] (by rw [List.append_nil]) X MS.delete (EvP.loc 0) inst_scr rfl (EvP.three (EvP.sub (EvP.loc 1) .int (sub_tuple (by decide) (by decide) rfl)) (EvP.sub (EvP.loc 1) .int (sub_tuple (n := 2) (by decide) (by decide) rfl)) (EvP.sub (EvP.loc 1) .int (sub_tuple (n := 3) (by decide) (by decide) rfl)))
      (fun f m => (m hw hz ho.1 ho.2).le (by decide)) (fun t μ1' hp => ⟨hp.1, Ex.nil (Ex.nil (Ex.nil (Ex.nil (Ex.nil ⟨rfl, ?_⟩))))⟩) nostar3))
    obtain ⟨_, r', rfl⟩ := hp
    exact ⟨r', List.append_nil _⟩
  | cursor a b =>
    refine Ex.cons (Ex1.assign (i := 2) (EvP.ev (EvP.sub (EvP.loc 1) .int (sub_tuple (by decide) (by decide) rfl)) ?_) rfl (.inl rfl) (by rfl))
    refine Ex.cons (Ex1.ite (isO (EvP.loc 2)) (fun h => absurd h (by decide)) fun _ => ?_)
    refine Ex.cons (Ex1.ite (isO (EvP.loc 2)) (fun h => absurd h (by decide)) fun _ => ?_)
    refine Ex.cons (Ex1.ite (isO (EvP.loc 2)) (fun h => absurd h (by decide)) fun _ => ?_)
    refine Ex.cons (Ex1.ite (isO (EvP.loc 2)) (fun h => absurd h (by decide)) fun _ => ?_)
    refine Ex.cons (Ex1.setA (x := x) (dx := dx) X (by decide) (EvP.ev (EvP.tuple (EvP.two (EvP.sub (EvP.loc 1) .int (sub_tuple (by decide) (by decide) rfl)) (EvP.sub (EvP.loc 1) .int (sub_tuple (n := 2) (by decide) (by decide) rfl))) lt1k) ⟨EvP.loc 0, scrF w (.adr r) s, _, .head _, .swap .., Nat.le_of_ble_eq_true rfl, Ex.perm (.swap ..) (Ex.nil (Ex.nil (Ex.nil (Ex.nil (Ex.nil ⟨rfl, r, rfl⟩)))))⟩))
theorem init_ok (B : Gl C) (X : PlainCls C c sFlds) (F : FnC C f (mkFd (mS 0) fx) (fnBody (mS 0)) ["self", "width", "height"]) {h : Nat} (hw : w < 999) (hh : h < 999) :
    CallM C 1 [(x, .raw (instObj c dx)), (dx, .flds [])] (.ref f) [.adr x, .int w, .int h] fun t μ' => t = .none ∧ ∃ r', μ' = scrM c x dx r' w ⟨List.replicate h (blankR w), 0, 0, 0⟩ := by
  have ew : T.lst (List.replicate (Int.toNat (w : Int)) (ec Ecell)) = er (blankR w) := by unfold er blankR; rw [List.map_replicate]; rfl
  refine call_body 0 F rfl fun L => ?_
  refine Ex.cons (Ex1.setA (x := x) (dx := dx) X (by decide) (EvP.ev (EvP.cel 1) ⟨EvP.loc 0, [], _, .head _, .swap .., by decide, ?_⟩))
  refine Ex.cons (Ex1.setA (x := x) (dx := dx) X (by decide) (Ev.comp (n := h) (μ1 := []) (J := fun i ys μi => μi = [] ∧ ys = (List.replicate i (blankR w)).map er) (cl := [("width", L + 1)]) (tg := fun i ρ => ρ.set 1 (some (.int (i : Nat))))
    ⟨CompOK.of (by kernel_rfl) rfl (by kernel_rfl) (by kernel_rfl) (by kernel_rfl), .refl _, by omega,
      IterOK.range (n := (h : Int)) (Tr.bt B.range) rfl (EvP.one (EvP.loc 2)) (Int.natCast_nonneg _) (by omega), fun Ca i hi => TgtL.name (i := 1) rfl, ⟨rfl, rfl⟩,
      fun Ca i ys μi hi hJ => ⟨true, TestsB.nil, fun _ => ?_, fun h => nomatch h⟩, by intro _; rfl⟩ fun D ys μf hJ => ?_))
  · obtain ⟨rfl, rfl⟩ := hJ
    refine EvP.ev (t := er (blankR w)) ?_ ⟨rfl, by rw [List.replicate_succ', List.map_append]; rfl⟩
    rw [← ew]
    exact EvP.bin (EvP.list (EvP.one (EvP.empty B)) lt1k) (EvP.cel 3) (op_mulL (Int.natCast_nonneg _) (by omega))
  · obtain ⟨rfl, rfl⟩ := hJ
    refine ⟨EvP.loc 0, [("width", .int w)], _, .tail _ (.tail _ (.head _)), .swap .., Nat.le_of_ble_eq_true rfl, ?_⟩
    refine Ex.cons (Ex1.setA (x := x) (dx := dx) X (by decide) (EvP.ev (EvP.tuple (EvP.two .int .int) lt1k) ⟨EvP.loc 0, [("width", .int w), ("rows", .adr D)], _, .tail _ (.tail _ (.head _)), .refl _, Nat.le_of_ble_eq_true rfl, ?_⟩))
    refine Ex.cons (Ex1.setA (x := x) (dx := dx) X (by decide) (EvP.ev .int ⟨EvP.loc 0, [("width", .int w), ("rows", .adr D), ("cursor", .tup [.int 0, .int 0])], _, .tail _ (.tail _ (.head _)), .refl _, Nat.le_of_ble_eq_true rfl, ?_⟩))
    refine Ex.perm ?_ (Ex.nil ⟨rfl, D, rfl⟩)
    exact List.perm_append_comm (l₁ := [(dx, MObj.flds (scrF w (.adr D) ⟨List.replicate h (blankR w), 0, 0, 0⟩)), (D, .lst ((List.replicate h (blankR w)).map er))]) (l₂ := [(x, MObj.raw (instObj c dx))])
end
end Mine

namespace Mine
theorem pick_toN {α : Type} (f : α → T) (l : List α) (e : Nat) : pickT (l.map f) none (some (e : Int)) = (l.take e).map f := by
  rcases Nat.le_total e l.length with h | h
  · exact pick_to f l h
  · unfold pickT kms_lo kms_hi
    simp only [List.length_map, Int.toNat_natCast, List.drop_zero, Nat.sub_zero]
    rw [if_neg (by omega), Nat.min_eq_right h, List.take_of_length_le (by simp), List.take_of_length_le h]
theorem getD_mapD {α : Type} {g : α → T} {l : List α} {i : Nat} (d : α) (h : i < l.length) : (l.map g).getD i .none = g (l.getD i d) := by simp [List.getD_eq_getElem?_getD, h]
noncomputable abbrev potL (cs : List Int) (a : Nat) (m : Int) : MObj := .lst [.lst (cs.map .int), .int (a : Nat), .int m]
/-- the pot: cells for dice, the next one's place, and a seed -/
noncomputable def Pot (p : Addr) (cs : List Int) (μ : Mem) : Prop := ∃ a m, μ = [(p, potL cs a m)] ∧ 0 ≤ m ∧ m < 66000
section
variable {C : Cfg} {k : Nat} {env : Env} {ρ : List (Option T)} {μ : Mem} {f : Addr} {fx : FX} {Ψ : Out → Prop} {Φ : T → Mem → Prop}
theorem fmod_lt {a : Int} {b : Nat} (h : 0 < b) : ∃ v : Nat, Int.fmod a b = (v : Int) ∧ v < b := by
  have h0 : (0 : Int) < b := by omega
  have h1 := Int.fmod_nonneg_of_pos a h0
  have h2 := Int.fmod_lt_of_pos a h0
  exact ⟨(Int.fmod a b).toNat, by omega, by omega⟩
theorem pot_ok (B : Gl C) (F : FnC C f (mkFd (topS 20) fx) (fnBody (topS 20)) ["script"]) {l : Addr} {ns : List Int} (hl : LstAt C [] (.adr l) (ns.map .int)) (hn : ns.length < 1000) :
    CallM C 1 [] (.ref f) [.adr l] fun t μ' => ∃ p cs, t = .adr p ∧ cs.length < 1000 ∧ Pot p cs μ' := by
  refine call_body 1 F rfl fun L => ?_
  refine Ex.cons (Ex1.assignComp (cl := []) (i := 1) (CompRun.map 0 (as := ns.take 48) (g := fun c : Int => T.int (Int.fmod (if c < 0 then -c else c) 1000003)) (tg := fun i ρ => ρ.set 1 (some (.int ((ns.take 48).getD i 0))))
    (CompOK.of (by kernel_rfl) rfl (by kernel_rfl) (by kernel_rfl) (by kernel_rfl)) (by rw [List.length_take]; omega)
    (IterOK.listM (g := T.int) (by rw [← pick_toN]; exact EvP.slice (EvP.loc 0) hl .none (.some .int) (by rw [List.length_map]; omega)))
    (fun Ca i hi => by
      show TgtL C 0 _ _ (fun P h v => Rep P v (((ns.take 48).map T.int).getD i .none)) _
      rw [getD_mapD 0 hi]
      exact TgtL.name (i := 1) rfl)
    (fun Ca i hi => EvP.bin (EvP.callB B.abs .builtin (EvP.one (EvP.loc 1)) abs_int rfl (by decide) nostar1) .int (op_mod (by decide))) (by intro _; rfl)) rfl (fun D ys μf hJ => ?_) (by rfl))
  obtain ⟨rfl, rfl⟩ := hJ
  have e : ((ns.take 48).take (ns.take 48).length).map (fun c : Int => T.int (Int.fmod (if c < 0 then -c else c) 1000003)) = (((ns.take 48)).map fun c => Int.fmod (if c < 0 then -c else c) 1000003).map T.int := by rw [List.take_length, List.map_map]; rfl
  rw [e]
  have cl : (((ns.take 48)).map fun c => Int.fmod (if c < 0 then -c else c) 1000003).length < 1000 := by rw [List.length_map, List.length_take]; omega
  generalize ((ns.take 48)).map (fun c => Int.fmod (if c < 0 then -c else c) 1000003) = cs at cl
  refine Ex.freeze 1 [] (.refl _) rfl ?_
  obtain ⟨v, hv, hlt⟩ := fmod_lt (a := cs.sum) (b := 65519) (by decide)
  refine Ex.cons (Ex1.ret (Ev.newL (EvP.three (EvP.loc 1) .int (EvP.bin .int (EvP.bin (EvP.callB B.sum .builtin (EvP.one (EvP.loc 1)) sum_ints rfl (by decide) nostar1) .int (op_mod (by decide))) op_add)) lt1k fun p => ⟨p, cs, rfl, cl, 0, _, rfl, ?_, ?_⟩))
  · have hv' : cs.sum.fmod 65519 = v := hv
    rw [hv']; omega
  · have hv' : cs.sum.fmod 65519 = v := hv
    rw [hv']; omega
theorem dip_ok (B : Gl C) (F : FnC C f (mkFd (topS 21) fx) (fnBody (topS 21)) ["pot", "many"]) {p : Addr} {cs : List Int} {a many : Nat} {m : Int} (hc : cs.length < 1000) (hm : 0 < many) (h0 : 0 ≤ m) (h1 : m < 66000) :
    CallM C 1 [(p, potL cs a m)] (.ref f) [.adr p, .int many] fun t μ' => ∃ v : Nat, t = .int v ∧ v < many ∧ Pot p cs μ' := by
  refine call_body 1 F rfl fun L => ?_
  have lenC : CallOp C 0 [(p, potL cs (a + 1) m)] (.builtin "len") [.lst (cs.map .int)] (.int cs.length) := by
    have := len_list (C := C) (k := 0) (μ := [(p, potL cs (a + 1) m)]) (ts := cs.map T.int) .frozen (by rw [List.length_map]; omega)
    rwa [List.length_map] at this
  refine Ex.cons (Ex1.assign (i := 2) (EvP.ev (EvP.sub (EvP.loc 0) .int (sub_list (.owned (.head _)) (by decide) (by decide) rfl)) ?_) rfl (.inl rfl) (by rfl))
  refine Ex.cons (Ex1.setL (a := p) (EvP.ev (EvP.bin (EvP.loc 2) .int op_add) ⟨EvP.loc 0, EvP.ev .int ⟨1, _, [], 1, rfl, .refl _, Nat.le_of_ble_eq_true rfl, Nat.le_of_ble_eq_true rfl, .inl rfl, ?_⟩⟩))
  refine Ex.cons (Ex1.ite (c := decide (a < cs.length)) (EvB.cmp (EvP.loc 2) (EvP.callB B.len .builtin (EvP.one (EvP.sub (EvP.loc 0) .int (sub_list (.owned (.head _)) (by decide) (by decide) rfl))) lenC rfl (by decide) nostar1) (by have h := op_lt (C := C) (k := 0) (μ := [(p, potL cs (a + 1) m)]) (a := (a : Int)) (b := (cs.length : Int)); rwa [decide_eq_decide.mpr Int.ofNat_lt] at h) rfl) (fun h => ?_) fun h => Ex.nil ?_)
  · have h : a < cs.length := of_decide_eq_true h
    obtain ⟨v, hv, hlt⟩ := fmod_lt (a := cs[a]) hm
    refine Ex.cons (Ex1.ret (EvP.ev (EvP.bin (EvP.sub (EvP.sub (EvP.loc 0) .int (sub_list (.owned (.head _)) (by decide) (by decide) rfl)) (EvP.loc 2) (sub_list .frozen (t := .int cs[a]) (Int.natCast_nonneg _) (by omega) (by simp [h]))) (EvP.loc 1) (op_mod (by omega))) ⟨v, congrArg T.int hv, hlt, a + 1, m, rfl, h0, h1⟩))
  · obtain ⟨v, hv, hlt⟩ := fmod_lt (a := m * 75 + 74) (b := 65537) (by decide)
    obtain ⟨u, hu, hult⟩ := fmod_lt (a := (v : Int)) hm
    have hv' : (m * 75 + 74).fmod 65537 = v := hv
    refine Ex.cons (Ex1.setL (a := p) (EvP.ev (t := .int v) (by rw [← hv']; exact EvP.bin (EvP.bin (EvP.bin (EvP.sub (EvP.loc 0) .int (sub_list (.owned (.head _)) (by decide) (by decide) rfl)) .int (op_mul (IntMulOk.of_right (by decide)))) .int op_add) .int (op_mod (by decide))) ⟨EvP.loc 0, EvP.ev .int ⟨2, _, [], 2, rfl, .refl _, Nat.le_of_ble_eq_true rfl, Nat.le_of_ble_eq_true rfl, .inl rfl, ?_⟩⟩))
    exact Ex.cons (Ex1.ret (EvP.ev (EvP.bin (EvP.sub (EvP.loc 0) .int (sub_list (.owned (.head _)) (by decide) (by decide) rfl)) (EvP.loc 1) (op_mod (by omega))) ⟨u, congrArg T.int hu, hult, a + 1, v, rfl, by omega, by omega⟩))
end
end Mine

namespace Mine
section
variable {C : Cfg} {k : Nat} {env : Env} {ρ : List (Option T)} {μ : Mem} {f : Addr} {fx : FX} {Ψ : Out → Prop} {Φ : T → Mem → Prop}
noncomputable abbrev DipC (C : Cfg) : Prop := Has C "_law_dip" fun f => ∀ {p : Addr} {cs : List Int} {a many : Nat} {m : Int}, cs.length < 1000 → 0 < many → 0 ≤ m → m < 66000 → CallM C 1 [(p, potL cs a m)] f [.adr p, .int many] fun t μ' => ∃ v : Nat, t = .int v ∧ v < many ∧ Pot p cs μ'
noncomputable def cells6 : List Cell := [(97, 0), (98, 0), (97, 1), Ecell, Ecell, (99, 2)]
theorem EvPs.more {e : Expr} {es : List Expr} {p : Pos} {t : T} {ts : List T} (h : EvP C k env e ρ μ t) (h' : EvPs C k env es p ρ μ ts) (hs : starEach (e :: es) env = (false, eval e env) :: starEach es env := by rfl) : EvPs C k env (e :: es) p ρ μ (t :: ts) := .cons h h' hs
theorem EvP.pairI {a b : Int} {j ja jb : Nat} {p pa pb : Pos} : EvP C k env (.Tuple [.Constant (.int a) ja pa, .Constant (.int b) jb pb] j p) ρ μ (ec (a, b)) := EvP.tuple (EvP.two .int .int) lt1k
theorem row_ok (B : Gl C) (D : DipC C) (F : FnC C f (mkFd (topS 22) fx) (fnBody (topS 22)) ["pot", "width"]) {p : Addr} {cs : List Int} {a w : Nat} {m : Int} (hc : cs.length < 1000) (hw : w < 999) (h0 : 0 ≤ m) (h1 : m < 66000) :
    CallM C 2 [(p, potL cs a m)] (.ref f) [.adr p, .int w] fun t μ' => ∃ row : List Cell, t = er row ∧ row.length = w ∧ Pot p cs μ' := by
  refine call_body 1 F rfl fun L => ?_
  refine Ex.cons ?_
  refine @Ex1.assign _ _ _ _ _ _ _ _ _ _ 2 .cell ?_ ?_ ?_ ?_
  rotate_left
  · rfl
  · exact .inr rfl
  · rfl
  refine @EvP.ev _ _ _ _ _ _ (er cells6) _ (@EvP.list _ _ _ _ _ _ _ (cells6.map ec) (EvPs.more .pairI (EvPs.more .pairI (EvPs.more .pairI (EvPs.more (EvP.empty B) (EvPs.more (EvP.empty B) (EvPs.more .pairI .nil)))))) lt1k) ?_
  refine Ex.cons (Ex1.ret (Ev.frz (Ev.comp (n := w) (μ1 := [(p, potL cs a m)]) (μ2 := []) (J := fun i ys μi => ∃ row : List Cell, ys = row.map ec ∧ row.length = i ∧ Pot p cs μi) (cl := [("pot", L + 1), ("cells", L + 2)]) (tg := fun i ρ => ρ.set 1 (some (.int (i : Nat))))
    ⟨CompOK.of (by kernel_rfl) rfl (by kernel_rfl) (by kernel_rfl) (by kernel_rfl), .refl _, by omega,
      IterOK.range (n := (w : Int)) (Tr.bt B.range) rfl (EvP.one (EvP.loc 1)) (Int.natCast_nonneg _) (by omega), fun Ca i hi => TgtL.name (i := 1) rfl, ⟨[], rfl, rfl, a, m, rfl, h0, h1⟩,
      fun Ca i ys μi hi hJ => ⟨true, TestsB.nil, fun _ => ?_, fun h => nomatch h⟩, by intro _; rfl⟩ fun D ys μf hJ => ⟨D, ys, _, rfl, .refl _, ?_⟩)))
  · obtain ⟨row, rfl, rl, a', m', rfl, h0', h1'⟩ := hJ
    refine Ev.sub (EvP.ev (EvP.cel 3) (Ev.callH [(p, potL cs a' m')] [] (by rw [List.append_nil]) D (EvP.two (EvP.cel 4) .int) (fun f s => (s (many := 6) hc (by decide) h0' h1')) (fun t μ1' hp => ?_) nostar2))
    obtain ⟨v, rfl, hv, hP⟩ := hp
    refine ⟨ec (cells6.getD v default), sub_row rfl hv (by decide), row ++ [cells6.getD v default], by rw [List.map_append]; rfl, by rw [List.length_append, rl]; rfl, by rw [List.append_nil]; exact hP⟩
  · obtain ⟨row, rfl, rl, hP⟩ := hJ
    exact ⟨row, rfl, rl, by rw [List.append_nil]; exact hP⟩

/-! what the law asks of an order -/
noncomputable def IsO (w h : Nat) : Ord → Prop
  | .write r c cs => r < h ∧ cs ≠ [] ∧ c + cs.length ≤ w
  | .clear r c => r < h ∧ c < w
  | .insert r m b => 0 < m ∧ r + m ≤ h ∧ b = h
  | .delete r m b => 0 < m ∧ r + m ≤ h ∧ b = h
  | .cursor a b => (0 ≤ a ∧ a < h) ∧ 0 ≤ b ∧ b < w
theorem cells_ok (n : Nat) (cs : List Cell) : kqdOk (n + 2) (T.tup (cs.map ec)).toD = true := okT (fun c => ec_ok c n) cs
theorem ltlt {l m r : Expr} {p : Pos} {a b c : Int} (h1 : EvP C k env l ρ μ (.int a)) (h2 : EvP C k env m ρ μ (.int b)) (h3 : EvP C k env r ρ μ (.int c)) (hab : a ≤ b) (hbc : b < c) (hm : lastMarks [.LtE, .Lt] [m, r] = false := by with_unfolding_all rfl) : EvP C k env (.Compare l [.LtE, .Lt] [m, r] p) ρ μ (.bool true) := by
  have := EvP.chain2 (p := p) h1 h2 h3 op_le op_lt hm
  rwa [decide_eq_true hab, decide_eq_true hbc] at this
theorem ltltB {l m r : Expr} {p : Pos} {a b c : Int} (h1 : EvP C k env l ρ μ (.int a)) (h2 : EvP C k env m ρ μ (.int b)) (h3 : EvP C k env r ρ μ (.int c)) (hab : a ≤ b) (hbc : b < c) (hm : lastMarks [.LtE, .Lt] [m, r] = false := by with_unfolding_all rfl) : EvB C k env (.Compare l [.LtE, .Lt] [m, r] p) ρ μ true := by
  have := EvB.chain2 (p := p) h1 h2 h3 op_le op_lt hm
  rwa [decide_eq_true hab, decide_eq_true hbc] at this
theorem is_order_ok (B : Gl C) (F : FnC C f (mkFd (topS 24) fx) (fnBody (topS 24)) ["order", "width", "height"]) {o : Ord} {w h : Nat} (hw : w < 999) (hh : h < 999) (ho : IsO w h o) :
    CallM C 1 [] (.ref f) [eo o, .int w, .int h] fun t _ => t = .bool true := by
  refine call_body 0 F rfl fun L => ?_
  have nilT : kqdOk 9 (T.tup []).toD = true := by rw [T.toD, toDs, kqdOk]; rfl
  have runs : ∀ {r m b : Nat} {y : Str}, r + m ≤ h → b = h → 0 < m → (["insert", "delete"] : List Str).any (· == y) = true → Ex C 0 (callEnvC (mkFd (topS 24) fx) L f) (fnBody (topS 24)) [some (.tup [.str y, .int r, .int m, .int b]), some (.int w), some (.int h)] [] (Ret fun t _ => t = .bool true) := fun {r m b y} h1 h2 h3 hy => by
    refine Ex.cons (Ex1.ite (EvB.not (ltltB .int (EvP.sub (EvP.loc 0) .int (sub_tuple (n := 1) (by decide) (by decide) rfl)) (EvP.loc 2) (Int.natCast_nonneg r) (by omega))) (fun h => nomatch h) fun _ => Ex.nil ?_)
    refine Ex.cons (Ex1.ite (EvB.cmp (EvP.sub (EvP.loc 0) .int (sub_tuple (n := 0) (by decide) (by decide) rfl)) (EvP.tuple (EvP.two .str .str) lt1k) (op_inT (ys := ["insert", "delete"])) rfl) (fun _ => ?_) fun q => absurd (q.symm.trans hy) (by decide))
    refine Ex.cons (Ex1.ret (EvP.ev (t := .bool (true && (true && true))) (EvP.and_more (EvP.cmp (c := true) (EvP.sub (EvP.loc 0) .int (sub_tuple (n := 2) (by decide) (by decide) rfl)) .int (by have := op_gt0 (C := C) (k := 0) (μ := []) (a := m); rwa [decide_eq_true h3] at this) rfl) fun _ => EvP.and_one (EvP.chain2 (x := true) (y := true) (EvP.bin (EvP.sub (EvP.loc 0) .int (sub_tuple (n := 1) (by decide) (by decide) rfl)) (EvP.sub (EvP.loc 0) .int (sub_tuple (n := 2) (by decide) (by decide) rfl)) op_add) (EvP.sub (EvP.loc 0) .int (sub_tuple (n := 3) (by decide) (by decide) rfl)) (EvP.loc 2)
      (by have := op_le (C := C) (k := 0) (μ := []) (a := (r : Int) + m) (b := (b : Int)); rwa [decide_eq_true (by omega)] at this) (by have := op_eqI (C := C) (k := 0) (μ := []) (a := (b : Int)) (b := (h : Int)); rwa [show ((b : Int) == (h : Int)) = true by rw [h2]; exact beq_self_eq_true _] at this))) rfl))
  have ends : ∀ {a b : Int} {y : Str}, 0 ≤ a → a < h → 0 ≤ b → b < w → (["insert", "delete"] : List Str).any (· == y) = false → (y == "write") = false → (["clear", "cursor"] : List Str).any (· == y) = true → Ex C 0 (callEnvC (mkFd (topS 24) fx) L f) (fnBody (topS 24)) [some (.tup [.str y, .int a, .int b]), some (.int w), some (.int h)] [] (Ret fun t _ => t = .bool true) := fun {a b y} h1 h2 h3 h4 hy hy2 hy3 => by
    refine Ex.cons (Ex1.ite (EvB.not (ltltB .int (EvP.sub (EvP.loc 0) .int (sub_tuple (n := 1) (by decide) (by decide) rfl)) (EvP.loc 2) h1 h2)) (fun h => nomatch h) fun _ => Ex.nil ?_)
    refine Ex.cons (Ex1.ite (EvB.cmp (EvP.sub (EvP.loc 0) .int (sub_tuple (n := 0) (by decide) (by decide) rfl)) (EvP.tuple (EvP.two .str .str) lt1k) (op_inT (ys := ["insert", "delete"])) rfl) (fun q => absurd (q.symm.trans hy) (by decide)) fun _ => Ex.nil ?_)
    refine Ex.cons (Ex1.ite (EvB.cmp (EvP.sub (EvP.loc 0) .int (sub_tuple (n := 0) (by decide) (by decide) rfl)) .str op_eqS rfl) (fun q => absurd (q.symm.trans hy2) (by decide)) fun _ => Ex.nil ?_)
    refine Ex.cons (Ex1.ret (EvP.ev (t := .bool (true && true)) (EvP.and_more (EvP.cmp (c := true) (EvP.sub (EvP.loc 0) .int (sub_tuple (n := 0) (by decide) (by decide) rfl)) (EvP.tuple (EvP.two .str .str) lt1k) (by have := op_inT (C := C) (k := 0) (μ := []) (x := y) (ys := ["clear", "cursor"]); rwa [hy3] at this) rfl) fun _ => EvP.and_one (ltlt .int (EvP.sub (EvP.loc 0) .int (sub_tuple (n := 2) (by decide) (by decide) rfl)) (EvP.loc 1) h3 h4)) rfl))
  cases o with
  | write r c cs =>
    refine Ex.cons (Ex1.ite (EvB.not (ltltB .int (EvP.sub (EvP.loc 0) .int (sub_tuple (n := 1) (by decide) (by decide) rfl)) (EvP.loc 2) (Int.natCast_nonneg r) (Int.ofNat_lt.mpr ho.1))) (fun h => nomatch h) fun _ => Ex.nil ?_)
    refine Ex.cons (Ex1.ite (EvB.cmp (EvP.sub (EvP.loc 0) .int (sub_tuple (n := 0) (by decide) (by decide) rfl)) (EvP.tuple (EvP.two .str .str) lt1k) (op_inT (ys := ["insert", "delete"])) rfl) (fun h => absurd h (by decide)) fun _ => Ex.nil ?_)
    refine Ex.cons (Ex1.ite (EvB.cmp (EvP.sub (EvP.loc 0) .int (sub_tuple (n := 0) (by decide) (by decide) rfl)) .str op_eqS rfl) (fun _ => ?_) fun h => absurd h (by decide))
    have l1 := ho.2.2
    refine Ex.cons (Ex1.ret (EvP.ev (t := .bool (true && (true && true))) (EvP.and_more (EvP.cmp (c := true) .int (EvP.sub (EvP.loc 0) .int (sub_tuple (n := 2) (by decide) (by decide) rfl)) (by have := op_le (C := C) (k := 0) (μ := []) (a := 0) (b := (c : Int)); rwa [decide_eq_true (Int.natCast_nonneg c)] at this) rfl) fun _ =>
      EvP.and_more (EvP.cmp (c := true) (EvP.sub (EvP.loc 0) .int (sub_tuple (n := 3) (by decide) (by decide) rfl)) (EvP.tuple .nil lt1k) (op_ne (cells_ok 7 cs) nilT ⟨fun _ e => ho.2.1 (by rw [T.tup.injEq, List.map_eq_nil_iff] at e; exact e), fun _ => rfl⟩) rfl) fun _ =>
      EvP.and_one (EvP.cmp (c := true) (EvP.bin (EvP.sub (EvP.loc 0) .int (sub_tuple (n := 2) (by decide) (by decide) rfl)) (EvP.callB B.len .builtin (EvP.one (EvP.sub (EvP.loc 0) .int (sub_tuple (n := 3) (by decide) (by decide) rfl))) (len_cells (.inl rfl) (by omega)) rfl (by decide) nostar1) op_add) (EvP.loc 1) (by have := op_le (C := C) (k := 0) (μ := []) (a := (c : Int) + cs.length) (b := (w : Int)); rwa [decide_eq_true (by omega)] at this) rfl)) rfl))
  | clear r c => exact ends (Int.natCast_nonneg r) (Int.ofNat_lt.mpr ho.1) (Int.natCast_nonneg c) (Int.ofNat_lt.mpr ho.2) (by decide) (by decide) (by decide)
  | insert r m b => exact runs ho.2.1 ho.2.2 ho.1 (by decide)
  | delete r m b => exact runs ho.2.1 ho.2.2 ho.1 (by decide)
  | cursor a b => exact ends ho.1.1 ho.1.2 ho.2.1 ho.2.2 (by decide) (by decide) (by decide)
end
end Mine

namespace Mine
noncomputable def unlikeR (a b : List Cell) : Int := ((a.zip b).map fun p => if decide (p.1 ≠ p.2) = true then (1 : Int) else 0).sum
noncomputable def unlikeS (a b : Scr) : Int := ((a.zip b).map fun p => unlikeR p.1 p.2).sum
theorem zip_at {α β : Type} {a : List α} {b : List β} {i : Nat} (d : α × β) (ha : i < a.length) (hb : i < b.length) : (a.zip b).getD i d = (a[i], b[i]) := by
  have e : (a.zip b)[i]? = some (a[i], b[i]) := List.getElem?_zip_eq_some.mpr ⟨List.getElem?_eq_getElem ha, List.getElem?_eq_getElem hb⟩
  rw [List.getD_eq_getElem?_getD, e]; rfl
theorem zip_get {α β : Type} {a : List α} {b : List β} {i : Nat} (d : α × β) (h : i < (a.zip b).length) (f : α → T) (g : β → T) : (a.map f).getD i .none = f ((a.zip b).getD i d).1 ∧ (b.map g).getD i .none = g ((a.zip b).getD i d).2 := by
  rw [List.length_zip] at h
  have ha : i < a.length := by omega
  have hb : i < b.length := by omega
  rw [zip_at d ha hb, getD_map ha, getD_map hb]
  exact ⟨rfl, rfl⟩
section
variable {C : Cfg} {k : Nat} {env : Env} {ρ : List (Option T)} {μ : Mem} {f : Addr} {fx : FX} {Ψ : Out → Prop} {Φ : T → Mem → Prop}
theorem zipIt {α β : Type} {a : List α} {b : List β} {g : α → T} {g' : β → T} {fp p tp : Pos} {e e2 : Expr} {es : List Expr} {j : Nat} (B : Bt C) (h : EvPs C k env [e, e2] p ρ μ [.lst (a.map g), .lst (b.map g')]) (hl : env.kindOf "zip" = some .globalImplicit := by rfl) (he : isStarred e = false ∧ isStarred e2 = false := by exact ⟨rfl, rfl⟩) :
    IterOK C k env (.Call (.Name "zip" fp) [e, e2] [] p) (.Tuple es j tp) ρ μ (a.zip b).length (TupR fun i => [(a.map g).getD i .none, (b.map g').getD i .none]) := by
  have := IterOK.zip (es := es) (j := j) (tp := tp) (Tr.bt (p := fp) B.zip hl) he h
  rw [List.length_map, List.length_map] at this
  rwa [List.length_zip]
theorem sumC {α : Type} {l : List α} {g : α → Int} : CallOp C k μ (.builtin "sum") [.lst (l.map fun p => .int (g p))] (.int (l.map g).sum) := by
  have := sum_ints (C := C) (k := k) (μ := μ) (ns := l.map g)
  rwa [List.map_map] at this
theorem unlike_ok (B : Gl C) (F : FnC C f (mkFd (topS 25) fx) (fnBody (topS 25)) ["old", "new"]) {old new : Scr} {w : Nat} (hz : old.length < 999) (hw : w < 999) (hwd : Wd w old) :
    CallM C 1 [] (.ref f) [es old, es new] fun t _ => t = .int (unlikeS old new) := by
  refine call_body 0 F rfl fun L => ?_
  have zl : ((old.zip new).length : Nat) < 1000000 := by rw [List.length_zip]; omega
  have hrow : ∀ i, i < (old.zip new).length → (((old.zip new).getD i ([], [])).1).length = w := fun i hi => by
    rw [List.length_zip] at hi
    have ha : i < old.length := by omega
    have hb : i < new.length := by omega
    rw [zip_at _ ha hb]
    exact hwd _ (List.getElem_mem ha)
  refine Ex.cons (Ex1.ret (EvP.ev (EvP.callB B.sum .builtin (EvP.one (EvP.mapComp (cl := []) (CompRun.map ([], []) (as := old.zip new) (g := fun p : List Cell × List Cell => T.int (unlikeR p.1 p.2)) (tg := fun i ρ => (ρ.set 1 (some (er ((old.zip new).getD i ([], [])).1))).set 2 (some (er ((old.zip new).getD i ([], [])).2)))
    (CompOK.of (by kernel_rfl) rfl (by kernel_rfl) (by kernel_rfl) (by kernel_rfl)) zl
    (zipIt B.toBt (EvP.two (EvP.loc 0) (EvP.loc 1)))
    (fun Ca i hi => by
      show TgtL C 0 _ _ (fun P h v => TupAt P h v [(old.map er).getD i .none, (new.map er).getD i .none]) _
      rw [(zip_get ([], []) hi er er).1, (zip_get ([], []) hi er er).2]
      exact TgtL.tuple (.cons (i := 1) rfl (.cons (i := 2) rfl .nil)) (by rfl))
    (fun Ca i hi => ?_) (by intro _; rfl)))) sumC rfl (by decide) nostar1) rfl))
  have hr := hrow i hi
  generalize (old.zip new).getD i ([], []) = q at hr
  obtain ⟨a, b⟩ := q
  have hr : a.length = w := hr
  have zl2 : ((a.zip b).length : Nat) < 1000000 := by rw [List.length_zip]; omega
  exact EvP.callB B.sum .builtin (EvP.one (EvP.mapComp (cl := []) (CompRun.map (default, default) (as := a.zip b) (g := fun p : Cell × Cell => T.int (if decide (p.1 ≠ p.2) = true then (1 : Int) else 0)) (tg := fun i ρ => (ρ.set 1 (some (ec ((a.zip b).getD i (default, default)).1))).set 2 (some (ec ((a.zip b).getD i (default, default)).2)))
    (CompOK.of (by kernel_rfl) rfl (by kernel_rfl) (by kernel_rfl) (by kernel_rfl)) zl2
    (zipIt B.toBt (EvP.two (EvP.loc 1) (EvP.loc 2)))
    (fun Cb i hi => by
      show TgtL C 0 _ _ (fun P h v => TupAt P h v [(a.map ec).getD i .none, (b.map ec).getD i .none]) _
      rw [(zip_get (default, default) hi ec ec).1, (zip_get (default, default) hi ec ec).2]
      exact TgtL.tuple (.cons (i := 1) rfl (.cons (i := 2) rfl .nil)) (by rfl))
    (fun Cb i hi => EvP.callB B.int .type (EvP.one (EvP.cmp (EvP.loc 1) (EvP.loc 2) ne_cell rfl)) int_bool rfl (by decide) nostar1) (by intro _; rfl)))) sumC rfl (by decide) nostar1
noncomputable abbrev InitM (C : Cfg) (c : Addr) : Prop := ∃ f, Meth C c "__init__" f ∧ ∀ {x dx : Addr} {w h : Nat}, w < 999 → h < 999 → CallM C 1 [(x, .raw (instObj c dx)), (dx, .flds [])] (.ref f) [.adr x, .int w, .int h] fun t μ' => t = .none ∧ ∃ r', μ' = scrM c x dx r' w ⟨List.replicate h (blankR w), 0, 0, 0⟩
theorem putRow_all {own cells : List Cell} (h : own.length = cells.length) : putRow own 0 cells = cells := by
  unfold putRow
  rw [List.take_zero, Nat.zero_add, ← h, List.drop_length, List.nil_append, List.append_nil]
theorem set_rowAt {s : Scr} {i j : Nat} {r : List Cell} (h : i < s.length) : rowAt (s.set i r) j = if j = i then r else rowAt s j := by
  unfold rowAt
  rw [List.getD_eq_getElem?_getD, List.getElem?_set, List.getD_eq_getElem?_getD]
  by_cases e : i = j
  · subst e; rw [if_pos rfl, if_pos h, if_pos rfl]; rfl
  · rw [if_neg e, if_neg (Ne.symm e)]
theorem set_wd {s : Scr} {i w : Nat} {r : List Cell} (h : Wd w s) (hr : r.length = w) : Wd w (s.set i r) := fun q hq => by
  rcases List.mem_or_eq_of_mem_set hq with h' | rfl
  · exact h q h'
  · exact hr
theorem scr_ext {a b : Scr} (hl : a.length = b.length) (h : ∀ i, i < a.length → rowAt a i = rowAt b i) : a = b := by
  refine List.ext_getElem hl fun i h1 h2 => ?_
  have := h i h1
  unfold rowAt at this
  rwa [List.getD_eq_getElem?_getD, List.getD_eq_getElem?_getD, List.getElem?_eq_getElem h1, List.getElem?_eq_getElem h2] at this
theorem drawn_ok {c : Addr} (B : Gl C) (X : PlainCls C c sFlds) (hc : C.mg "Screen" = some (.ref c)) (MI : InitM C c) (MW : WriteM C c) (F : FnC C f (mkFd (topS 26) fx) (fnBody (topS 26)) ["lines_laid", "width", "height"]) {rows : Scr} {w : Nat} (hw : w < 999) (hz : rows.length < 999) (hwd : Wd w rows) :
    CallM C 3 [] (.ref f) [es rows, .int w, .int rows.length] fun t μ' => ∃ x dx r, t = .adr x ∧ μ' = scrM c x dx r w ⟨rows, 0, 0, 0⟩ := by
  obtain ⟨fI, Me, hI⟩ := MI
  refine call_body 3 F rfl fun L => ?_
  refine Ex.cons (Ex1.assign (i := 3) (Ev.make (k := 1) X hc Me (EvP.two (EvP.loc 1) (EvP.loc 2)) (fun x dx => hI hw hz) (fun x dx t μ1' hp => ?_)) rfl (.inl rfl) (by rfl))
  obtain ⟨rfl, r, rfl⟩ := hp
  refine ⟨rfl, ?_⟩
  rw [List.append_nil]
  refine Ex.cons (Ex1.loop (fun i ρ μ => ∃ r s y z, ρ = [some (es rows), some (.int w), some (.int rows.length), some (.adr x), y, z] ∧ μ = scrM c x dx r w s ∧ Wd w s.rows ∧ s.rows.length = rows.length ∧ s.cr = 0 ∧ s.cc = 0 ∧ ∀ j, j < i → rowAt s.rows j = rowAt rows j)
    (IterOK.enum (ts := rows.map er) (Tr.bt B.enumerate) rfl (EvP.one (EvP.loc 0)))
    (fun i hi => TgtH.tuple (ts := [.int i, (rows.map er).getD i .none]) (.cons (Tgt.name (i := 4) (kd := .local) rfl (.inl rfl)) (.cons (Tgt.name (i := 5) (kd := .local) rfl (.inl rfl)) .nil)) (by rfl))
    ⟨r, _, _, _, rfl, rfl, fun q hq => by rw [(List.mem_replicate.mp hq).2]; exact List.length_replicate, List.length_replicate, rfl, rfl, fun j hj => absurd hj (Nat.not_lt_zero _)⟩ ?_ ?_ (by intro _; rfl))
  · rintro i ρ' μ' hi ⟨r, s, y, z, rfl, rfl, h1, h2, h3, h4, h5⟩
    have hi' : i < rows.length := by simpa using hi
    show Ex C 2 _ _ [some (es rows), some (.int w), some (.int rows.length), some (.adr x), some (.int i), some ((rows.map er).getD i .none)] _ _
    rw [getD_mapD [] hi']
    have wi : (rowAt rows i).length = w := rowAt_w hwd hi'
    have ws : (rowAt s.rows i).length = w := rowAt_w h1 (by omega)
    refine Ex.cons (Ex1.expr (Ev.methH (scrM c x dx r w s) [] (by rw [List.append_nil]) X MW (EvP.loc 3) inst_scr rfl (EvP.three (EvP.loc 4) .int (EvP.loc 5)) (fun f m => (m (cells := rowAt rows i) (row := i) (col := 0) (.inr rfl) hw h1 (by omega) (by omega) (by omega)).le (by decide)) (fun t μ1' hp => ⟨hp.1, Ex.nil ?_⟩) nostar3))
    obtain ⟨_, r', rfl⟩ := hp
    refine ⟨r', applyO w s (.write i 0 (rowAt rows i)), _, _, rfl, List.append_nil _, ?_, ?_, h3, h4, fun j hj => ?_⟩
    · show Wd w (s.rows.set i (putRow (rowAt s.rows i) 0 (rowAt rows i)))
      rw [putRow_all (by omega)]; exact set_wd h1 wi
    · exact (List.length_set ..).trans h2
    · show rowAt (s.rows.set i (putRow (rowAt s.rows i) 0 (rowAt rows i))) j = _
      rw [putRow_all (by omega), set_rowAt (by omega)]
      split
      · rename_i e; rw [e]
      · exact h5 j (by omega)
  · rintro ρ' μ' ⟨r, s, y, z, rfl, rfl, h1, h2, h3, h4, h5⟩
    refine Ex.cons (Ex1.setA (x := x) (dx := dx) X (by decide) (EvP.ev .int ⟨EvP.loc 3, scrF w (.adr r) s, _, .head _, .swap .., Nat.le_of_ble_eq_true rfl, ?_⟩))
    have e : s.rows = rows := scr_ext h2 fun i hi => h5 i (by rw [List.length_map]; omega)
    obtain ⟨sr, scr, scc, swr⟩ := s
    dsimp only at e h3 h4
    subst e h3 h4
    exact Ex.perm (.swap ..) (Ex.cons (Ex1.ret (EvP.ev (EvP.loc 3) ⟨x, dx, r, rfl, rfl⟩)))
end
end Mine

namespace Mine
section
variable {C : Cfg} {k : Nat} {env : Env} {ρ : List (Option T)} {μ : Mem} {f : Addr} {fx : FX} {Ψ : Out → Prop} {Φ : T → Mem → Prop}
noncomputable abbrev RowL (C : Cfg) : Prop := Has C "_law_row" fun f => ∀ {p : Addr} {cs : List Int} {a w : Nat} {m : Int}, cs.length < 1000 → w < 999 → 0 ≤ m → m < 66000 → CallM C 2 [(p, potL cs a m)] f [.adr p, .int w] fun t μ' => ∃ row : List Cell, t = er row ∧ row.length = w ∧ Pot p cs μ'
/-- a throw of the dice beside other memory -/
theorem Ev.dip {fp np cp : Pos} {nm : Str} {many : Nat} {p : Addr} {cs : List Int} {a : Nat} {m : Int} {μ2 : Mem} {em : Expr} (D : DipC C) (hk : 1 ≤ k) (hc : cs.length < 1000) (hm : 0 < many) (h0 : 0 ≤ m) (h1 : m < 66000) (pm : μ.Perm ([(p, potL cs a m)] ++ μ2)) (hp : EvP C k env (.Name nm np) ρ μ (.adr p)) (he : EvP C k env em ρ μ (.int many))
    (hΦ : ∀ v a' m', v < many → 0 ≤ m' → m' < 66000 → Φ (.int (v : Nat)) ((p, potL cs a' m') :: μ2)) (hl : env.kindOf "_law_dip" = some .globalImplicit := by rfl) (hs : starEach [.Name nm np, em] env = [(false, eval (.Name nm np) env), (false, eval em env)] := by rfl) (hs' : starEach [em] env = [(false, eval em env)] := by rfl) (hst : isStarred em = false := by rfl) : Ev C k env (.Call (.Name "_law_dip" fp) [.Name nm np, em] [] cp) ρ μ Φ :=
  Ev.callH [(p, potL cs a m)] μ2 pm D (EvP.two hp he hs hs') (fun f s => (s (many := many) hc hm h0 h1).le hk) (fun t μ1' h => by
    obtain ⟨v, rfl, hv, a', m', rfl, h0', h1'⟩ := h
    exact hΦ v a' m' hv h0' h1') (nostar2 rfl hst) hl
theorem fmod_nat (a b : Nat) : Int.fmod (a : Int) (b : Int) = ((a % b : Nat) : Int) := by
  rw [Int.fmod_eq_emod_of_nonneg _ (Int.natCast_nonneg b)]; exact (Int.natCast_emod a b).symm
noncomputable def offs : List Nat := [0, 1, 1, 2, 0, 1]
theorem screens_ok (B : Gl C) (D : DipC C) (R : RowL C) (F : FnC C f (mkFd (topS 23) fx) (fnBody (topS 23)) ["pot"]) {p : Addr} {cs : List Int} {a : Nat} {m : Int} (hc : cs.length < 1000) (h0 : 0 ≤ m) (h1 : m < 66000) :
    CallM C 3 [(p, potL cs a m)] (.ref f) [.adr p] fun t μ' => ∃ (old new : Scr) (w h : Nat), t = .tup [es old, es new, .int w, .int h] ∧ Wd w old ∧ Wd w new ∧ old.length = h ∧ new.length = h ∧ 2 ≤ w ∧ w ≤ 7 ∧ 2 ≤ h ∧ h ≤ 5 ∧ Pot p cs μ' := by
  refine call_body 7 F rfl fun L => ?_
  refine Ex.cons (Ex1.assignTupE (Ev.tuple (Evs.cons (Ev.bin (EvP.ev .int (Ev.dip (many := 6) (μ2 := []) D (by decide) hc (by decide) h0 h1 (.refl _) (EvP.cel 0) .int fun v1 a1 m1 hv1 h01 h11 => ⟨_, op_add, ?_⟩))) rfl)) (by rfl) (by rfl) (by rfl))
  refine Evs.cons (Ev.bin (EvP.ev .int (Ev.dip (many := 4) (μ2 := []) D (by decide) hc (by decide) h01 h11 (.refl _) (EvP.cel 0) .int fun v2 a2 m2 hv2 h02 h12 => ⟨_, op_add, ?_⟩))) rfl
  refine Evs.nil ⟨lt1k, [.int ((2 : Int) + v1), .int ((2 : Int) + v2)], _, rfl, .cons (Tgt.name (i := 1) (kd := .cell) rfl (.inr rfl)) (.cons (Tgt.name (i := 2) (kd := .local) rfl (.inl rfl)) .nil), ?_⟩
  obtain ⟨w, hwe, hw2, hw7⟩ : ∃ w : Nat, (2 : Int) + v1 = w ∧ 2 ≤ w ∧ w ≤ 7 := ⟨2 + v1, by omega, by omega, by omega⟩
  obtain ⟨h, hhe, hh2, hh5⟩ : ∃ h : Nat, (2 : Int) + v2 = h ∧ 2 ≤ h ∧ h ≤ 5 := ⟨2 + v2, by omega, by omega, by omega⟩
  rw [hwe, hhe]
  clear hwe hhe hv1 hv2
  refine Ex.cons (Ex1.assignComp (cl := [("width", L + 2), ("pot", L + 1)]) (i := 3) (n := h) (μ1 := [(p, potL cs a2 m2)]) (μ2 := []) (J := fun i ys μi => ∃ rows : Scr, ys = rows.map er ∧ rows.length = i ∧ Wd w rows ∧ Pot p cs μi) (tg := fun i ρ => ρ.set 1 (some (.int (i : Nat))))
    ⟨CompOK.of (by kernel_rfl) rfl (by kernel_rfl) (by kernel_rfl) (by kernel_rfl), .refl _, by omega,
      IterOK.range (n := (h : Int)) (Tr.bt B.range) rfl (EvP.one (EvP.loc 2)) (Int.natCast_nonneg _) (by omega), fun Ca i hi => TgtL.name (i := 1) rfl, ⟨[], rfl, rfl, (fun _ h => nomatch h), a2, m2, rfl, h02, h12⟩,
      fun Ca i ys μi hi hJ => ⟨true, TestsB.nil, fun _ => ?_, fun h => nomatch h⟩, by intro _; rfl⟩ rfl (fun E ys μf hJ => ?_) (by rfl))
  · obtain ⟨rows, rfl, rl, rw', a', m', rfl, h0', h1'⟩ := hJ
    refine Ev.callH [(p, potL cs a' m')] [] (.refl _) R (EvP.two (EvP.cel 3) (EvP.cel 4)) (fun f s => s (w := w) hc (by omega) h0' h1') (fun t μ1' hp => ?_) nostar2
    obtain ⟨row, rfl, hl, hP⟩ := hp
    refine ⟨rows ++ [row], by rw [List.map_append]; rfl, by rw [List.length_append, rl]; rfl, fun q hq => ?_, by rw [List.append_nil]; exact hP⟩
    rcases List.mem_append.mp hq with hq | hq
    · exact rw' q hq
    · rw [List.mem_singleton.mp hq]; exact hl
  obtain ⟨old, rfl, ol, owd, a3, m3, rfl, h03, h13⟩ := hJ
  refine Ex.freeze 3 [(p, potL cs a3 m3)] (.refl _) rfl ?_
  refine Ex.cons (Ex1.assignSwapE (ns := ["new", "at"]) (Ev.tuple (Evs.cons (Ev.newL .nil lt1k fun N => ?_) rfl)) (by rfl) (by rfl))
  refine Evs.cons (EvP.ev .int ?_) rfl
  refine Evs.nil ⟨lt1k, [.adr N, .int 0], _, rfl, .cons (Tgt.bind (i := 5) (kd := .local) rfl (.inl rfl)) (.cons (Tgt.bind (i := 4) (kd := .local) rfl (.inl rfl)) .nil), rfl, ?_⟩
  refine Ex.cons (Ex1.loop (fun i ρ μ => ∃ (rows : Scr) (at' a : Nat) (m : Int) (y z : Option T), ρ = [some (.adr p), some (.int w), some (.int h), some (es old), some (.adr N), some (.int at'), y, z] ∧ μ = [(N, .lst (rows.map er)), (p, potL cs a m)] ∧ 0 ≤ m ∧ m < 66000 ∧ rows.length = i ∧ Wd w rows ∧ at' ≤ 2 * i)
    (IterOK.range (n := (h : Int)) (Tr.bt B.range) rfl (EvP.one (EvP.loc 2)) (Int.natCast_nonneg _) (by omega)) (fun i hi => TgtH.name (i := 6) (kd := .local) rfl (.inl rfl))
    ⟨[], 0, a3, m3, _, _, rfl, rfl, h03, h13, rfl, (fun _ h => nomatch h), Nat.le_refl _⟩ ?_ ?_ (by intro _; rfl))
  · rintro i ρ' μ' hi ⟨rows, at', a, m, y, z, rfl, rfl, h0, h1, rl, rwd, hat⟩
    have hi' : i < h := hi
    refine Ex.cons (Ex1.assign (i := 7) (Ev.dip (many := 6) (μ2 := [(N, .lst (rows.map er))]) D (by decide) hc (by decide) h0 h1 (.swap ..) (EvP.cel 0) .int fun v a4 m4 hv h04 h14 => ?_) rfl (.inl rfl) (by rfl))
    refine Ex.perm (.swap ..) ?_
    obtain ⟨d, hd, hd2⟩ : ∃ d, offs[v]? = some d ∧ d ≤ 2 := by
      have : ∀ v, v < 6 → ∃ d, offs[v]? = some d ∧ d ≤ 2 := by decide
      exact this v hv
    refine Ex.cons ?_
    refine @Ex1.assign _ _ _ _ _ _ _ _ _ _ 5 .local ?_ ?_ ?_ ?_
    rotate_left
    · rfl
    · exact .inl rfl
    · rfl
    refine @EvP.ev _ _ _ _ _ _ (.int ((at' + d : Nat) : Int)) _ (EvP.bin (EvP.loc 5) (EvP.sub (@EvP.list _ _ _ _ _ _ _ (offs.map fun n => T.int (n : Nat)) (EvPs.more .int (EvPs.more .int (EvPs.more .int (EvPs.more .int (EvPs.more .int (EvPs.more .int .nil)))))) lt1k) (EvP.loc 7) (sub_list .frozen (t := .int d) (Int.natCast_nonneg _) (by omega) (by rw [Int.toNat_natCast, List.getElem?_map, hd]; rfl))) op_add) ?_
    have grow : ∀ (row : List Cell) (a : Nat) (m : Int), row.length = w → 0 ≤ m → m < 66000 → ∃ (rows' : Scr) (at'' a' : Nat) (m' : Int) (y z : Option T), ([some (.adr p), some (.int w), some (.int h), some (es old), some (.adr N), some (.int ((at' + d : Nat) : Int)), some (.int (i : Nat)), some (.int (v : Nat))] : List (Option T)) = [some (.adr p), some (.int w), some (.int h), some (es old), some (.adr N), some (.int at''), y, z] ∧ ([(N, .lst (rows.map er ++ [er row])), (p, potL cs a m)] : Mem) = [(N, .lst (rows'.map er)), (p, potL cs a' m')] ∧ 0 ≤ m' ∧ m' < 66000 ∧ rows'.length = i + 1 ∧ Wd w rows' ∧ at'' ≤ 2 * (i + 1) := fun row a m hr h0 h1 => by
      refine ⟨rows ++ [row], at' + d, a, m, _, _, rfl, by rw [List.map_append]; rfl, h0, h1, by rw [List.length_append, rl]; rfl, fun q hq => ?_, by omega⟩
      rcases List.mem_append.mp hq with hq | hq
      · exact rwd q hq
      · rw [List.mem_singleton.mp hq]; exact hr
    refine Ex.cons (Ex1.ite (EvB.cmp (EvP.loc 7) .int op_eqI rfl) (fun _ => ?_) fun _ => ?_)
    · exact Ex.cons (Ex1.append (a := N) (EvP.loc 4) (.head _) (EvP.ev (blankRow B (by omega) (EvP.cel 1)) ⟨_, _, .refl _, by rw [List.length_map]; omega, Ex.nil (Ex.nil (grow (List.replicate w Ecell) a4 m4 List.length_replicate h04 h14))⟩))
    · refine Ex.cons (Ex1.ite (EvB.cmp (EvP.loc 7) .int op_eqI rfl) (fun _ => ?_) fun _ => ?_)
      · refine Ex.cons (Ex1.append (a := N) (EvP.loc 4) (.head _) (Ev.callH [(p, potL cs a4 m4)] [(N, .lst (rows.map er))] (.swap ..) R (EvP.two (EvP.cel 0) (EvP.cel 1)) (fun f s => s (w := w) hc (by omega) h04 h14) (fun t μ1' hp => ?_) nostar2))
        obtain ⟨row, rfl, hrl, a5, m5, rfl, h05, h15⟩ := hp
        exact ⟨_, _, .swap .., by rw [List.length_map]; omega, Ex.nil (Ex.nil (Ex.nil (grow row a5 m5 hrl h05 h15)))⟩
      · have e : Int.fmod (((at' + d : Nat) : Int) + (i : Nat)) (h : Nat) = (((at' + d + i) % h : Nat) : Int) := fmod_nat (at' + d + i) h
        have hix : (at' + d + i) % h < old.length := by rw [ol]; exact Nat.mod_lt _ (by omega)
        generalize (at' + d + i) % h = ix at e hix
        have wl : (rowAt old ix).length = w := rowAt_w owd hix
        refine Ex.cons (Ex1.append (a := N) (EvP.loc 4) (.head _) (Ev.listOwn (ts := (rowAt old ix).map ec) (Tr.bt B.list) nostar1 (EvP.one (EvP.sub (EvP.loc 3) (EvP.bin (EvP.bin (EvP.loc 5) (EvP.loc 6) op_add) (EvP.loc 2) (op_mod (by omega))) (sub_scr e hix (by omega)))) (.inr rfl) (by rw [List.length_map]; omega) fun b => ⟨_, _, .swap .., by rw [List.length_map]; omega, ?_⟩))
        generalize rowAt old ix = row at wl
        refine Ex.cons (Ex1.ite (EvB.cmp (EvP.loc 7) .int op_eqI rfl) (fun _ => ?_) fun _ => ?_)
        · have pm : ([(N, MObj.lst (rows.map er ++ [T.adr b])), (b, .lst (row.map ec)), (p, potL cs a4 m4)] : Mem).Perm ([(p, potL cs a4 m4)] ++ [(N, .lst (rows.map er ++ [T.adr b])), (b, .lst (row.map ec))]) := List.perm_append_comm (l₁ := [(N, MObj.lst (rows.map er ++ [T.adr b])), (b, .lst (row.map ec))]) (l₂ := [(p, potL cs a4 m4)])
          refine Ex.cons (Ex1.setL (a := b) (EvP.ev EvP.pairI ⟨EvP.sub (EvP.loc 4) .neg1 (sub_list_neg (.owned (.head _)) (by decide) (by simp; omega) (by simp; omega) (by
              have q : (-1 + ((rows.map er ++ [T.adr b]).length : Int)).toNat = (rows.map er).length := by simp; omega
              rw [q]; simp)), Ev.dip (many := w) D (by decide) hc (by omega) h04 h14 pm (EvP.cel 0) (EvP.cel 1) fun u a5 m5 hu h05 h15 => ⟨u, row.map ec, [(N, .lst (rows.map er ++ [T.adr b])), (p, potL cs a5 m5)], u, rfl, ?_, by rw [List.length_map, wl]; exact hu, by rw [List.length_map]; omega, .inl rfl, Ex.nil (Ex.nil ?_)⟩⟩))
          · exact List.perm_append_comm (l₁ := [(p, potL cs a5 m5), (N, MObj.lst (rows.map er ++ [T.adr b]))]) (l₂ := [(b, .lst (row.map ec))]) |>.trans (.cons _ (.swap ..))
          · refine Ex.freezeIn (a := N) (b := b) (ts := rows.map er) (us := (row.set u (100, 0)).map ec) (xs := []) [(p, potL cs a5 m5)] (by rw [← List.map_set]) (Ex.nil (Ex.nil (grow (row.set u (100, 0)) a5 m5 (by rw [List.length_set]; exact wl) h05 h15)))
        · exact Ex.nil (Ex.freezeIn (a := N) (b := b) (ts := rows.map er) (us := row.map ec) (xs := []) [(p, potL cs a4 m4)] (.swap ..) (Ex.nil (Ex.nil (Ex.nil (grow row a4 m4 wl h04 h14)))))
  · rintro ρ' μ' ⟨rows, at', a, m, y, z, rfl, rfl, h0, h1, rl, rwd, hat⟩
    refine Ex.freeze 4 [(p, potL cs a m)] (.refl _) rfl ?_
    exact Ex.cons (Ex1.ret (EvP.ev (EvP.tuple (EvP.four (EvP.loc 3) (EvP.loc 4) (EvP.cel 1) (EvP.loc 2)) lt1k) ⟨old, rows, w, h, rfl, owd, rwd, ol, rl, hw2, hw7, hh2, hh5, a, m, rfl, h0, h1⟩))
end
end Mine

namespace Mine
/-! the plain law: what the orders do -/
noncomputable def delR (bl : List Cell) (r m : Nat) (rows : Scr) : Scr := rows.take r ++ rows.drop (r + m) ++ List.replicate m bl
noncomputable def insR (bl : List Cell) (r m : Nat) (rows : Scr) : Scr := rows.take r ++ List.replicate m bl ++ (rows.drop r).take (rows.length - m - r)
theorem delR_len {bl : List Cell} {r m : Nat} {rows : Scr} (h : r + m ≤ rows.length) : (delR bl r m rows).length = rows.length := by
  unfold delR; simp; omega
theorem insR_len {bl : List Cell} {r m : Nat} {rows : Scr} (h : r + m ≤ rows.length) : (insR bl r m rows).length = rows.length := by
  unfold insR; simp; omega
theorem delR_at {bl : List Cell} {A B R : Scr} {r m : Nat} (hA : A.length = r) (hB : B.length = m) : delR bl r m (A ++ B ++ R) = A ++ R ++ List.replicate m bl := by
  subst hA hB
  unfold delR
  rw [List.drop_left' (l₁ := A ++ B) (by simp), List.append_assoc A B R, List.take_left' rfl]
theorem insR_at {bl : List Cell} {A R Z : Scr} {r m : Nat} (hA : A.length = r) (hZ : Z.length = m) : insR bl r m (A ++ R ++ Z) = A ++ List.replicate m bl ++ R := by
  subst hA hZ
  unfold insR
  rw [List.append_assoc A R Z, List.take_left' rfl, List.drop_left' rfl, List.take_left' (by simp; omega)]
theorem split3 {rows : Scr} {a b c : Nat} (h : a + b + c ≤ rows.length) : ∃ A B D R : Scr, rows = A ++ B ++ D ++ R ∧ A.length = a ∧ B.length = b ∧ D.length = c ∧ R.length = rows.length - (a + b + c) := by
  refine ⟨rows.take a, (rows.drop a).take b, ((rows.drop a).drop b).take c, ((rows.drop a).drop b).drop c, ?_, by rw [List.length_take]; omega, by rw [List.length_take, List.length_drop]; omega, by rw [List.length_take, List.length_drop, List.length_drop]; omega, by rw [List.length_drop, List.length_drop, List.length_drop]; omega⟩
  rw [List.append_assoc, List.take_append_drop, List.append_assoc, List.take_append_drop, List.take_append_drop]
theorem delR_more {bl : List Cell} {r m : Nat} {rows : Scr} (h : r + m + 1 ≤ rows.length) : delR bl r (m + 1) rows = delR bl r m (delR bl (r + m) 1 rows) := by
  obtain ⟨A, B, D, R, rfl, hA, hB, hD, _⟩ := split3 h
  have e1 : delR bl (r + m) 1 (A ++ B ++ D ++ R) = A ++ B ++ R ++ List.replicate 1 bl := delR_at (A := A ++ B) (B := D) (by simp; omega) hD
  have e2 : delR bl r m (A ++ B ++ R ++ List.replicate 1 bl) = A ++ (R ++ List.replicate 1 bl) ++ List.replicate m bl := by rw [List.append_assoc (A ++ B)]; exact delR_at hA hB
  have e3 : delR bl r (m + 1) (A ++ B ++ D ++ R) = A ++ R ++ List.replicate (m + 1) bl := by rw [List.append_assoc A B D]; exact delR_at (B := B ++ D) hA (by simp; omega)
  rw [e3, e1, e2, List.replicate_succ]
  simp
theorem insR_more {bl : List Cell} {r m : Nat} {rows : Scr} (h : r + m + 1 ≤ rows.length) : insR bl r (m + 1) rows = insR bl (r + m) 1 (insR bl r m rows) := by
  obtain ⟨A, B, D, R, e, hA, hB, hD, hR⟩ := split3 (rows := rows) (a := r) (b := rows.length - (r + m + 1)) (c := 1) (by omega)
  have hR : R.length = m := by omega
  have f0 : insR bl r m rows = A ++ List.replicate m bl ++ (B ++ D) := by rw [e, List.append_assoc A B D]; exact insR_at hA hR
  have f1 : insR bl (r + m) 1 (A ++ List.replicate m bl ++ (B ++ D)) = A ++ List.replicate m bl ++ List.replicate 1 bl ++ B := by rw [← List.append_assoc]; exact insR_at (A := A ++ List.replicate m bl) (R := B) (Z := D) (by simp; omega) hD
  have f2 : insR bl r (m + 1) rows = A ++ List.replicate (m + 1) bl ++ B := by rw [e, List.append_assoc (A ++ B) D R]; exact insR_at (R := B) (Z := D ++ R) hA (by simp; omega)
  rw [f2, f0, f1, List.replicate_succ']
  simp
noncomputable def delAll (bl : List Cell) (F : List (Nat × Nat)) (rows : Scr) : Scr := F.foldr (fun p rs => delR bl p.1 p.2 rs) rows
noncomputable def insAll (bl : List Cell) (F : List (Nat × Nat)) (rows : Scr) : Scr := F.foldl (fun rs p => insR bl p.1 p.2 rs) rows
noncomputable def RunsOk (h : Nat) (F : List (Nat × Nat)) : Prop := ∀ p ∈ F, 0 < p.2 ∧ p.1 + p.2 ≤ h
theorem addRun_ok {h n : Nat} {F : List (Nat × Nat)} (hF : RunsOk h F) (hn : n + 1 ≤ h) : RunsOk h (addRun F n) := by
  intro p hp
  rcases List.eq_nil_or_concat F with rfl | ⟨G, q, rfl⟩
  · rw [addRun_nil] at hp; rw [List.mem_singleton.mp hp]; exact ⟨Nat.one_pos, hn⟩
  · rw [List.concat_eq_append] at hp hF
    rw [addRun_snoc] at hp
    have hq := hF q (List.mem_append_right _ (.head _))
    split at hp
    · rename_i e
      rcases List.mem_append.mp hp with hp | hp
      · exact hF p (List.mem_append_left _ hp)
      · rw [List.mem_singleton.mp hp]; exact ⟨Nat.succ_pos _, by show q.1 + (q.2 + 1) ≤ h; omega⟩
    · rcases List.mem_append.mp hp with hp | hp
      · exact hF p hp
      · rw [List.mem_singleton.mp hp]; exact ⟨Nat.one_pos, hn⟩
theorem delAll_add {bl : List Cell} {F : List (Nat × Nat)} {n : Nat} {rows : Scr} (hn : n + 1 ≤ rows.length) : delAll bl (addRun F n) rows = delAll bl F (delR bl n 1 rows) := by
  rcases List.eq_nil_or_concat F with rfl | ⟨G, q, rfl⟩
  · rfl
  · rw [List.concat_eq_append, addRun_snoc]
    unfold delAll
    split
    · rename_i e
      rw [List.foldr_append, List.foldr_append]
      show G.foldr _ (delR bl q.1 (q.2 + 1) rows) = G.foldr _ (delR bl q.1 q.2 (delR bl n 1 rows))
      rw [← e, delR_more (by omega)]
    · rw [List.foldr_append]; rfl
theorem insAll_len {bl : List Cell} : ∀ {F : List (Nat × Nat)} {rows : Scr}, RunsOk rows.length F → (insAll bl F rows).length = rows.length
  | [], _, _ => rfl
  | p :: F, rows, h => by
    have hp := h p (.head _)
    have hl := insR_len (bl := bl) hp.2
    show (insAll bl F (insR bl p.1 p.2 rows)).length = _
    rw [insAll_len (by rw [hl]; exact fun q hq => h q (.tail _ hq)), hl]
theorem insAll_add {bl : List Cell} {F : List (Nat × Nat)} {n : Nat} {rows : Scr} (hF : RunsOk rows.length F) (hn : n + 1 ≤ rows.length) : insAll bl (addRun F n) rows = insR bl n 1 (insAll bl F rows) := by
  rcases List.eq_nil_or_concat F with rfl | ⟨G, q, rfl⟩
  · rfl
  · rw [List.concat_eq_append] at hF ⊢
    rw [addRun_snoc]
    unfold insAll
    split
    · rename_i e
      rw [List.foldl_append, List.foldl_append]
      show insR bl q.1 (q.2 + 1) (insAll bl G rows) = insR bl n 1 (insR bl q.1 q.2 (insAll bl G rows))
      have hl := insAll_len (bl := bl) (F := G) (rows := rows) fun p hp => hF p (List.mem_append_left _ hp)
      rw [← e, insR_more (by rw [hl]; omega)]
    · rw [List.foldl_append]; rfl

/-- the rows of the old screen that stay -/
noncomputable def keptFrom (old : Scr) : Nat → List Word → Scr
  | _, [] => []
  | i, .keep :: r => rowAt old i :: keptFrom old (i + 1) r
  | i, .drop :: r => keptFrom old (i + 1) r
  | i, .add :: r => keptFrom old i r
noncomputable def dropsOf : List Word → Nat
  | [] => 0
  | .drop :: r => dropsOf r + 1
  | _ :: r => dropsOf r
noncomputable def addsOf : List Word → Nat
  | [] => 0
  | .add :: r => addsOf r + 1
  | _ :: r => addsOf r
theorem counts_eq : ∀ steps : List Word, goneOf steps + addsOf steps = madeOf steps + dropsOf steps
  | [] => rfl
  | .keep :: r => by have := counts_eq r; simp [goneOf, madeOf, addsOf, dropsOf]; omega
  | .drop :: r => by have := counts_eq r; simp [goneOf, madeOf, addsOf, dropsOf]; omega
  | .add :: r => by have := counts_eq r; simp [goneOf, madeOf, addsOf, dropsOf]; omega
theorem take_rowAt {s : Scr} {i : Nat} (h : i < s.length) : s.take (i + 1) = s.take i ++ [rowAt s i] := by
  rw [List.take_succ_eq_append_getElem h]
  unfold rowAt
  rw [List.getD_eq_getElem?_getD, List.getElem?_eq_getElem h]; rfl
theorem delR_mid {bl x : List Cell} {A R : Scr} {n : Nat} (h : A.length = n) : delR bl n 1 (A ++ [x] ++ R) = A ++ R ++ [bl] := delR_at (B := [x]) h rfl
theorem deletes_do {bl : List Cell} {old : Scr} : ∀ (steps : List Word) (F : List (Nat × Nat)) (i : Nat), i + goneOf steps = old.length →
    ∀ Z : Scr, delAll bl (runsFrom .drop .add F i steps) (old ++ Z) = delAll bl F (old.take i ++ keptFrom old i steps ++ Z ++ List.replicate (dropsOf steps) bl)
  | [], F, i, h, Z => by
    have : i = old.length := by simpa [goneOf] using h
    rw [this]; simp [runsFrom, keptFrom, dropsOf]
  | .keep :: r, F, i, h, Z => by
    have hi : i < old.length := by simp [goneOf] at h; omega
    unfold runsFrom
    rw [if_neg (by decide), if_neg (by decide), deletes_do r F (i + 1) (by simp [goneOf] at h; omega) Z, take_rowAt hi]
    simp [keptFrom, dropsOf]
  | .drop :: r, F, i, h, Z => by
    have hi : i < old.length := by simp [goneOf] at h; omega
    unfold runsFrom
    rw [if_pos rfl, if_neg (by decide), deletes_do r (addRun F i) (i + 1) (by simp [goneOf] at h; omega) Z, take_rowAt hi, delAll_add (by simp; omega)]
    have e : old.take i ++ [rowAt old i] ++ keptFrom old (i + 1) r ++ Z ++ List.replicate (dropsOf r) bl = old.take i ++ [rowAt old i] ++ (keptFrom old (i + 1) r ++ Z ++ List.replicate (dropsOf r) bl) := by simp
    rw [e, delR_mid (by rw [List.length_take]; omega), keptFrom, dropsOf, List.replicate_succ']
    simp
  | .add :: r, F, i, h, Z => by
    unfold runsFrom
    rw [if_neg (by decide), if_pos rfl, deletes_do r F (i + 0) (by simp [goneOf] at h; omega) Z]
    simp [keptFrom, dropsOf]
theorem insR_mid {bl : List Cell} {A R : Scr} {n e : Nat} (h : A.length = n) : insR bl n 1 (A ++ R ++ List.replicate (e + 1) bl) = A ++ [bl] ++ R ++ List.replicate e bl := by
  rw [List.replicate_succ', ← List.append_assoc, List.append_assoc A R, insR_at (R := R ++ List.replicate e bl) (Z := [bl]) (m := 1) h rfl]
  simp
theorem inserts_do {bl : List Cell} {old base : Scr} {w : Nat} (hbl : bl = List.replicate w Ecell) : ∀ (steps : List Word) (F : List (Nat × Nat)) (i n : Nat) (A : Scr), RunsOk base.length F → A.length = n → n + madeOf steps ≤ base.length →
    insAll bl F base = A ++ keptFrom old i steps ++ List.replicate (addsOf steps) bl → insAll bl (runsFrom .add .drop F n steps) base = A ++ rowsThenFrom old w i steps
  | [], F, i, n, A, hF, hA, hn, h => by
    rw [runsFrom, h]; simp [keptFrom, addsOf, rowsThenFrom]
  | .keep :: r, F, i, n, A, hF, hA, hn, h => by
    unfold runsFrom
    rw [if_neg (by decide), if_neg (by decide), inserts_do (old := old) hbl r F (i + 1) (n + 1) (A ++ [rowAt old i]) hF (by simp [hA]) (by simp [madeOf] at hn; omega) (by rw [h]; simp [keptFrom, addsOf])]
    simp [rowsThenFrom, rowOf]
  | .drop :: r, F, i, n, A, hF, hA, hn, h => by
    unfold runsFrom
    rw [if_neg (by decide), if_pos rfl, inserts_do (old := old) hbl r F (i + 1) (n + 0) A hF hA (by simp [madeOf] at hn; omega) (by rw [h]; simp [keptFrom, addsOf])]
    simp [rowsThenFrom, rowOf]
  | .add :: r, F, i, n, A, hF, hA, hn, h => by
    have hn1 : n + 1 ≤ base.length := by simp [madeOf] at hn; omega
    unfold runsFrom
    rw [if_pos rfl, if_neg (by decide), inserts_do (old := old) hbl r (addRun F n) i (n + 1) (A ++ [bl]) (addRun_ok hF hn1) (by simp [hA]) (by simp [madeOf] at hn; omega) (by
      rw [insAll_add hF hn1, h, keptFrom, addsOf, insR_mid hA])]
    simp [rowsThenFrom, rowOf, hbl]
end Mine

namespace Mine
noncomputable def runO (w : Nat) (s : SS) (os : List Ord) : SS := os.foldl (applyO w) s
theorem runO_append (w : Nat) (s : SS) (a b : List Ord) : runO w s (a ++ b) = runO w (runO w s a) b := List.foldl_append ..
theorem runO_cons (w : Nat) (s : SS) (o : Ord) (b : List Ord) : runO w s (o :: b) = runO w (applyO w s o) b := rfl
noncomputable def wrO : List Ord → Nat
  | [] => 0
  | .write _ _ cs :: r => cs.length + wrO r
  | _ :: r => wrO r
theorem wrO_append : ∀ a b, wrO (a ++ b) = wrO a + wrO b
  | [], b => by simp [wrO]
  | .write _ _ cs :: a, b => by simp only [List.cons_append, wrO, wrO_append a b]; omega
  | .clear _ _ :: a, b => wrO_append a b
  | .insert _ _ _ :: a, b => wrO_append a b
  | .delete _ _ _ :: a, b => wrO_append a b
  | .cursor _ _ :: a, b => wrO_append a b
theorem apply_del {w : Nat} {s : SS} {r m h : Nat} (hh : s.rows.length = h) (hr : r + m ≤ h) : applyO w s (.delete r m h) = { s with rows := delR (blankR w) r m s.rows } := by
  unfold applyO delR
  subst hh
  simp only
  rw [List.take_of_length_le (l := s.rows.drop (r + m)) (by rw [List.length_drop]; exact Nat.le_refl _), List.drop_length, List.append_nil]
theorem apply_ins {w : Nat} {s : SS} {r m h : Nat} (hh : s.rows.length = h) : applyO w s (.insert r m h) = { s with rows := insR (blankR w) r m s.rows } := by
  unfold applyO insR
  subst hh
  simp only
  rw [List.drop_length, List.append_nil]
theorem run_dels {w h : Nat} : ∀ (L : List (Nat × Nat)) (s : SS), RunsOk h L → s.rows.length = h → runO w s (L.map fun p => .delete p.1 p.2 h) = { s with rows := L.foldl (fun rs p => delR (blankR w) p.1 p.2 rs) s.rows }
  | [], s, _, _ => rfl
  | p :: L, s, hL, hs => by
    have hp := (hL p (.head _)).2
    rw [List.map_cons, runO_cons, apply_del hs hp, run_dels L _ (fun q hq => hL q (.tail _ hq)) (by show (delR _ _ _ s.rows).length = h; rw [delR_len (by omega)]; exact hs)]
    rfl
theorem run_ins {w h : Nat} : ∀ (L : List (Nat × Nat)) (s : SS), RunsOk h L → s.rows.length = h → runO w s (L.map fun p => .insert p.1 p.2 h) = { s with rows := insAll (blankR w) L s.rows }
  | [], s, _, _ => rfl
  | p :: L, s, hL, hs => by
    have hp := (hL p (.head _)).2
    rw [List.map_cons, runO_cons, apply_ins hs, run_ins L _ (fun q hq => hL q (.tail _ hq)) (by show (insR _ _ _ s.rows).length = h; rw [insR_len (by omega)]; exact hs)]
    rfl
theorem runsFrom_ok {hit skip : Word} {h : Nat} : ∀ (steps : List Word) (F : List (Nat × Nat)) (n : Nat), RunsOk h F → hit ≠ skip → n + (steps.map fun u => if u = skip then 0 else 1).sum ≤ h → RunsOk h (runsFrom hit skip F n steps)
  | [], F, n, hF, _, _ => hF
  | u :: r, F, n, hF, hne, hn => by
    rw [List.map_cons, List.sum_cons] at hn
    unfold runsFrom
    refine runsFrom_ok r _ _ ?_ hne (by omega)
    split
    · rename_i e
      rw [if_neg (by rw [e]; exact hne)] at hn
      exact addRun_ok hF (by omega)
    · exact hF
theorem gone_sum : ∀ steps : List Word, (steps.map fun u => if u = .add then 0 else 1).sum = goneOf steps
  | [] => rfl
  | u :: r => by rw [List.map_cons, List.sum_cons, gone_sum r]; rfl
theorem made_sum : ∀ steps : List Word, (steps.map fun u => if u = .drop then 0 else 1).sum = madeOf steps
  | [] => rfl
  | u :: r => by rw [List.map_cons, List.sum_cons, made_sum r]; rfl
theorem kept_len {old : Scr} : ∀ (steps : List Word) (i : Nat), (keptFrom old i steps).length + dropsOf steps = goneOf steps
  | [], _ => rfl
  | .keep :: r, i => by have := kept_len r (i + 1) (old := old); simp [keptFrom, dropsOf, goneOf]; omega
  | .drop :: r, i => by have := kept_len r (i + 1) (old := old); simp [keptFrom, dropsOf, goneOf]; omega
  | .add :: r, i => by have := kept_len r i (old := old); simp [keptFrom, dropsOf, goneOf]; omega

/-! one row -/
theorem firstU_spec (o n : List Cell) : ∀ k i j, i ≤ j → j < firstU o n i k → o.getD j default = n.getD j default
  | 0, i, j, h, h' => absurd h' (by unfold firstU; omega)
  | k + 1, i, j, h, h' => by
    unfold firstU at h'
    split at h'
    · omega
    · rename_i e
      by_cases q : j = i
      · subst q; exact Classical.byContradiction e
      · exact firstU_spec o n k (i + 1) j (by omega) h'
theorem lastU_spec (o n : List Cell) : ∀ k j, lastU o n k ≤ j → j < k → o.getD j default = n.getD j default
  | 0, j, _, h' => absurd h' (Nat.not_lt_zero _)
  | k + 1, j, h, h' => by
    unfold lastU at h
    split at h
    · omega
    · rename_i e
      by_cases q : j = k
      · subst q; exact Classical.byContradiction e
      · exact lastU_spec o n k j h (by omega)
theorem textE_spec (r : List Cell) : ∀ k j, textE r k ≤ j → j < k → r.getD j default = Ecell
  | 0, j, _, h' => absurd h' (Nat.not_lt_zero _)
  | k + 1, j, h, h' => by
    unfold textE at h
    split at h
    · omega
    · rename_i e
      by_cases q : j = k
      · subst q; exact Classical.byContradiction e
      · exact textE_spec r k j h (by omega)
theorem getD_el {α : Type} {l : List α} {j : Nat} {d : α} (h : j < l.length) : l.getD j d = l[j] := by simp [List.getD_eq_getElem?_getD, h]
theorem take_eq {o n : List Cell} {b : Nat} (ho : b ≤ o.length) (hn : b ≤ n.length) (h : ∀ j, j < b → o.getD j default = n.getD j default) : o.take b = n.take b := by
  refine List.ext_getElem (by simp; omega) fun j h1 h2 => ?_
  have hj : j < b := by rw [List.length_take] at h1; omega
  have := h j hj
  rw [getD_el (by omega), getD_el (by omega)] at this
  simpa using this
theorem drop_eq {o n : List Cell} {e : Nat} (hl : o.length = n.length) (h : ∀ j, e ≤ j → j < n.length → o.getD j default = n.getD j default) : o.drop e = n.drop e := by
  refine List.ext_getElem (by simp; omega) fun j h1 h2 => ?_
  have hj : e + j < n.length := by rw [List.length_drop] at h2; omega
  have := h (e + j) (by omega) hj
  rw [getD_el (by omega), getD_el (by omega)] at this
  simpa using this
theorem tail_blank {n : List Cell} {z w : Nat} (hl : n.length = w) (h : ∀ j, z ≤ j → j < n.length → n.getD j default = Ecell) : n.drop z = List.replicate (w - z) Ecell := by
  refine List.ext_getElem (by simp; omega) fun j h1 h2 => ?_
  have hj : z + j < n.length := by rw [List.length_drop] at h1; omega
  have := h (z + j) (by omega) hj
  rw [getD_el hj] at this
  simpa using this
theorem mid_len {n : List Cell} {b e : Nat} (he : e ≤ n.length) : (mid n b e).length = e - b := by unfold mid; rw [List.length_take, List.length_drop]; omega
theorem take_mid {n : List Cell} {b e : Nat} (hb : b ≤ e) : n.take b ++ mid n b e = n.take e := by
  unfold mid
  rw [← List.drop_take]
  have := List.take_append_drop b (n.take e)
  rwa [List.take_take, Nat.min_eq_left hb] at this
theorem set_mid {A R : Scr} {r x : List Cell} : (A ++ r :: R).set A.length x = A ++ x :: R := by
  induction A with
  | nil => rfl
  | cons a A ih => exact congrArg (a :: ·) ih
theorem rowAt_mid {A R : Scr} {r : List Cell} : rowAt (A ++ r :: R) A.length = r := by
  unfold rowAt
  rw [List.getD_eq_getElem?_getD, List.getElem?_append_right (Nat.le_refl _), Nat.sub_self]; rfl
theorem apply_write {w : Nat} {s : SS} {A R : Scr} {r cs : List Cell} {c : Nat} (h : s.rows = A ++ r :: R) : applyO w s (.write A.length c cs) = { s with rows := A ++ putRow r c cs :: R, wr := s.wr + cs.length } := by
  unfold applyO
  simp only
  rw [h, rowAt_mid, set_mid]
theorem apply_clear {w : Nat} {s : SS} {A R : Scr} {r : List Cell} {c : Nat} (h : s.rows = A ++ r :: R) : applyO w s (.clear A.length c) = { s with rows := A ++ (r.take c ++ List.replicate (w - c) Ecell) :: R } := by
  unfold applyO
  simp only
  rw [h, rowAt_mid, set_mid]
/-- what the orders of one row do, and what they are -/
theorem row_run {w : Nat} {s : SS} {A R : Scr} {r n : List Cell} (hs : s.rows = A ++ r :: R) (hr : r.length = w) (hn : n.length = w) :
    runO w s (rowOrders A.length r n) = { s with rows := A ++ n :: R, wr := s.wr + wrO (rowOrders A.length r n) } := by
  have bl := firstU_le r n n.length 0
  have el := lastU_le r n n.length
  have tl := textE_le n n.length
  have fs := fun j => firstU_spec r n n.length 0 j (Nat.zero_le _)
  have ls := lastU_spec r n n.length
  have ts := textE_spec n n.length
  unfold rowOrders
  generalize firstU r n 0 n.length = b at bl fs
  generalize lastU r n n.length = e at el ls
  generalize textE n n.length = z0 at tl ts
  have tb : r.take b = n.take b := take_eq (by omega) (by omega) fs
  have de : r.drop e = n.drop e := drop_eq (by omega) ls
  dsimp only
  split
  · rename_i h
    have hrn : r = n := by
      rw [← List.take_append_drop b r, ← List.take_append_drop b n, tb]
      congr 1
      have := congrArg (List.drop (b - e)) de
      rwa [List.drop_drop, List.drop_drop, Nat.add_sub_cancel' h] at this
    subst hrn
    obtain ⟨sr, a1, a2, a3⟩ := s
    show SS.mk sr a1 a2 a3 = SS.mk _ a1 a2 (a3 + 0)
    rw [← hs, Nat.add_zero]
  · rename_i h
    have hz : n.drop (max b z0) = List.replicate (w - max b z0) Ecell := tail_blank hn fun j h1 h2 => ts j (by omega) h2
    have hzl : max b z0 ≤ n.length := by omega
    have hbz : b ≤ max b z0 := Nat.le_max_left _ _
    generalize max b z0 = z at hz hzl hbz
    split
    · rw [runO_cons, apply_write hs]
      have : putRow r b (mid n b e) = n := by
        unfold putRow
        rw [mid_len el, Nat.add_sub_cancel' (by omega), tb, take_mid (by omega), de, List.take_append_drop]
      rw [this]
      rfl
    · split
      · rename_i h3
        rw [List.singleton_append, runO_cons, apply_write hs, runO_cons, apply_clear (A := A) (R := R) (r := putRow r b (mid n b z)) rfl]
        have e1 : (putRow r b (mid n b z)).take z = n.take z := by
          unfold putRow
          rw [mid_len hzl, tb, take_mid hbz, List.take_append_of_le_length (by simp; omega), List.take_take, Nat.min_self]
        rw [e1, ← hz, List.take_append_drop]
        rfl
      · rename_i h3
        have : b = z := by omega
        subst this
        rw [List.nil_append, runO_cons, apply_clear hs, tb, ← hz, List.take_append_drop]
        rfl
theorem rows_run {w : Nat} {new : Scr} (hn : Wd w new) : ∀ (rt : Scr) (i : Nat) (s : SS), i + rt.length = new.length → Wd w rt → s.rows = new.take i ++ rt →
    runO w s (ordersFrom new i rt) = { s with rows := new, wr := s.wr + wrO (ordersFrom new i rt) }
  | [], i, s, hi, _, hs => by
    have : i = new.length := by simpa using hi
    obtain ⟨sr, a1, a2, a3⟩ := s
    show SS.mk sr a1 a2 a3 = SS.mk new a1 a2 (a3 + 0)
    rw [this, List.take_length, List.append_nil] at hs
    rw [Nat.add_zero, ← show sr = new from hs]
  | r :: rt, i, s, hi, hw, hs => by
    have hi' : i < new.length := by rw [List.length_cons] at hi; omega
    have hl : (new.take i).length = i := by rw [List.length_take]; omega
    unfold ordersFrom
    rw [runO_append]
    have h1 := row_run (w := w) (n := rowAt new i) hs (hw r (.head _)) (rowAt_w hn hi')
    rw [hl] at h1
    rw [h1, rows_run hn rt (i + 1) _ (by rw [List.length_cons] at hi; omega) (fun q hq => hw q (.tail _ hq)) (by rw [take_rowAt hi']; simp), wrO_append]
    simp only [Nat.add_assoc]

theorem wrO_map_del (L : List (Nat × Nat)) (h : Nat) : wrO (L.map fun p => .delete p.1 p.2 h) = 0 := by
  induction L with
  | nil => rfl
  | cons p L ih => exact ih
theorem wrO_map_ins (L : List (Nat × Nat)) (h : Nat) : wrO (L.map fun p => .insert p.1 p.2 h) = 0 := by
  induction L with
  | nil => rfl
  | cons p L ih => exact ih
/-- the orders lead the old screen to the new one -/
theorem upd_run {w : Nat} {old new : Scr} {cr cc a b : Int} {n : Nat} (ho : Wd w old) (hn : Wd w new) (hl : old.length = new.length) (hne : 0 < new.length) :
    runO w ⟨old, a, b, n⟩ (updOrders old new cr cc) = ⟨new, cr, cc, n + wrO (updOrders old new cr cc)⟩ := by
  obtain ⟨c1, c2, c3⟩ := steps_counts old new
  have w0 : (new.getD 0 []).length = w := rowAt_w (s := new) (j := 0) hn hne
  unfold updOrders
  rw [w0]
  generalize stepsOf old new = steps at c1 c2 c3
  dsimp only
  have dr : RunsOk new.length (runsFrom .drop .add [] 0 steps) := runsFrom_ok steps [] 0 (fun _ h => nomatch h) (by decide) (by rw [gone_sum]; omega)
  have ar : RunsOk new.length (addedRuns steps) := runsFrom_ok steps [] 0 (fun _ h => nomatch h) (by decide) (by rw [made_sum]; omega)
  have dr' : RunsOk new.length (droppedRuns steps) := fun p hp => dr p (List.mem_reverse.mp hp)
  have kl := kept_len (old := old) steps 0
  have ce := counts_eq steps
  have d1 : (droppedRuns steps).foldl (fun rs p => delR (blankR w) p.1 p.2 rs) old = keptFrom old 0 steps ++ List.replicate (dropsOf steps) (blankR w) := by
    unfold droppedRuns
    rw [List.foldl_reverse]
    have := deletes_do (bl := blankR w) (old := old) steps [] 0 (by omega) []
    rw [List.append_nil, List.append_nil] at this
    exact this
  obtain ⟨rwd, rlen⟩ := rowsThen_wd ho steps 0 (by omega)
  rw [runO_append, runO_append, runO_append, run_dels _ _ dr' hl, d1]
  have bl : (keptFrom old 0 steps ++ List.replicate (dropsOf steps) (blankR w)).length = new.length := by rw [List.length_append, List.length_replicate]; omega
  rw [run_ins (h := new.length) _ _ ar bl]
  have i1 : insAll (blankR w) (addedRuns steps) (keptFrom old 0 steps ++ List.replicate (dropsOf steps) (blankR w)) = rowsThenFrom old w 0 steps := by
    have := inserts_do (bl := blankR w) (old := old) (base := keptFrom old 0 steps ++ List.replicate (dropsOf steps) (blankR w)) (w := w) rfl steps [] 0 0 [] (fun _ h => nomatch h) rfl (by omega) (by show _ = _; rw [show addsOf steps = dropsOf steps by omega]; rfl)
    exact this
  rw [i1, show rowsThen old w steps = rowsThenFrom old w 0 steps from rfl, rows_run hn _ 0 _ (by omega) rwd rfl]
  rw [wrO_append, wrO_append, wrO_append, wrO_map_del, wrO_map_ins]
  show SS.mk _ _ _ _ = SS.mk _ _ _ _
  simp [wrO]
end Mine

namespace Mine
theorem rowOrders_is {w h i : Nat} {r n : List Cell} (hi : i < h) (hr : r.length = w) (hn : n.length = w) : ∀ o ∈ rowOrders i r n, IsO w h o := by
  intro o ho
  have el := lastU_le r n n.length
  have tl := textE_le n n.length
  unfold rowOrders at ho
  generalize firstU r n 0 n.length = b at ho
  generalize lastU r n n.length = e at el ho
  generalize textE n n.length = z0 at tl ho
  dsimp only at ho
  have mne : ∀ x y, x < y → y ≤ n.length → mid n x y ≠ [] := fun x y hxy hy q => by have := mid_len (b := x) hy; rw [q] at this; simp at this; omega
  split at ho
  · cases ho
  · split at ho
    · rw [List.mem_singleton.mp ho]
      exact ⟨hi, mne _ _ (by omega) el, by rw [mid_len el]; omega⟩
    · rcases List.mem_append.mp ho with ho | ho
      · split at ho
        · rw [List.mem_singleton.mp ho]
          exact ⟨hi, mne _ _ (by omega) (by omega), by rw [mid_len (by omega)]; omega⟩
        · cases ho
      · rw [List.mem_singleton.mp ho]
        exact ⟨hi, by omega⟩
theorem ordersFrom_is {w : Nat} {new : Scr} (hn : Wd w new) : ∀ (rt : Scr) (i : Nat), i + rt.length = new.length → Wd w rt → ∀ o ∈ ordersFrom new i rt, IsO w new.length o
  | [], _, _, _, o, ho => nomatch ho
  | r :: rt, i, hi, hw, o, ho => by
    have hi' : i < new.length := by rw [List.length_cons] at hi; omega
    rcases List.mem_append.mp ho with ho | ho
    · exact rowOrders_is hi' (hw r (.head _)) (rowAt_w hn hi') o ho
    · exact ordersFrom_is hn rt (i + 1) (by rw [List.length_cons] at hi; omega) (fun q hq => hw q (.tail _ hq)) o ho
theorem runs_ok {new : Scr} {steps : List Word} (hg : goneOf steps = new.length) (hm : madeOf steps = new.length) : RunsOk new.length (droppedRuns steps) ∧ RunsOk new.length (addedRuns steps) :=
  ⟨fun p hp => (runsFrom_ok steps [] 0 (fun _ h => nomatch h) (by decide) (by rw [gone_sum]; omega) : RunsOk new.length (runsFrom .drop .add [] 0 steps)) p (List.mem_reverse.mp hp),
   (runsFrom_ok steps [] 0 (fun _ h => nomatch h) (by decide) (by rw [made_sum]; omega) : RunsOk new.length (runsFrom .add .drop [] 0 steps))⟩
theorem upd_is {w : Nat} {old new : Scr} {cr cc : Int} (ho : Wd w old) (hn : Wd w new) (hl : old.length = new.length) (hne : 0 < new.length) (h1 : 0 ≤ cr) (h2 : cr < new.length) (h3 : 0 ≤ cc) (h4 : cc < w) :
    ∀ o ∈ updOrders old new cr cc, IsO w new.length o := by
  obtain ⟨c1, c2, c3⟩ := steps_counts old new
  have w0 : (new.getD 0 []).length = w := rowAt_w (s := new) (j := 0) hn hne
  unfold updOrders
  rw [w0]
  generalize stepsOf old new = steps at c1 c2 c3
  dsimp only
  obtain ⟨dr, ar⟩ := runs_ok (new := new) (steps := steps) (by omega) c2
  obtain ⟨rwd, rlen⟩ := rowsThen_wd ho steps 0 (by omega)
  intro o hm
  rcases List.mem_append.mp hm with hm | hm
  · rcases List.mem_append.mp hm with hm | hm
    · rcases List.mem_append.mp hm with hm | hm
      · obtain ⟨p, hp, rfl⟩ := List.mem_map.mp hm
        exact ⟨(dr p hp).1, (dr p hp).2, rfl⟩
      · obtain ⟨p, hp, rfl⟩ := List.mem_map.mp hm
        exact ⟨(ar p hp).1, (ar p hp).2, rfl⟩
    · exact ordersFrom_is hn _ 0 (by omega) rwd o hm
  · rw [List.mem_singleton.mp hm]
    exact ⟨⟨h1, h2⟩, h3, h4⟩
theorem IsO.ok {w h : Nat} : ∀ {o : Ord}, IsO w h o → OkO w h o
  | .write _ _ _, x => ⟨x.1, x.2.2⟩
  | .clear _ _, x => ⟨x.1, Nat.le_of_lt x.2⟩
  | .insert _ _ _, ⟨_, a, b⟩ => ⟨b ▸ a, Nat.le_of_eq b⟩
  | .delete _ _ _, ⟨_, a, b⟩ => ⟨b ▸ a, Nat.le_of_eq b⟩
  | .cursor _ _, _ => trivial
theorem Wd.append {w : Nat} {a b : Scr} (x : Wd w a) (y : Wd w b) : Wd w (a ++ b) := fun r h => (List.mem_append.mp h).elim (x r) (y r)
theorem Wd.take {w n : Nat} {a : Scr} (x : Wd w a) : Wd w (a.take n) := fun r h => x r (List.mem_of_mem_take h)
theorem Wd.drop {w n : Nat} {a : Scr} (x : Wd w a) : Wd w (a.drop n) := fun r h => x r (List.mem_of_mem_drop h)
theorem Wd.blank {w n : Nat} : Wd w (List.replicate n (blankR w)) := fun r h => by rw [(List.mem_replicate.mp h).2]; exact List.length_replicate
/-- a good order keeps the screen's shape -/
theorem apply_inv {w h : Nat} {s : SS} (hw : Wd w s.rows) (hl : s.rows.length = h) : ∀ {o : Ord}, OkO w h o → Wd w (applyO w s o).rows ∧ (applyO w s o).rows.length = h
  | .write r c cs, x => by
    have hr := rowAt_w (j := r) hw (by rw [hl]; exact x.1)
    have x2 := x.2
    exact ⟨set_wd hw (by unfold putRow; simp; omega), (List.length_set ..).trans hl⟩
  | .clear r c, x => by
    have hr := rowAt_w (j := r) hw (by rw [hl]; exact x.1)
    have x2 := x.2
    exact ⟨set_wd hw (by simp; omega), (List.length_set ..).trans hl⟩
  | .insert r m b, x => by
    obtain ⟨x1, x2⟩ := x
    exact ⟨((hw.take.append .blank).append hw.drop.take).append hw.drop, by unfold applyO; simp; omega⟩
  | .delete r m b, x => by
    obtain ⟨x1, x2⟩ := x
    exact ⟨((hw.take.append hw.drop.take).append .blank).append hw.drop, by unfold applyO; simp; omega⟩
  | .cursor a b, _ => ⟨hw, hl⟩

/-! how much is written -/
theorem rowOrders_wr {w i : Nat} {r n : List Cell} (hn : n.length = w) : wrO (rowOrders i r n) ≤ w := by
  have el := lastU_le r n n.length
  have tl := textE_le n n.length
  unfold rowOrders
  generalize firstU r n 0 n.length = b
  generalize lastU r n n.length = e at el
  generalize textE n n.length = z0 at tl
  dsimp only
  split
  · exact Nat.zero_le _
  · split
    · show (mid n b e).length + 0 ≤ w
      rw [mid_len el]; omega
    · rw [wrO_append]
      split
      · show (mid n b (max b z0)).length + 0 + 0 ≤ w
        rw [mid_len (by omega)]; omega
      · exact Nat.zero_le _
theorem ordersFrom_wr {w : Nat} {new : Scr} (hn : Wd w new) : ∀ (rt : Scr) (i : Nat), i + rt.length = new.length → wrO (ordersFrom new i rt) ≤ w * rt.length
  | [], _, _ => Nat.zero_le _
  | r :: rt, i, hi => by
    unfold ordersFrom
    rw [wrO_append, List.length_cons, Nat.mul_succ]
    have h1 := rowOrders_wr (w := w) (i := i) (r := r) (n := rowAt new i) (rowAt_w hn (by rw [List.length_cons] at hi; omega))
    have h2 := ordersFrom_wr hn rt (i + 1) (by rw [List.length_cons] at hi; omega)
    omega
theorem upd_wr {w : Nat} {old new : Scr} {cr cc : Int} (ho : Wd w old) (hn : Wd w new) (hl : old.length = new.length) (hne : 0 < new.length) : wrO (updOrders old new cr cc) ≤ w * new.length := by
  obtain ⟨c1, c2, c3⟩ := steps_counts old new
  have w0 : (new.getD 0 []).length = w := rowAt_w (s := new) (j := 0) hn hne
  unfold updOrders
  rw [w0]
  generalize stepsOf old new = steps at c1 c2 c3
  dsimp only
  obtain ⟨rwd, rlen⟩ := rowsThen_wd ho steps 0 (by omega)
  rw [wrO_append, wrO_append, wrO_append, wrO_map_del, wrO_map_ins]
  have h := ordersFrom_wr hn (rowsThen old w steps) 0 (by unfold rowsThen; omega)
  have : (rowsThen old w steps).length = new.length := by unfold rowsThen; omega
  rw [this] at h
  show 0 + 0 + _ + 0 ≤ _
  omega

/-! what a plain update writes -/
theorem unlikeR_self (r : List Cell) : unlikeR r r = 0 := by
  unfold unlikeR
  induction r with
  | nil => rfl
  | cons a r ih =>
    rw [List.zip_cons_cons, List.map_cons, List.sum_cons, ih]
    simp
theorem unlikeR_append {a b c d : List Cell} (h : a.length = c.length) : unlikeR (a ++ b) (c ++ d) = unlikeR a c + unlikeR b d := by
  unfold unlikeR
  rw [List.zip_append h, List.map_append, List.sum_append]
theorem unlikeR_le : ∀ (a b : List Cell), unlikeR a b ≤ b.length
  | [], b => by simp [unlikeR]
  | _ :: _, [] => by simp [unlikeR]
  | x :: a, y :: b => by
    have ih := unlikeR_le a b
    unfold unlikeR at ih ⊢
    rw [List.zip_cons_cons, List.map_cons, List.sum_cons, List.length_cons]
    have : (if decide (x ≠ y) = true then (1 : Int) else 0) ≤ 1 := by split <;> omega
    simp only at this ⊢
    omega
noncomputable def isClear : Ord → Bool
  | .clear _ _ => true
  | _ => false
theorem row_unlike {w i : Nat} {r n : List Cell} (hr : r.length = w) (hn : n.length = w) (hc : ∀ o ∈ rowOrders i r n, isClear o = false) : unlikeR r n ≤ wrO (rowOrders i r n) := by
  have bl := firstU_le r n n.length 0
  have el := lastU_le r n n.length
  have fs := fun j => firstU_spec r n n.length 0 j (Nat.zero_le _)
  have ls := lastU_spec r n n.length
  unfold rowOrders at hc ⊢
  generalize firstU r n 0 n.length = b at bl fs hc
  generalize lastU r n n.length = e at el ls hc
  have tb : r.take b = n.take b := take_eq (by omega) (by omega) fs
  have de : r.drop e = n.drop e := drop_eq (by omega) ls
  dsimp only at hc ⊢
  split
  · rename_i h
    have hrn : r = n := by
      rw [← List.take_append_drop b r, ← List.take_append_drop b n, tb]
      congr 1
      have := congrArg (List.drop (b - e)) de
      rwa [List.drop_drop, List.drop_drop, Nat.add_sub_cancel' h] at this
    rw [hrn, unlikeR_self]
    exact Int.le_refl _
  · rename_i h
    rw [if_neg h] at hc
    split
    · have e1 : r = r.take b ++ (mid r b e ++ r.drop e) := by rw [← List.append_assoc, take_mid (by omega), List.take_append_drop]
      have e2 : n = n.take b ++ (mid n b e ++ n.drop e) := by rw [← List.append_assoc, take_mid (by omega), List.take_append_drop]
      have l1 : (mid r b e).length = (mid n b e).length := by rw [mid_len (by omega), mid_len el]
      have : unlikeR r n = unlikeR (mid r b e) (mid n b e) := by
        conv => lhs; rw [e1, e2]
        rw [unlikeR_append (by rw [tb]), unlikeR_append l1, tb, de, unlikeR_self, unlikeR_self, Int.zero_add, Int.add_zero]
      rw [this]
      exact unlikeR_le _ _
    · rename_i h2
      rw [if_neg h2] at hc
      have := hc _ (List.mem_append_right _ (.head _))
      cases this
theorem rows_unlike {w : Nat} {new : Scr} (hn : Wd w new) : ∀ (rt : Scr) (i : Nat), i + rt.length = new.length → Wd w rt → (∀ o ∈ ordersFrom new i rt, isClear o = false) → unlikeS rt (new.drop i) ≤ wrO (ordersFrom new i rt)
  | [], _, _, _, _ => by simp [unlikeS]
  | r :: rt, i, hi, hw, hc => by
    have hi' : i < new.length := by rw [List.length_cons] at hi; omega
    have ih := rows_unlike hn rt (i + 1) (by rw [List.length_cons] at hi; omega) (fun q hq => hw q (.tail _ hq)) fun o ho => hc o (List.mem_append_right _ ho)
    have hr := row_unlike (i := i) (hw r (.head _)) (rowAt_w hn hi') fun o ho => hc o (List.mem_append_left _ ho)
    have ed : new.drop i = rowAt new i :: new.drop (i + 1) := by
      rw [List.drop_eq_getElem_cons hi']; unfold rowAt; rw [getD_el hi']
    unfold ordersFrom
    rw [wrO_append, ed]
    unfold unlikeS at ih ⊢
    rw [List.zip_cons_cons, List.map_cons, List.sum_cons]
    simp only at hr ih ⊢
    omega
end Mine

namespace Mine
noncomputable def isMove : Ord → Bool
  | .insert _ _ _ => true
  | .delete _ _ _ => true
  | _ => false
noncomputable def manyOf : Ord → Int
  | .insert _ m _ => m
  | .delete _ m _ => m
  | _ => 0
noncomputable def movedO (os : List Ord) : Int := ((os.filter isMove).map manyOf).sum
theorem movedO_append (a b : List Ord) : movedO (a ++ b) = movedO a + movedO b := by unfold movedO; rw [List.filter_append, List.map_append, List.sum_append]
theorem movedO_del (L : List (Nat × Nat)) (h : Nat) : movedO (L.map fun p => .delete p.1 p.2 h) = (L.map fun p => (p.2 : Int)).sum := by
  induction L with
  | nil => rfl
  | cons p L ih => rw [List.map_cons, List.map_cons, List.sum_cons, ← ih]; rfl
theorem movedO_ins (L : List (Nat × Nat)) (h : Nat) : movedO (L.map fun p => .insert p.1 p.2 h) = (L.map fun p => (p.2 : Int)).sum := by
  induction L with
  | nil => rfl
  | cons p L ih => rw [List.map_cons, List.map_cons, List.sum_cons, ← ih]; rfl
theorem movedO_none {os : List Ord} (h : ∀ o ∈ os, isMove o = false) : movedO os = 0 := by
  unfold movedO
  rw [List.filter_eq_nil_iff.mpr fun o ho => by rw [h o ho]; decide]
  rfl
theorem ordersFrom_plain {new : Scr} : ∀ (rt : Scr) (i : Nat), ∀ o ∈ ordersFrom new i rt, isMove o = false
  | [], _, o, ho => nomatch ho
  | r :: rt, i, o, ho => by
    rcases List.mem_append.mp ho with ho | ho
    · rcases rowOrders_kind i r (rowAt new i) o ho with ⟨c, cs, rfl, _⟩ | ⟨c, rfl⟩ <;> rfl
    · exact ordersFrom_plain rt (i + 1) o ho
theorem runs_sum {L : List (Nat × Nat)} {h : Nat} (hL : RunsOk h L) : (L.length : Int) ≤ (L.map fun p => (p.2 : Int)).sum := by
  induction L with
  | nil => exact Int.le_refl _
  | cons p L ih =>
    have := ih fun q hq => hL q (.tail _ hq)
    have hp := (hL p (.head _)).1
    rw [List.map_cons, List.sum_cons, List.length_cons]
    omega
theorem addRun_ne (F : List (Nat × Nat)) (n : Nat) : addRun F n ≠ [] := by
  rcases List.eq_nil_or_concat F with rfl | ⟨G, q, rfl⟩
  · simp [addRun]
  · rw [List.concat_eq_append, addRun_snoc]; split <;> simp
theorem runsFrom_nil {hit skip : Word} : ∀ (steps : List Word) (F : List (Nat × Nat)) (n : Nat), runsFrom hit skip F n steps = [] → F = [] ∧ ∀ u ∈ steps, u ≠ hit
  | [], F, n, h => ⟨h, fun _ h => nomatch h⟩
  | u :: r, F, n, h => by
    unfold runsFrom at h
    obtain ⟨a, b⟩ := runsFrom_nil r _ _ h
    split at a
    · exact absurd a (addRun_ne _ _)
    · rename_i hu
      exact ⟨a, fun v hv => (List.mem_cons.mp hv).elim (fun e => e ▸ hu) (b v)⟩
theorem keep_rows {old : Scr} {w : Nat} : ∀ (steps : List Word) (i : Nat), (∀ u ∈ steps, u = .keep) → i + goneOf steps = old.length → rowsThenFrom old w i steps = old.drop i
  | [], i, _, h => by
    have : i = old.length := by simpa [goneOf] using h
    rw [this, List.drop_length]; rfl
  | u :: r, i, hk, h => by
    have := hk u (.head _)
    subst this
    have hi : i < old.length := by simp [goneOf] at h; omega
    unfold rowsThenFrom
    rw [if_neg (by decide), keep_rows r (i + 1) (fun v hv => hk v (.tail _ hv)) (by simp [goneOf] at h; omega), List.drop_eq_getElem_cons hi]
    show [rowAt old i] ++ _ = _
    unfold rowAt
    rw [getD_el hi]; rfl
/-- where nothing moves and nothing is cleared, each unlike cell is written -/
theorem upd_unlike {w : Nat} {old new : Scr} {cr cc : Int} (ho : Wd w old) (hn : Wd w new) (hl : old.length = new.length) (hne : 0 < new.length) (hm : movedO (updOrders old new cr cc) = 0) (hc : ∀ o ∈ updOrders old new cr cc, isClear o = false) :
    unlikeS old new ≤ wrO (updOrders old new cr cc) := by
  obtain ⟨c1, c2, c3⟩ := steps_counts old new
  have w0 : (new.getD 0 []).length = w := rowAt_w (s := new) (j := 0) hn hne
  unfold updOrders at hm hc ⊢
  rw [w0] at hm hc ⊢
  generalize stepsOf old new = steps at c1 c2 c3 hm hc
  dsimp only at hm hc ⊢
  obtain ⟨dr, ar⟩ := runs_ok (new := new) (steps := steps) (by omega) c2
  rw [movedO_append, movedO_append, movedO_append, movedO_del, movedO_ins, movedO_none (ordersFrom_plain _ _)] at hm
  have h1 := runs_sum dr
  have h2 := runs_sum ar
  have hm' : ((droppedRuns steps).map fun p => (p.2 : Int)).sum + ((addedRuns steps).map fun p => (p.2 : Int)).sum = 0 := by
    have : movedO [Ord.cursor cr cc] = 0 := rfl
    rw [this] at hm; omega
  have e1 : droppedRuns steps = [] := List.eq_nil_of_length_eq_zero (by omega)
  have e2 : addedRuns steps = [] := List.eq_nil_of_length_eq_zero (by omega)
  have n1 := (runsFrom_nil steps [] 0 (by unfold droppedRuns at e1; exact List.reverse_eq_nil_iff.mp e1)).2
  have n2 := (runsFrom_nil steps [] 0 e2).2
  have hk : ∀ u ∈ steps, u = .keep := fun u hu => by
    cases u with
    | keep => rfl
    | drop => exact absurd rfl (n1 _ hu)
    | add => exact absurd rfl (n2 _ hu)
  have ert : rowsThen old w steps = old := by
    have := keep_rows (old := old) (w := w) steps 0 hk (by omega)
    rw [List.drop_zero] at this; exact this
  rw [e1, e2, ert] at hc ⊢
  have h := rows_unlike hn old 0 (by omega) ho fun o hm => hc o (List.mem_append_left _ (List.mem_append_right _ hm))
  rw [List.drop_zero] at h
  rw [wrO_append, wrO_append]
  show unlikeS old new ≤ ((0 + wrO (ordersFrom new 0 old) + 0 : Nat) : Int)
  rw [Nat.zero_add, Nat.add_zero]; exact h

/-! like screens -/
theorem lastU_self (r : List Cell) : ∀ k, lastU r r k = 0
  | 0 => rfl
  | k + 1 => by unfold lastU; rw [if_neg (fun h => h rfl)]; exact lastU_self r k
theorem rowOrders_self (i : Nat) (r : List Cell) : rowOrders i r r = [] := by
  unfold rowOrders
  dsimp only
  rw [lastU_self, if_pos (Nat.zero_le _)]
theorem rowCost_self (r : List Cell) : rowCost r r = 0 := by unfold rowCost; rw [rowOrders_self]; rfl
theorem pickMin_zero {f : Nat × Word} (h : f.1 = 0) : ∀ cs, pickMin f cs = f
  | [] => rfl
  | c :: r => by unfold pickMin; rw [if_neg (by omega)]; exact pickMin_zero h r
theorem dp_diag (new : Scr) (bl : List Cell) : ∀ i, dp new new bl i i = (0, .keep)
  | 0 => rfl
  | i + 1 => by
    rw [dp_step (by omega)]
    unfold choicesOf
    rw [if_pos ⟨Nat.succ_pos i, Nat.succ_pos i⟩, Nat.add_sub_cancel]
    dsimp only
    rw [dp_diag new bl i, rowCost_self]
    exact pickMin_zero rfl _
theorem backF_diag (new : Scr) (bl : List Cell) : ∀ n i, i + i ≤ n → backF new new bl n i i = List.replicate i .keep
  | 0, i, h => by
    have : i = 0 := by omega
    subst this; rfl
  | n + 1, 0, _ => by unfold backF; rw [if_pos rfl]; rfl
  | n + 1, i + 1, h => by
    unfold backF
    rw [if_neg (by omega), dp_diag]
    show Word.keep :: backF new new bl n (i + 1 - 1) (i + 1 - 1) = _
    rw [Nat.add_sub_cancel, backF_diag new bl n i (by omega)]; rfl
theorem stepsOf_self (new : Scr) : stepsOf new new = List.replicate new.length .keep := by
  unfold stepsOf
  rw [backF_diag new _ _ _ (Nat.le_refl _), List.reverse_replicate]
theorem runs_keep {hit skip : Word} (h : Word.keep ≠ hit) : ∀ (k n : Nat) (F : List (Nat × Nat)), runsFrom hit skip F n (List.replicate k .keep) = F
  | 0, _, _ => rfl
  | k + 1, n, F => by rw [List.replicate_succ]; unfold runsFrom; rw [if_neg h]; exact runs_keep h k _ F
theorem ordersFrom_self {new : Scr} : ∀ (k i : Nat), i + k = new.length → ordersFrom new i (new.drop i) = []
  | 0, i, h => by rw [show i = new.length by omega, List.drop_length]; rfl
  | k + 1, i, h => by
    have hi : i < new.length := by omega
    have e : rowAt new i = new[i] := by unfold rowAt; rw [getD_el hi]
    rw [List.drop_eq_getElem_cons hi]
    unfold ordersFrom
    rw [e, rowOrders_self, ordersFrom_self k (i + 1) (by omega)]; rfl
theorem goneOf_keep : ∀ k, goneOf (List.replicate k .keep) = k
  | 0 => rfl
  | k + 1 => by rw [List.replicate_succ, goneOf, goneOf_keep k]; simp; omega
theorem upd_self (new : Scr) (cr cc : Int) : updOrders new new cr cc = [.cursor cr cc] := by
  unfold updOrders
  rw [stepsOf_self]
  dsimp only
  have e1 : droppedRuns (List.replicate new.length .keep) = [] := by unfold droppedRuns; rw [runs_keep (by decide)]; rfl
  have e2 : addedRuns (List.replicate new.length .keep) = [] := runs_keep (by decide) _ _ _
  have e3 : rowsThen new (new.getD 0 []).length (List.replicate new.length .keep) = new := by
    have := keep_rows (old := new) (w := (new.getD 0 []).length) (List.replicate new.length .keep) 0 (fun u hu => (List.mem_replicate.mp hu).2) (by rw [goneOf_keep]; omega)
    rw [List.drop_zero] at this; exact this
  have e4 := ordersFrom_self (new := new) new.length 0 (by omega)
  rw [List.drop_zero] at e4
  rw [e1, e2, e3, e4]; rfl

/-! rows that were only moved -/
noncomputable def shiftedS (h : Nat) : Scr := (List.range h).map fun n : Nat => List.replicate 7 (((65 : Int) + (n : Int)), (1 : Int))
noncomputable def leftS (h g : Nat) : Scr := (shiftedS h).take g ++ (shiftedS h).drop (g + 1) ++ [List.replicate 7 Ecell]
theorem ground : ∀ h, h < 6 → ∀ g, g < 6 → g + 2 < h → wrO (updOrders (shiftedS h) (leftS h g) 0 0) = 0 := by decide +kernel
end Mine

namespace Mine
section
variable {C : Cfg} {k : Nat} {env : Env} {ρ : List (Option T)} {μ : Mem} {Ψ : Out → Prop} {Φ : T → Mem → Prop} {Θ : Bool → Mem → Prop}
/-- tests that may change what is owned -/
noncomputable abbrev EvBE (C : Cfg) (k : Nat) (env : Env) (e : Expr) (ρ : List (Option T)) (μ : Mem) (Θ : Bool → Mem → Prop) : Prop := EvT C k env (isTrue e env (eval e env)) ρ μ fun _ b μ' => Θ b μ'
noncomputable def AllBE (C : Cfg) (k : Nat) (env : Env) (op : BoolOp) (es : List Expr) (ρ : List (Option T)) (μ : Mem) (Θ : Bool → Mem → Prop) : Prop := EvT C k env (allTrue op es env) ρ μ fun _ b μ' => Θ b μ'
theorem EvB.be {e : Expr} {b : Bool} (h : EvB C k env e ρ μ b) (hΘ : Θ b μ) : EvBE C k env e ρ μ Θ := fun A P s Q hA hS hQ =>
  h A P s Q hA hS fun v P' h' tk st r => hQ v P' h' tk μ (r ▸ hΘ) st.toW (hS.step st) .refl
theorem AllBE.or_nil (h : Θ false μ) : AllBE C k env .Or [] ρ μ Θ := fun A P s Q hA hS hQ => wpAny_allTrue_Or_nil (hQ _ P _ _ μ h (.refl hS.gd.s) hS .refl)
theorem AllBE.or_cons {e : Expr} {r : List Expr} (h : EvBE C k env e ρ μ fun b μ1 => (b = true → Θ true μ1) ∧ (b = false → AllBE C k env .Or r ρ μ1 Θ)) : AllBE C k env .Or (e :: r) ρ μ Θ := fun A P s Q hA hS hQ =>
  wpAny_allTrue_Or_cons (h A P s _ hA hS fun b P1 h1 tk1 μ1 hb w1 S1 x1 => by
    cases b with
    | true => exact hQ _ P1 h1 tk1 μ1 (hb.1 rfl) w1 S1 x1
    | false => exact hb.2 rfl A P1 _ _ hA S1 fun c P2 h2 tk2 μ2 hc w2 S2 x2 => hQ c P2 h2 tk2 μ2 hc (w1.trans w2 x1) S2 (x1.trans' w1 (fun _ => .inl) x2))
theorem EvBE.bool {op : BoolOp} {es : List Expr} {p : Pos} (h : AllBE C k env op es ρ μ Θ) : EvBE C k env (.BoolOp op es p) ρ μ Θ := fun A P s Q hA hS hQ => wpAny_isTrue_BoolOp (h A P s Q hA hS hQ)
theorem EvBE.cmp {l r : Expr} {op : CmpOp} {p : Pos} (h1 : Ev C k env l ρ μ fun a μ1 => Ev C k env r ρ μ1 fun b μ2 => ∃ c, Op2 C k μ2 (compareOp op) a b (fun _ v => v = .bool c) ∧ Θ c μ2) (hb : behindInMarks op r = false) : EvBE C k env (.Compare l [op] [r] p) ρ μ Θ := fun A P s Q hA hS hQ =>
  wpAny_isTrue_Compare1 (h1 A P s _ hA hS fun v P1 h1 tk1 μ1 ⟨a, r1, hr⟩ w1 S1 x1 => hr A P1 _ _ hA S1 fun w P2 h2 tk2 μ2 ⟨b, r2, c, ho, hp⟩ w2 S2 x2 =>
    ho A P2 _ _ _ _ hA S2.gd S2.me (r1.mono w2.le) r2 fun u P3 h3 tk3 st3 e => by
      subst e
      exact wpAny_truthy_bool (hQ c P3 h3 tk3 μ2 hp ((w1.trans w2 x1).trans st3.toW fun _ => .inl) (S2.step st3) (x1.trans' w1 (fun _ => .inl) x2))) hb
theorem Ev.cmp {l r : Expr} {op : CmpOp} {p : Pos} (h1 : Ev C k env l ρ μ fun a μ1 => Ev C k env r ρ μ1 fun b μ2 => ∃ c, Op2 C k μ2 (compareOp op) a b (fun _ v => v = .bool c) ∧ Φ (.bool c) μ2) (hb : behindInMarks op r = false) : Ev C k env (.Compare l [op] [r] p) ρ μ Φ := fun A P s Q hA hS hQ =>
  wpAny_Compare1 (h1 A P s _ hA hS fun v P1 h1 tk1 μ1 ⟨a, r1, hr⟩ w1 S1 x1 => hr A P1 _ _ hA S1 fun w P2 h2 tk2 μ2 ⟨b, r2, c, ho, hp⟩ w2 S2 x2 =>
    ho A P2 _ _ _ _ hA S2.gd S2.me (r1.mono w2.le) r2 fun u P3 h3 tk3 st3 e => by
      subst e
      exact hQ _ P3 h3 tk3 μ2 ⟨_, .bool, hp⟩ ((w1.trans w2 x1).trans st3.toW fun _ => .inl) (S2.step st3) (x1.trans' w1 (fun _ => .inl) x2)) hb
theorem Ev.and_more {e e' : Expr} {r : List Expr} {p : Pos} (h : Ev C k env e ρ μ fun t μ1 => ∃ b, t = .bool b ∧ (b = false → Φ (.bool false) μ1) ∧ (b = true → Ev C k env (.BoolOp .And (e' :: r) p) ρ μ1 Φ)) : Ev C k env (.BoolOp .And (e :: e' :: r) p) ρ μ Φ := fun A P s Q hA hS hQ =>
  BoolOp_and (h A P s _ hA hS fun v P1 h1 tk1 μ1 ⟨t, r1, b, et, hf, ht⟩ w1 S1 x1 => by
    subst et
    cases r1
    refine wpAny_truthy_bool ?_
    cases b with
    | false => exact hQ _ P1 h1 tk1 μ1 ⟨_, .bool, hf rfl⟩ w1 S1 x1
    | true => exact ht rfl A P1 _ _ hA S1 fun u P2 h2 tk2 μ2 hp w2 S2 x2 => hQ u P2 h2 tk2 μ2 hp (w1.trans w2 x1) S2 (x1.trans' w1 (fun _ => .inl) x2))
theorem Ex1.iteE {t : Expr} {b o : List Stmt} {p : Pos} (h : EvBE C k env t ρ μ fun c μ1 => (c = true → Ex C k env b ρ μ1 Ψ) ∧ (c = false → Ex C k env o ρ μ1 Ψ)) : Ex1 C k env (.If t b o p) ρ μ Ψ := fun A P s Q hA hS hQ =>
  wpAny_If (h A P s _ hA hS fun c P1 hh tk1 μ1 hc w1 S1 x1 => by
    cases c with
    | true => exact hc.1 rfl A P1 _ _ hA S1 fun f P2 h2 tk2 o ho w2 ok => hQ f P2 h2 tk2 o ho (w1.nn.trans w2 x1.nn) (ok.after S1 x1 w1.nn)
    | false => exact hc.2 rfl A P1 _ _ hA S1 fun f P2 h2 tk2 o ho w2 ok => hQ f P2 h2 tk2 o ho (w1.nn.trans w2 x1.nn) (ok.after S1 x1 w1.nn))
/-- a value taken as a test -/
theorem EvB.valName {x : Str} {p : Pos} {b : Bool} (h : EvP C k env (.Name x p) ρ μ (.bool b)) : EvB C k env (.Name x p) ρ μ b := fun A P s Q hA hS hQ =>
  wpAny_isTrue_value (h A P s _ hA hS fun v P1 h1 tk1 st1 r1 => by cases r1; exact wpAny_truthy_bool (hQ b P1 h1 tk1 st1 rfl)) (by rfl)
theorem EvB.valCall {f : Expr} {es : List Expr} {p : Pos} {b : Bool} (h : EvP C k env (.Call f es [] p) ρ μ (.bool b)) : EvB C k env (.Call f es [] p) ρ μ b := fun A P s Q hA hS hQ =>
  wpAny_isTrue_value (h A P s _ hA hS fun v P1 h1 tk1 st1 r1 => by cases r1; exact wpAny_truthy_bool (hQ b P1 h1 tk1 st1 rfl)) (by rfl)
end
end Mine

namespace Mine
structure LawC (C : Cfg) (c : Addr) : Prop where
  X : PlainCls C c sFlds
  pot : Has C "_law_pot" fun f => ∀ {l : Addr} {ns : List Int}, LstAt C [] (.adr l) (ns.map .int) → ns.length < 1000 → CallM C 1 [] f [.adr l] fun t μ' => ∃ p cs, t = .adr p ∧ cs.length < 1000 ∧ Pot p cs μ'
  dip : DipC C
  screens : Has C "_law_screens" fun f => ∀ {p : Addr} {cs : List Int} {a : Nat} {m : Int}, cs.length < 1000 → 0 ≤ m → m < 66000 → CallM C 3 [(p, potL cs a m)] f [.adr p] fun t μ' => ∃ (old new : Scr) (w h : Nat), t = .tup [es old, es new, .int w, .int h] ∧ Wd w old ∧ Wd w new ∧ old.length = h ∧ new.length = h ∧ 2 ≤ w ∧ w ≤ 7 ∧ 2 ≤ h ∧ h ≤ 5 ∧ Pot p cs μ'
  iso : Has C "_law_is_order" fun f => ∀ {o : Ord} {w h : Nat}, w < 999 → h < 999 → IsO w h o → CallM C 1 [] f [eo o, .int w, .int h] fun t _ => t = .bool true
  unl : Has C "_law_unlike" fun f => ∀ {old new : Scr} {w : Nat}, old.length < 999 → w < 999 → Wd w old → CallM C 1 [] f [es old, es new] fun t _ => t = .int (unlikeS old new)
  drawn : Has C "_law_drawn" fun f => ∀ {rows : Scr} {w : Nat}, w < 999 → rows.length < 999 → Wd w rows → CallM C 3 [] f [es rows, .int w, .int rows.length] fun t μ' => ∃ x dx r, t = .adr x ∧ μ' = scrM c x dx r w ⟨rows, 0, 0, 0⟩
  upd : Has C "update_orders" fun f => ∀ {old new : Scr} {w : Nat} {cr cc : Int}, Wd w old → Wd w new → w < 999 → old.length + new.length < 999 → 0 < new.length → CallM C 7 [] f [es old, es new, .tup [.int cr, .int cc]] fun t _ => t = .lst ((updOrders old new cr cc).map eo)
  carry : HasM C c "carry_out" fun f => ∀ {x dx r : Addr} {w : Nat} {s : SS} {o : Ord}, w < 999 → Wd w s.rows → s.rows.length < 999 → OkO w s.rows.length o → CallM C 3 (scrM c x dx r w s) f [.adr x, eo o] fun t μ' => t = .none ∧ ∃ r', μ' = scrM c x dx r' w (applyO w s o)
  told : HasM C c "told" fun f => ∀ {x dx : Addr} {w : Nat} {s : SS}, Wd w s.rows → w < 999 → s.rows.length < 999 → CallM C 1 [(x, .raw (instObj c dx)), (dx, .flds (scrF w (es s.rows) s))] f [.adr x] fun t μ' => t = .tup (s.rows.map fun r => .tup (r.map ec)) ∧ μ' = [(x, .raw (instObj c dx)), (dx, .flds (scrF w (es s.rows) s))]
noncomputable def wordO : Ord → Str
  | .write _ _ _ => "write"
  | .clear _ _ => "clear"
  | .insert _ _ _ => "insert"
  | .delete _ _ _ => "delete"
  | .cursor _ _ => "cursor"
section
variable {C : Cfg} {k : Nat} {env : Env} {ρ : List (Option T)} {μ : Mem} {Ψ : Out → Prop} {Φ : T → Mem → Prop} {c x dx r : Addr} {w : Nat} {s : SS}
/-- the rows of a screen that changes no more -/
theorem Ex.freezeScr {sts : List Stmt} (μ2 : Mem) (p : μ.Perm (scrM c x dx r w s ++ μ2)) (h : Ex C k env sts ρ ((x, .raw (instObj c dx)) :: (dx, .flds (scrF w (es s.rows) s)) :: μ2) Ψ) : Ex C k env sts ρ μ Ψ :=
  Ex.ghost (fun P hp S => by
    have pm : μ.Perm ((r, .lst (s.rows.map er)) :: (x, .raw (instObj c dx)) :: (dx, .flds (scrF w (.adr r) s)) :: μ2) :=
      p.trans (List.perm_append_comm (l₁ := [(x, MObj.raw (instObj c dx)), (dx, .flds (scrF w (.adr r) s))]) (l₂ := [(r, .lst (s.rows.map er))]) |>.append_right μ2)
    obtain ⟨P', S', wst, xs, rr⟩ := S.freeze pm
    refine ⟨P', ⟨S'.gd, S'.fr, ⟨fun y hy => ?_, fun y hy => ?_, S'.me.nd⟩, S'.ap⟩, wst, xs⟩
    · rcases List.mem_cons.mp hy with rfl | hy
      · exact S'.me.rep _ (.head _)
      · rcases List.mem_cons.mp hy with rfl | hy
        · obtain ⟨es', n, e, fr⟩ := S'.me.rep (dx, .flds (scrF w (.adr r) s)) (.tail _ (.head _))
          refine ⟨es', n, e, ?_⟩
          cases es' with
          | nil => exact fr.elim
          | cons e1 es' =>
            cases es' with
            | nil => exact fr.2.2.elim
            | cons e2 es' =>
              obtain ⟨a1, a2, b1, b2, b3⟩ := fr
              refine ⟨a1, a2, b1, ?_, b3⟩
              revert b2
              generalize e2.val = v
              intro b2
              cases b2
              exact rr
        · exact S'.me.rep y (.tail _ (.tail _ hy))
    · rcases List.mem_cons.mp hy with rfl | hy
      · exact S'.me.off _ (.head _)
      · rcases List.mem_cons.mp hy with rfl | hy
        · exact S'.me.off (dx, .flds (scrF w (.adr r) s)) (.tail _ (.head _))
        · exact S'.me.off y (.tail _ (.tail _ hy))) h
theorem scr_tok (s : Scr) : kqdOk 9 (T.tup (s.map fun r => .tup (r.map ec))).toD = true := okT (fun r => okT (n := 7) (fun c => ec_ok c 6) r) s
theorem curs_ok (a b : Int) : kqdOk 9 (T.tup [.int a, .int b]).toD = true := by simp [T.toD, toDs, kqdOk]
theorem ords_ok (a b : Int) : kqdOk 9 (T.lst [.tup [.str "cursor", .int a, .int b]]).toD = true := by simp [T.toD, toDs, kqdOk]; decide +kernel
theorem bits5 : ∀ h : Nat, h < 6 → Builtin.Int.intBits (h : Int) ≤ 64 := by decide
theorem not_same {t : T} (h : kqdOk 9 t.toD = true) : Op2 C k μ (compareOp .NotEq) t t fun _ v => v = .bool false := op_ne h h ⟨fun q => (nomatch q), fun q => absurd rfl q⟩
theorem word_move (o : Ord) : (["insert", "delete"] : List Str).any (· == wordO o) = isMove o := by cases o <;> (dsimp only [wordO, isMove]; decide)
theorem word_sub {v i : Expr} (o : Ord) : SubOp C k μ v i (eo o) (.int 0) (.str (wordO o)) := by cases o <;> exact sub_tuple (by decide) (by decide) rfl
theorem many_sub {v i : Expr} {o : Ord} (h : isMove o = true) : SubOp C k μ v i (eo o) (.int 2) (.int (manyOf o)) := by cases o <;> first | exact sub_tuple (by decide) (by decide) rfl | cases h
theorem clear_word (os : List Ord) (h : (os.map wordO).any (· == "clear") = false) : ∀ o ∈ os, isClear o = false := fun o ho => by
  cases q : isClear o with
  | false => rfl
  | true =>
    have : (os.map wordO).any (· == "clear") = true := List.any_eq_true.mpr ⟨wordO o, List.mem_map.mpr ⟨o, ho, rfl⟩, by cases o <;> first | rfl | cases q⟩
    rw [this] at h; cases h
end
end Mine

namespace Mine
section
variable {C : Cfg} {fx : FX} {c : Addr}
/-- the tuple of tuples of a screen's rows -/
theorem tupsE {k : Nat} {env : Env} {ρ : List (Option T)} {μ : Mem} {fp lp cp : Pos} {elt iter target : Expr} {scope : Scope} {cl : List (Str × Addr)} {R : EltR} {tg : Nat → List (Option T) → List (Option T)} {s : Scr} (B : Bt C) (hz : s.length < 999) (X : CompRun C k env ρ μ [] μ elt iter target [] scope s.length (fun i ys μi => μi = [] ∧ ys = (s.take i).map fun r : List Cell => T.tup (r.map ec)) cl R tg) (hl : env.kindOf "tuple" = some .globalImplicit := by rfl) (hs : starEach [.ListComp elt [⟨target, iter, [], 0⟩] scope lp] env = [(false, eval (.ListComp elt [⟨target, iter, [], 0⟩] scope lp) env)] := by rfl) :
    EvP C k env (.Call (.Name "tuple" fp) [.ListComp elt [⟨target, iter, [], 0⟩] scope lp] [] cp) ρ μ (.tup (s.map fun r : List Cell => T.tup (r.map ec))) :=
  EvP.callB B.tuple .type (EvP.one (EvP.mapComp X) hs) (tuple_list .frozen (by rw [List.length_map]; omega)) hl (by decide) nostar1
theorem ordersFrom_len (new : Scr) : ∀ (rt : Scr) (i : Nat), (ordersFrom new i rt).length ≤ 2 * rt.length
  | [], _ => Nat.le_refl _
  | r :: rt, i => by
    unfold ordersFrom
    have h1 := rowOrders_len i r (rowAt new i)
    have h2 := ordersFrom_len new rt (i + 1)
    rw [List.length_append, List.length_cons]; omega
theorem upd_len {w : Nat} {old new : Scr} {cr cc : Int} (ho : Wd w old) (hn : Wd w new) (hl : old.length = new.length) (hne : 0 < new.length) : (updOrders old new cr cc).length ≤ 6 * new.length + 1 := by
  obtain ⟨c1, c2, c3⟩ := steps_counts old new
  have w0 : (new.getD 0 []).length = w := rowAt_w (s := new) (j := 0) hn hne
  unfold updOrders
  rw [w0]
  generalize stepsOf old new = steps at c1 c2 c3
  dsimp only
  obtain ⟨rwd, rlen⟩ := rowsThen_wd ho steps 0 (by omega)
  have h := ordersFrom_len new (rowsThen old w steps) 0
  have dl : (droppedRuns steps).length ≤ steps.length := by unfold droppedRuns; rw [List.length_reverse]; have := runs_len .drop .add steps [] 0; simpa using this
  have al : (addedRuns steps).length ≤ steps.length := by unfold addedRuns; have := runs_len .add .drop steps [] 0; simpa using this
  have e : (rowsThen old w steps).length = new.length := by unfold rowsThen; omega
  rw [e] at h
  rw [List.length_append, List.length_append, List.length_append, List.length_map, List.length_map, List.length_singleton]
  omega
set_option maxHeartbeats 4000000 in
theorem law_ok (B : Gl C) (W : LawC C c) (L f : Addr) {l : Addr} {ns : List Int} (hl : LstAt C [] (.adr l) (ns.map .int)) (hns : ns.length < 1000) :
    Ex C 7 (callEnvC (mkFd (topS 27) fx) L f) (fnBody (topS 27)) (ρ0 14 [.adr l]) [] (Ret fun t _ => t = .bool true) := by
  -- the pot, the screens, the cursor
  refine Ex.cons (Ex1.assign (i := 1) (Ev.callH [] [] (.refl _) W.pot (EvP.one (EvP.loc 0)) (fun f s => (s hl hns).le (by decide)) (fun t μ1' hp => ?_) nostar1) rfl (.inl rfl) (by rfl))
  obtain ⟨p, cs, rfl, hcs, a, m, rfl, h0, h1⟩ := hp
  refine Ex.cons (Ex1.assignTupE (Ev.callH [(p, potL cs a m)] [] (.refl _) W.screens (EvP.one (EvP.loc 1)) (fun f s => (s hcs h0 h1).le (by decide)) (fun t μ1' hp => ?_) nostar1) (by rfl) (by rfl) (by rfl))
  obtain ⟨old, new, w, h, rfl, ow, nw, ol, nl, hw2, hw7, hh2, hh5, a1, m1, rfl, h01, h11⟩ := hp
  refine ⟨[es old, es new, .int w, .int h], _, rfl, .cons (Tgt.name (i := 2) (kd := .local) rfl (.inl rfl)) (.cons (Tgt.name (i := 3) (kd := .local) rfl (.inl rfl)) (.cons (Tgt.name (i := 4) (kd := .local) rfl (.inl rfl)) (.cons (Tgt.name (i := 5) (kd := .local) rfl (.inl rfl)) .nil))), ?_⟩
  refine Ex.cons (Ex1.assign (i := 6) (Ev.tuple (Evs.cons (Ev.dip (many := h) (μ2 := []) W.dip (by decide) hcs (by omega) h01 h11 (.refl _) (EvP.loc 1) (EvP.loc 5) fun cr a2 m2 hcr h02 h12 => ?_) rfl)) rfl (.inl rfl) (by rfl))
  refine Evs.cons (Ev.dip (many := w) (μ2 := []) W.dip (by decide) hcs (by omega) h02 h12 (.refl _) (EvP.loc 1) (EvP.loc 4) fun cc a3 m3 hcc h03 h13 => ?_) rfl
  refine Evs.nil ⟨lt1k, ?_⟩
  -- the orders
  have hne : 0 < new.length := by omega
  refine Ex.cons (Ex1.assignSwapE (ns := ["drawn_on", "orders"]) (Ev.tuple (Evs.cons (Ev.callH [] [(p, potL cs a3 m3)] (.refl _) W.drawn (EvP.three (EvP.loc 2) (EvP.loc 4) (EvP.loc 5)) (fun f s => (ol ▸ s (rows := old) (w := w) (by omega) (by omega) ow).le (by decide)) (fun t μ1' hp => ?_) nostar3) rfl)) (by rfl) (by rfl))
  obtain ⟨x, dx, r, rfl, rfl⟩ := hp
  refine Evs.cons (EvP.ev (EvP.callH W.upd (EvP.three (EvP.loc 2) (EvP.loc 3) (EvP.loc 6)) (fun f s => s (cr := cr) (cc := cc) ow nw (by omega) (by omega) hne) nostar3) ?_) rfl
  refine Evs.nil ⟨lt1k, [.adr x, .lst ((updOrders old new cr cc).map eo)], _, rfl, .cons (Tgt.bind (i := 8) (kd := .local) rfl (.inl rfl)) (.cons (Tgt.bind (i := 7) (kd := .local) rfl (.inl rfl)) .nil), rfl, ?_⟩
  have P1 := upd_is (cr := cr) (cc := cc) ow nw (ol.trans nl.symm) hne (Int.natCast_nonneg cr) (by omega) (Int.natCast_nonneg cc) (by omega)
  have P2 := upd_run (cr := cr) (cc := cc) (a := 0) (b := 0) (n := 0) ow nw (ol.trans nl.symm) hne
  have P3 := fun a b => upd_unlike (cr := cr) (cc := cc) ow nw (ol.trans nl.symm) hne a b
  have P5 := upd_wr (cr := cr) (cc := cc) ow nw (ol.trans nl.symm) hne
  rw [nl] at P1 P5
  rw [Nat.zero_add] at P2
  have osl : (updOrders old new cr cc).length < 1000000 := by have := upd_len (cr := cr) (cc := cc) ow nw (ol.trans nl.symm) hne; omega
  generalize updOrders old new cr cc = os at P1 P2 P3 P5 osl
  -- moved
  refine Ex.cons (Ex1.assign (i := 10) (EvP.ev (EvP.callB B.sum .builtin (EvP.one (EvP.filterComp (cl := []) (CompRun.filter (.cursor 0 0) (as := os) (g := fun o => T.int (manyOf o)) (q := isMove) (tg := fun i ρ => ρ.set 1 (some (eo (os.getD i (.cursor 0 0)))))
    (CompOK.of (by kernel_rfl) rfl (by kernel_rfl) (by kernel_rfl) (by kernel_rfl)) osl (IterOK.listM (EvP.loc 8))
    (fun Ca i hi => by
      show TgtL C 7 _ _ (fun P h v => Rep P v ((os.map eo).getD i .none)) _
      rw [getD_mapD (.cursor 0 0) hi]
      exact TgtL.name (i := 1) rfl)
    (fun Ca i hi => by
      rw [← word_move]
      exact EvB.cmp (EvP.sub (EvP.loc 1) .int (word_sub _)) (EvP.tuple (EvP.two .str .str) lt1k) (op_inT (ys := ["insert", "delete"])) rfl)
    (fun Ca i hi hq => EvP.sub (EvP.loc 1) .int (many_sub hq)) (by intro _; rfl)))) sumC rfl (by decide) nostar1) ?_) rfl (.inl rfl) (by rfl))
  show Ex C 7 _ _ [some (.adr l), some (.adr p), some (es old), some (es new), some (.int w), some (.int h), some (.tup [.int cr, .int cc]), some (.adr x), some (.lst (os.map eo)), none, some (.int (movedO os)), none, none, none, none] (scrM c x dx r w ⟨old, 0, 0, 0⟩ ++ [(p, potL cs a3 m3)]) _
  -- carried out
  refine Ex.cons (Ex1.loop (fun i ρ μ => ∃ r s y, ρ = [some (.adr l), some (.adr p), some (es old), some (es new), some (.int w), some (.int h), some (.tup [.int cr, .int cc]), some (.adr x), some (.lst (os.map eo)), y, some (.int (movedO os)), none, none, none, none] ∧ μ = scrM c x dx r w s ++ [(p, potL cs a3 m3)] ∧ Wd w s.rows ∧ s.rows.length = h ∧ runO w s (os.drop i) = ⟨new, cr, cc, wrO os⟩)
    (IterOK.listM (as := os) (g := eo) (EvP.loc 8)) (fun i hi => TgtH.name (i := 9) (kd := .local) rfl (.inl rfl)) ⟨r, _, _, rfl, rfl, ow, ol, P2⟩ ?_ ?_ (by intro _; rfl))
  · rintro i ρ' μ' hi ⟨r, s, y, rfl, rfl, sw, sl, hr⟩
    rw [drop_at hi, runO_cons] at hr
    have io := P1 _ (List.getElem_mem hi)
    show Ex C 7 _ _ [some (.adr l), some (.adr p), some (es old), some (es new), some (.int w), some (.int h), some (.tup [.int cr, .int cc]), some (.adr x), some (.lst (os.map eo)), some ((os.map eo).getD i .none), some (.int (movedO os)), none, none, none, none] _ _
    rw [getD_map hi]
    generalize os[i] = o at hr io
    refine Ex.cons (Ex1.ite (EvB.not (EvB.valCall (EvP.callH W.iso (EvP.three (EvP.loc 9) (EvP.loc 4) (EvP.loc 5)) (fun f s => (s (w := w) (h := h) (by omega) (by omega) io).le (by decide)) nostar3))) (fun q => nomatch q) fun _ => Ex.nil ?_)
    have ok := io.ok
    rw [← sl] at ok
    obtain ⟨sw', sl'⟩ := apply_inv sw rfl ok
    refine Ex.cons (Ex1.expr (Ev.methH (scrM c x dx r w s) [(p, potL cs a3 m3)] (.refl _) W.X W.carry (EvP.loc 7) ⟨.head _, .tail _ (.head _)⟩ rfl (EvP.one (EvP.loc 9)) (fun f m => (m (by omega) sw (by omega) ok).le (by decide)) (fun t μ1' hp => ⟨hp.1, ?_⟩) nostar1))
    obtain ⟨_, r', rfl⟩ := hp
    exact Ex.nil ⟨r', _, _, rfl, rfl, sw', by omega, hr⟩
  rintro ρ' μ' ⟨r, s, y, rfl, rfl, sw, sl, hr⟩
  rw [List.drop_length] at hr
  have hs : s = ⟨new, cr, cc, wrO os⟩ := hr
  subst hs
  clear sw sl hr
  -- what is told
  refine Ex.freezeScr [(p, potL cs a3 m3)] (.refl _) ?_
  have I : InstM ((x, .raw (instObj c dx)) :: (dx, .flds (scrF w (es new) ⟨new, cr, cc, wrO os⟩)) :: [(p, potL cs a3 m3)]) x c dx (scrF w (es new) ⟨new, cr, cc, wrO os⟩) := ⟨.head _, .tail _ (.head _)⟩
  refine Ex.cons (Ex1.iteE (EvBE.bool (AllBE.or_cons (EvBE.cmp (Ev.methH [(x, .raw (instObj c dx)), (dx, .flds (scrF w (es new) ⟨new, cr, cc, wrO os⟩))] [(p, potL cs a3 m3)] (.refl _) W.X W.told (EvP.loc 7) I rfl .nil (fun f m => (m (s := ⟨new, cr, cc, wrO os⟩) nw (by omega) (by show new.length < 999; omega)).le (by decide)) (fun t μ1' hp => ?_) (fun _ q => nomatch q)) rfl))))
  obtain ⟨rfl, rfl⟩ := hp
  refine EvP.ev (tupsE (cl := []) B.toBt (by omega) (CompRun.map [] (as := new) (tg := fun i ρ => ρ.set 1 (some (er (new.getD i []))))
    (CompOK.of (by kernel_rfl) rfl (by kernel_rfl) (by kernel_rfl) (by kernel_rfl)) (by omega) (IterOK.listM (EvP.loc 3))
    (fun Ca i hi => by
      show TgtL C 7 _ _ (fun P h v => Rep P v ((new.map er).getD i .none)) _
      rw [getD_mapD [] hi]
      exact TgtL.name (i := 1) rfl)
    (fun Ca i hi => EvP.callB B.tuple .type (EvP.one (EvP.loc 1)) (tuple_list .frozen (by rw [List.length_map]; have := rowAt_w (j := i) nw hi; unfold rowAt at this; omega)) rfl (by decide) nostar1) (by intro _; rfl))) ⟨false, not_same (scr_tok new), fun q => (nomatch q), fun _ => ?_⟩
  refine AllBE.or_cons (EvB.be (EvB.cmp (EvP.attr W.X (by decide) (EvP.loc 7) I rfl) (EvP.loc 6) (not_same (curs_ok cr cc)) rfl) ⟨fun q => (nomatch q), fun _ => AllBE.or_nil ⟨fun q => (nomatch q), fun _ => Ex.nil ?_⟩⟩)
  -- has_clear
  refine Ex.cons (Ex1.assign (i := 11) (EvP.ev (EvP.cmp (c := (os.map wordO).any (· == "clear")) .str (EvP.mapComp (cl := []) (CompRun.map (.cursor 0 0) (as := os) (g := fun o => T.str (wordO o)) (tg := fun i ρ => ρ.set 1 (some (eo (os.getD i (.cursor 0 0)))))
    (CompOK.of (by kernel_rfl) rfl (by kernel_rfl) (by kernel_rfl) (by kernel_rfl)) osl (IterOK.listM (EvP.loc 8))
    (fun Ca i hi => by
      show TgtL C 7 _ _ (fun P h v => Rep P v ((os.map eo).getD i .none)) _
      rw [getD_mapD (.cursor 0 0) hi]
      exact TgtL.name (i := 1) rfl)
    (fun Ca i hi => EvP.sub (EvP.loc 1) .int (word_sub _)) (by intro _; rfl))) (by
      have := op_inL (C := C) (k := 7) (μ := (x, .raw (instObj c dx)) :: (dx, .flds (scrF w (es new) ⟨new, cr, cc, wrO os⟩)) :: [(p, potL cs a3 m3)]) (x := "clear") (ys := os.map wordO)
      rwa [List.map_map] at this) rfl) ?_) rfl (.inl rfl) (by rfl))
  refine Ex.cons (Ex1.ite (c := (movedO os == 0) && ((!(os.map wordO).any (· == "clear")) && (decide ((wrO os : Int) < unlikeS old new) && true))) (EvB.bool (AllB.and_cons (EvB.cmp (EvP.loc 10) .int op_eqI rfl) fun _ => AllB.and_cons (EvB.not (EvB.valName (EvP.loc 11))) fun _ => AllB.and_cons (EvB.cmp (EvP.attr W.X (by decide) (EvP.loc 7) I rfl) (EvP.callH W.unl (EvP.two (EvP.loc 2) (EvP.loc 3)) (fun f s => (s (w := w) (by omega) (by omega) ow).le (by decide)) nostar2) op_lt rfl) fun _ => AllB.and_nil)) (fun q => ?_) fun _ => Ex.nil ?_)
  · exfalso
    rw [Bool.and_eq_true, Bool.and_eq_true, Bool.and_eq_true] at q
    obtain ⟨q1, q2, q3, _⟩ := q
    have := P3 (eq_of_beq q1) (clear_word os (by simpa using q2))
    have := of_decide_eq_true q3
    omega
  -- like screens
  have eself : T.lst ((updOrders new new (cr : Int) (cc : Int)).map eo) = T.lst [.tup [.str "cursor", .int cr, .int cc]] := by rw [upd_self]; rfl
  refine Ex.cons (Ex1.ite (EvB.cmp (c := false) (EvP.callH W.upd (EvP.three (EvP.loc 3) (EvP.loc 3) (EvP.loc 6)) (fun f s => s (cr := cr) (cc := cc) nw nw (by omega) (by omega) hne) nostar3) (EvP.list (EvP.one (EvP.tuple (EvP.three .str (EvP.sub (EvP.loc 6) .int sub_pair0) (EvP.sub (EvP.loc 6) .int sub_pair1)) lt1k)) lt1k) (by rw [eself]; exact not_same (ords_ok cr cc)) rfl) (fun q => nomatch q) fun _ => Ex.nil ?_)
  refine Ex.cons (Ex1.ite (EvB.cmp (EvP.attr W.X (by decide) (EvP.loc 7) I rfl) (EvP.bin (EvP.loc 4) (EvP.loc 5) (op_mul (IntMulOk.of_right (bits5 h (by omega))))) op_gt rfl) (fun q => ?_) fun _ => Ex.nil ?_)
  · exfalso
    have q : (w : Int) * (h : Int) < (wrO os : Int) := of_decide_eq_true q
    have : ((w : Int) * (h : Int)) = ((w * h : Nat) : Int) := (Int.natCast_mul w h).symm
    rw [this] at q
    omega
  clear P1 P2 P3 P5 eself
  -- rows that were only moved
  refine Ex.perm (List.perm_append_comm (l₁ := [(x, MObj.raw (instObj c dx)), (dx, .flds (scrF w (es new) ⟨new, cr, cc, wrO os⟩))]) (l₂ := [(p, potL cs a3 m3)])) ?_
  refine Ex.part [(p, potL cs a3 m3)] _ (.refl _) ?_
  refine Ex.cons (Ex1.assign (i := 12) (Ev.dip (many := h) (μ2 := []) W.dip (by decide) hcs (by omega) h03 h13 (.refl _) (EvP.loc 1) (EvP.loc 5) fun g a4 m4 hg h04 h14 => ?_) rfl (.inl rfl) (by rfl))
  refine Ex.cons (Ex1.assignComp (cl := []) (i := 13) (n := h) (μ1 := []) (μ2 := [(p, potL cs a4 m4)]) (J := fun i ys μi => μi = [] ∧ ys = (shiftedS i).map er) (tg := fun i ρ => ρ.set 1 (some (.int (i : Nat))))
    ⟨CompOK.of (by kernel_rfl) rfl (by kernel_rfl) (by kernel_rfl) (by kernel_rfl), .refl _, by omega,
      IterOK.range (n := (h : Int)) (Tr.bt B.range) rfl (EvP.one (EvP.loc 5)) (Int.natCast_nonneg _) (by omega), fun Ca i hi => TgtL.name (i := 1) rfl, ⟨rfl, rfl⟩,
      fun Ca i ys μi hi hJ => ⟨true, TestsB.nil, fun _ => ?_, fun h => nomatch h⟩, by intro _; rfl⟩ rfl (fun E ys μf hJ => ?_) (by rfl))
  · obtain ⟨rfl, rfl⟩ := hJ
    refine EvP.ev (t := er (List.replicate 7 ((65 : Int) + (i : Int), (1 : Int)))) (EvP.bin (EvP.list (EvP.one (EvP.tuple (EvP.two (EvP.bin .int (EvP.loc 1) op_add) .int) lt1k)) lt1k) .int (op_mulL (by decide) (by decide))) ⟨rfl, ?_⟩
    unfold shiftedS
    rw [List.range_succ, List.map_append, List.map_append]; rfl
  obtain ⟨rfl, rfl⟩ := hJ
  refine Ex.freeze 13 [(p, potL cs a4 m4)] (.refl _) rfl ?_
  have sl : (shiftedS h).length = h := by unfold shiftedS; rw [List.length_map, List.length_range]
  have swd : Wd 7 (shiftedS h) := fun r hr => by
    obtain ⟨n, _, rfl⟩ := List.mem_map.mp hr
    exact List.length_replicate
  have lw : Wd 7 (leftS h g) := (swd.take.append swd.drop).append fun r hr => by rw [List.mem_singleton.mp hr]; exact List.length_replicate
  have ll : (leftS h g).length = h := by unfold leftS; simp [sl]; omega
  have hgr : ¬ h - 2 ≤ g → wrO (updOrders (shiftedS h) (leftS h g) 0 0) = 0 := fun q => ground h (by omega) g (by omega) (by omega)
  refine Ex.cons (Ex1.assign (i := 14) (EvP.ev (t := es (leftS h g)) (EvP.bin (EvP.bin (sliceTo (b := g) (rows := shiftedS h) (EvP.loc 13) .frozen (EvP.loc 12) (by omega) (by omega)) (sliceFrom (a := g + 1) (rows := shiftedS h) (EvP.loc 13) .frozen (EvP.bin (EvP.loc 12) .int op_add) (by omega) (by omega)) (add_scr (by simp; omega)))
    (EvP.list (EvP.one (EvP.bin (EvP.list (EvP.one (EvP.empty B)) lt1k) .int (op_mulL (by decide) (by decide)))) lt1k) (add_scr (b := [List.replicate 7 Ecell]) (by simp; omega))) ?_) rfl (.inl rfl) (by rfl))
  have P1 := upd_is (cr := 0) (cc := 0) swd lw (sl.trans ll.symm) (by omega) (by decide) (by omega) (by decide) (by decide)
  have P2 := upd_run (cr := 0) (cc := 0) (a := 0) (b := 0) (n := 0) swd lw (sl.trans ll.symm) (by omega)
  have osl : (updOrders (shiftedS h) (leftS h g) 0 0).length < 1000000 := by have := upd_len (cr := 0) (cc := 0) swd lw (sl.trans ll.symm) (by omega); omega
  have hup : ∀ f, (∀ {old new : Scr} {w : Nat} {cr cc : Int}, Wd w old → Wd w new → w < 999 → old.length + new.length < 999 → 0 < new.length → CallM C 7 [] f [es old, es new, .tup [.int cr, .int cc]] fun t _ => t = .lst ((updOrders old new cr cc).map eo)) → CallM C 7 [] f [es (shiftedS h), es (leftS h g), .tup [.int 0, .int 0]] fun t _ => t = .lst ((updOrders (shiftedS h) (leftS h g) 0 0).map eo) := fun f s => s (cr := 0) (cc := 0) swd lw (by decide) (by omega) (by omega)
  rw [ll] at P1
  rw [Nat.zero_add] at P2
  refine Ex.cons (Ex1.assign (i := 7) (Ev.callH [] [(p, potL cs a4 m4)] (.refl _) W.drawn (EvP.three (EvP.loc 13) .int (EvP.loc 5)) (fun f s => (sl ▸ s (rows := shiftedS h) (w := 7) (by decide) (by omega) swd).le (by decide)) (fun t μ1' hp => ?_) nostar3) rfl (.inl rfl) (by rfl))
  obtain ⟨x2, dx2, r2, rfl, rfl⟩ := hp
  generalize updOrders (shiftedS h) (leftS h g) 0 0 = os2 at P1 P2 osl hgr hup
  generalize (os.map wordO).any (· == "clear") = hasC
  refine Ex.cons (Ex1.loop (fun i ρ μ => ∃ r s y, ρ = [some (.adr l), some (.adr p), some (es old), some (es new), some (.int w), some (.int h), some (.tup [.int cr, .int cc]), some (.adr x2), some (.lst (os.map eo)), y, some (.int (movedO os)), some (.bool hasC), some (.int g), some (es (shiftedS h)), some (es (leftS h g))] ∧ μ = scrM c x2 dx2 r 7 s ++ [(p, potL cs a4 m4)] ∧ Wd 7 s.rows ∧ s.rows.length = h ∧ runO 7 s (os2.drop i) = ⟨leftS h g, 0, 0, wrO os2⟩)
    (IterOK.listM (as := os2) (g := eo) (EvP.callH W.upd (EvP.three (EvP.loc 13) (EvP.loc 14) (EvP.tuple (EvP.two .int .int) lt1k)) hup nostar3)) (fun i hi => TgtH.name (i := 9) (kd := .local) rfl (.inl rfl)) ⟨r2, _, _, rfl, rfl, swd, sl, P2⟩ ?_ ?_ (by intro _; rfl))
  · rintro i ρ' μ' hi ⟨r, s, y, rfl, rfl, sw, sl, hr⟩
    rw [drop_at hi, runO_cons] at hr
    have ok := (P1 _ (List.getElem_mem hi)).ok
    show Ex C 7 _ _ [some (.adr l), some (.adr p), some (es old), some (es new), some (.int w), some (.int h), some (.tup [.int cr, .int cc]), some (.adr x2), some (.lst (os.map eo)), some ((os2.map eo).getD i .none), some (.int (movedO os)), some (.bool hasC), some (.int g), some (es (shiftedS h)), some (es (leftS h g))] _ _
    rw [getD_map hi]
    generalize os2[i] = o at hr ok
    rw [← sl] at ok
    obtain ⟨sw', sl'⟩ := apply_inv sw rfl ok
    refine Ex.cons (Ex1.expr (Ev.methH (scrM c x2 dx2 r 7 s) [(p, potL cs a4 m4)] (.refl _) W.X W.carry (EvP.loc 7) ⟨.head _, .tail _ (.head _)⟩ rfl (EvP.one (EvP.loc 9)) (fun f m => (m (by decide) sw (by omega) ok).le (by decide)) (fun t μ1' hp => ⟨hp.1, ?_⟩) nostar1))
    obtain ⟨_, r', rfl⟩ := hp
    exact Ex.nil ⟨r', _, _, rfl, rfl, sw', by omega, hr⟩
  rintro ρ' μ' ⟨r, s, y, rfl, rfl, sw, sl', hr⟩
  rw [List.drop_length] at hr
  have hs : s = ⟨leftS h g, 0, 0, wrO os2⟩ := hr
  subst hs
  clear sw sl' hr
  refine Ex.freezeScr [(p, potL cs a4 m4)] (.refl _) ?_
  have I2 : InstM ((x2, .raw (instObj c dx2)) :: (dx2, .flds (scrF 7 (es (leftS h g)) ⟨leftS h g, 0, 0, wrO os2⟩)) :: [(p, potL cs a4 m4)]) x2 c dx2 (scrF 7 (es (leftS h g)) ⟨leftS h g, 0, 0, wrO os2⟩) := ⟨.head _, .tail _ (.head _)⟩
  refine Ex.cons (Ex1.ret (Ev.and_more (Ev.cmp (Ev.methH [(x2, .raw (instObj c dx2)), (dx2, .flds (scrF 7 (es (leftS h g)) ⟨leftS h g, 0, 0, wrO os2⟩))] [(p, potL cs a4 m4)] (.refl _) W.X W.told (EvP.loc 7) I2 rfl .nil (fun f m => (m (s := ⟨leftS h g, 0, 0, wrO os2⟩) lw (by decide) (by show (leftS h g).length < 999; omega)).le (by decide)) (fun t μ1' hp => ?_) (fun _ q => nomatch q)) rfl)))
  obtain ⟨rfl, rfl⟩ := hp
  refine EvP.ev (tupsE (cl := []) B.toBt (by omega) (CompRun.map [] (as := leftS h g) (tg := fun i ρ => ρ.set 1 (some (er ((leftS h g).getD i []))))
    (CompOK.of (by kernel_rfl) rfl (by kernel_rfl) (by kernel_rfl) (by kernel_rfl)) (by omega) (IterOK.listM (EvP.loc 14))
    (fun Ca i hi => by
      show TgtL C 7 _ _ (fun P h' v => Rep P v (((leftS h g).map er).getD i .none)) _
      rw [getD_mapD [] hi]
      exact TgtL.name (i := 1) rfl)
    (fun Ca i hi => EvP.callB B.tuple .type (EvP.one (EvP.loc 1)) (tuple_list .frozen (by rw [List.length_map]; have := rowAt_w (j := i) lw hi; unfold rowAt at this; omega)) rfl (by decide) nostar1) (by intro _; rfl)))
    ⟨true, op_eq (scr_tok _) (scr_tok _) ⟨fun _ => rfl, fun _ => rfl⟩, true, rfl, fun q => (nomatch q), fun _ => ?_⟩
  refine EvP.ev (t := .bool (((wrO os2 : Int) == 0) || decide ((h : Int) - 2 ≤ (g : Int)))) (EvP.and_one (EvP.or_more (EvP.cmp (EvP.attr W.X (by decide) (EvP.loc 7) I2 rfl) .int op_eqI rfl) fun _ => EvP.or_one (EvP.cmp (EvP.loc 12) (EvP.bin (EvP.loc 5) .int op_sub) op_ge rfl))) ?_
  show T.bool _ = T.bool true
  congr 1
  by_cases q : h - 2 ≤ g
  · rw [show decide ((h : Int) - 2 ≤ (g : Int)) = true from decide_eq_true (by omega), Bool.or_true]
  · rw [hgr q]; rfl
end
end Mine

namespace Mine
noncomputable def d3 (P : Params) : Obj := ⟨.type "dict", none, Data.dict   #[{ hash := PyData.keyHash P (Str.ofString "__name__"), key := Value.str (Str.ofString "__name__") 165,       val := Value.str (Str.ofString "law_np0032_01") 419 },     { hash := PyData.keyHash P (Str.ofString "__doc__"), key := Value.str (Str.ofString "__doc__") 166,       val := Value.none },     { hash := PyData.keyHash P (Str.ofString "__package__"), key := Value.str (Str.ofString "__package__") 167,       val := Value.none },     { hash := PyData.keyHash P (Str.ofString "__loader__"), key := Value.str (Str.ofString "__loader__") 168,       val := Value.builtin "__main__.__loader__#opaque" },     { hash := PyData.keyHash P (Str.ofString "__spec__"), key := Value.str (Str.ofString "__spec__") 169,       val := Value.none },     { hash := PyData.keyHash P (Str.ofString "__annotations__"), key := Value.str (Str.ofString "__annotations__") 170,       val := Value.ref 6 },     { hash := PyData.keyHash P (Str.ofString "__builtins__"), key := Value.str (Str.ofString "__builtins__") 171,       val := Value.ref 4 },     { hash := PyData.keyHash P (Str.ofString "__file__"), key := Value.str (Str.ofString "__file__") 173,       val := Value.str (Str.ofString "/claim/cut.py") 172 },     { hash := PyData.keyHash P (Str.ofString "__cached__"), key := Value.str (Str.ofString "__cached__") 174,       val := Value.none },     { hash := PyData.keyHash P (Str.ofString "BLANK"), key := Value.str (Str.ofString "BLANK") 188,       val := Value.int 32 187 },     { hash := PyData.keyHash P (Str.ofString "EMPTY_CELL"), key := Value.str (Str.ofString "EMPTY_CELL") 190,       val := Value.ref 15 },     { hash := PyData.keyHash P (Str.ofString "MOVE_COST"), key := Value.str (Str.ofString "MOVE_COST") 194,       val := Value.int 4 193 },     { hash := PyData.keyHash P (Str.ofString "CLEAR_COST"), key := Value.str (Str.ofString "CLEAR_COST") 196,       val := Value.int 2 195 },     { hash := PyData.keyHash P (Str.ofString "last_unlike"), key := Value.str (Str.ofString "last_unlike") 205,       val := Value.ref 22 },     { hash := PyData.keyHash P (Str.ofString "first_unlike"), key := Value.str (Str.ofString "first_unlike") 214,       val := Value.ref 29 },     { hash := PyData.keyHash P (Str.ofString "text_end"), key := Value.str (Str.ofString "text_end") 222,       val := Value.ref 36 },     { hash := PyData.keyHash P (Str.ofString "row_orders"), key := Value.str (Str.ofString "row_orders") 235,       val := Value.ref 43 },     { hash := PyData.keyHash P (Str.ofString "row_cost"), key := Value.str (Str.ofString "row_cost") 245,       val := Value.ref 50 },     { hash := PyData.keyHash P (Str.ofString "cost_table"), key := Value.str (Str.ofString "cost_table") 257,       val := Value.ref 57 },     { hash := PyData.keyHash P (Str.ofString "best_step"), key := Value.str (Str.ofString "best_step") 272,       val := Value.ref 64 },     { hash := PyData.keyHash P (Str.ofString "steps_of"), key := Value.str (Str.ofString "steps_of") 285,       val := Value.ref 71 },     { hash := PyData.keyHash P (Str.ofString "dropped_runs"), key := Value.str (Str.ofString "dropped_runs") 295,       val := Value.ref 78 },     { hash := PyData.keyHash P (Str.ofString "added_runs"), key := Value.str (Str.ofString "added_runs") 305,       val := Value.ref 85 },     { hash := PyData.keyHash P (Str.ofString "rows_then"), key := Value.str (Str.ofString "rows_then") 317,       val := Value.ref 92 },     { hash := PyData.keyHash P (Str.ofString "update_orders"), key := Value.str (Str.ofString "update_orders") 323,       val := Value.ref 97 },     { hash := PyData.keyHash P (Str.ofString "Screen"), key := Value.str (Str.ofString "Screen") 418,       val := Value.ref 157 },     { hash := PyData.keyHash P (Str.ofString "_law_pot"), key := Value.str (Str.ofString "_law_pot") 426,       val := Value.ref 166 },     { hash := PyData.keyHash P (Str.ofString "_law_dip"), key := Value.str (Str.ofString "_law_dip") 435,       val := Value.ref 173 },     { hash := PyData.keyHash P (Str.ofString "_law_row"), key := Value.str (Str.ofString "_law_row") 441,       val := Value.ref 178 },     { hash := PyData.keyHash P (Str.ofString "_law_screens"), key := Value.str (Str.ofString "_law_screens") 447,       val := Value.ref 183 },     { hash := PyData.keyHash P (Str.ofString "_law_is_order"), key := Value.str (Str.ofString "_law_is_order") 456,       val := Value.ref 190 },     { hash := PyData.keyHash P (Str.ofString "_law_unlike"), key := Value.str (Str.ofString "_law_unlike") 462,       val := Value.ref 195 },     { hash := PyData.keyHash P (Str.ofString "_law_drawn"), key := Value.str (Str.ofString "_law_drawn") 474,       val := Value.ref 202 },     { hash := PyData.keyHash P (Str.ofString "law"), key := Value.str (Str.ofString "law") 480, val := Value.ref 207 }]   34, #[]⟩
noncomputable def c21 : Obj := ⟨.type "code", none, Data.fields   #[Value.str (Str.ofString "last_unlike") 197, Value.str (Str.ofString "last_unlike") 198,     Value.str (Str.ofString "/claim/cut.py") 199, Value.int 6 0, Value.int 2 0, Value.int 0 0, Value.int 0 0,     Value.int 3 0, Value.ref 16, Value.bool true, Value.int 181 0, Value.ref 17, Value.none, Value.ref 18, Value.ref 19,     Value.ref 20, Value.int 203 0, Value.int 6 0, Value.str (Str.ofString "/claim/cut.py") 204], #[]⟩
noncomputable def x22 : FX := ⟨"last_unlike", "last_unlike", .none, Value.str (Str.ofString "emacs.update") 191, none, Value.ref 21, Value.none⟩
noncomputable def c28 : Obj := ⟨.type "code", none, Data.fields   #[Value.str (Str.ofString "first_unlike") 206, Value.str (Str.ofString "first_unlike") 207,     Value.str (Str.ofString "/claim/cut.py") 208, Value.int 11 0, Value.int 2 0, Value.int 0 0, Value.int 0 0,     Value.int 3 0, Value.ref 23, Value.bool true, Value.int 181 0, Value.ref 24, Value.none, Value.ref 25, Value.ref 26,     Value.ref 27, Value.int 212 0, Value.int 11 0, Value.str (Str.ofString "/claim/cut.py") 213], #[]⟩
noncomputable def x29 : FX := ⟨"first_unlike", "first_unlike", .none, Value.str (Str.ofString "emacs.update") 191, none, Value.ref 28, Value.none⟩
noncomputable def c35 : Obj := ⟨.type "code", none, Data.fields   #[Value.str (Str.ofString "text_end") 215, Value.str (Str.ofString "text_end") 216,     Value.str (Str.ofString "/claim/cut.py") 217, Value.int 16 0, Value.int 1 0, Value.int 0 0, Value.int 0 0,     Value.int 3 0, Value.ref 30, Value.bool true, Value.int 181 0, Value.ref 31, Value.none, Value.ref 32, Value.ref 33,     Value.ref 34, Value.int 220 0, Value.int 16 0, Value.str (Str.ofString "/claim/cut.py") 221], #[]⟩
noncomputable def x36 : FX := ⟨"text_end", "text_end", .none, Value.str (Str.ofString "emacs.update") 191, none, Value.ref 35, Value.none⟩
noncomputable def c42 : Obj := ⟨.type "code", none, Data.fields   #[Value.str (Str.ofString "row_orders") 223, Value.str (Str.ofString "row_orders") 224,     Value.str (Str.ofString "/claim/cut.py") 225, Value.int 21 0, Value.int 3 0, Value.int 0 0, Value.int 0 0,     Value.int 3 0, Value.ref 37, Value.bool true, Value.int 181 0, Value.ref 38, Value.none, Value.ref 39, Value.ref 40,     Value.ref 41, Value.int 233 0, Value.int 21 0, Value.str (Str.ofString "/claim/cut.py") 234], #[]⟩
noncomputable def x43 : FX := ⟨"row_orders", "row_orders", .none, Value.str (Str.ofString "emacs.update") 191, none, Value.ref 42, Value.none⟩
noncomputable def c49 : Obj := ⟨.type "code", none, Data.fields   #[Value.str (Str.ofString "row_cost") 236, Value.str (Str.ofString "row_cost") 237,     Value.str (Str.ofString "/claim/cut.py") 238, Value.int 30 0, Value.int 2 0, Value.int 0 0, Value.int 0 0,     Value.int 3 0, Value.ref 44, Value.bool true, Value.int 181 0, Value.ref 45, Value.none, Value.ref 46, Value.ref 47,     Value.ref 48, Value.int 243 0, Value.int 30 0, Value.str (Str.ofString "/claim/cut.py") 244], #[]⟩
noncomputable def x50 : FX := ⟨"row_cost", "row_cost", .none, Value.str (Str.ofString "emacs.update") 191, none, Value.ref 49, Value.none⟩
noncomputable def c56 : Obj := ⟨.type "code", none, Data.fields   #[Value.str (Str.ofString "cost_table") 246, Value.str (Str.ofString "cost_table") 247,     Value.str (Str.ofString "/claim/cut.py") 248, Value.int 35 0, Value.int 2 0, Value.int 0 0, Value.int 0 0,     Value.int 3 0, Value.ref 51, Value.bool true, Value.int 181 0, Value.ref 52, Value.none, Value.ref 53, Value.ref 54,     Value.ref 55, Value.int 255 0, Value.int 35 0, Value.str (Str.ofString "/claim/cut.py") 256], #[]⟩
noncomputable def x57 : FX := ⟨"cost_table", "cost_table", .none, Value.str (Str.ofString "emacs.update") 191, none, Value.ref 56, Value.none⟩
noncomputable def c63 : Obj := ⟨.type "code", none, Data.fields   #[Value.str (Str.ofString "best_step") 258, Value.str (Str.ofString "best_step") 259,     Value.str (Str.ofString "/claim/cut.py") 260, Value.int 43 0, Value.int 6 0, Value.int 0 0, Value.int 0 0,     Value.int 3 0, Value.ref 58, Value.bool true, Value.int 181 0, Value.ref 59, Value.none, Value.ref 60, Value.ref 61,     Value.ref 62, Value.int 270 0, Value.int 43 0, Value.str (Str.ofString "/claim/cut.py") 271], #[]⟩
noncomputable def x64 : FX := ⟨"best_step", "best_step", .none, Value.str (Str.ofString "emacs.update") 191, none, Value.ref 63, Value.none⟩
noncomputable def c70 : Obj := ⟨.type "code", none, Data.fields   #[Value.str (Str.ofString "steps_of") 273, Value.str (Str.ofString "steps_of") 274,     Value.str (Str.ofString "/claim/cut.py") 275, Value.int 56 0, Value.int 2 0, Value.int 0 0, Value.int 0 0,     Value.int 3 0, Value.ref 65, Value.bool true, Value.int 181 0, Value.ref 66, Value.none, Value.ref 67, Value.ref 68,     Value.ref 69, Value.int 283 0, Value.int 56 0, Value.str (Str.ofString "/claim/cut.py") 284], #[]⟩
noncomputable def x71 : FX := ⟨"steps_of", "steps_of", .none, Value.str (Str.ofString "emacs.update") 191, none, Value.ref 70, Value.none⟩
noncomputable def c77 : Obj := ⟨.type "code", none, Data.fields   #[Value.str (Str.ofString "dropped_runs") 286, Value.str (Str.ofString "dropped_runs") 287,     Value.str (Str.ofString "/claim/cut.py") 288, Value.int 64 0, Value.int 1 0, Value.int 0 0, Value.int 0 0,     Value.int 3 0, Value.ref 72, Value.bool true, Value.int 181 0, Value.ref 73, Value.none, Value.ref 74, Value.ref 75,     Value.ref 76, Value.int 293 0, Value.int 64 0, Value.str (Str.ofString "/claim/cut.py") 294], #[]⟩
noncomputable def x78 : FX := ⟨"dropped_runs", "dropped_runs", .none, Value.str (Str.ofString "emacs.update") 191, none, Value.ref 77, Value.none⟩
noncomputable def c84 : Obj := ⟨.type "code", none, Data.fields   #[Value.str (Str.ofString "added_runs") 296, Value.str (Str.ofString "added_runs") 297,     Value.str (Str.ofString "/claim/cut.py") 298, Value.int 74 0, Value.int 1 0, Value.int 0 0, Value.int 0 0,     Value.int 3 0, Value.ref 79, Value.bool true, Value.int 181 0, Value.ref 80, Value.none, Value.ref 81, Value.ref 82,     Value.ref 83, Value.int 303 0, Value.int 74 0, Value.str (Str.ofString "/claim/cut.py") 304], #[]⟩
noncomputable def x85 : FX := ⟨"added_runs", "added_runs", .none, Value.str (Str.ofString "emacs.update") 191, none, Value.ref 84, Value.none⟩
noncomputable def c91 : Obj := ⟨.type "code", none, Data.fields   #[Value.str (Str.ofString "rows_then") 306, Value.str (Str.ofString "rows_then") 307,     Value.str (Str.ofString "/claim/cut.py") 308, Value.int 84 0, Value.int 3 0, Value.int 0 0, Value.int 0 0,     Value.int 3 0, Value.ref 86, Value.bool true, Value.int 181 0, Value.ref 87, Value.none, Value.ref 88, Value.ref 89,     Value.ref 90, Value.int 315 0, Value.int 84 0, Value.str (Str.ofString "/claim/cut.py") 316], #[]⟩
noncomputable def x92 : FX := ⟨"rows_then", "rows_then", .none, Value.str (Str.ofString "emacs.update") 191, none, Value.ref 91, Value.none⟩
noncomputable def c96 : Obj := ⟨.type "code", none, Data.fields   #[Value.str (Str.ofString "update_orders") 318, Value.str (Str.ofString "update_orders") 319,     Value.str (Str.ofString "/claim/cut.py") 320, Value.int 93 0, Value.int 3 0, Value.int 0 0, Value.int 0 0,     Value.int 3 0, Value.ref 93, Value.bool true, Value.int 181 0, Value.ref 94, Value.none, Value.none, Value.none,     Value.ref 95, Value.int 321 0, Value.int 93 0, Value.str (Str.ofString "/claim/cut.py") 322], #[]⟩
noncomputable def x97 : FX := ⟨"update_orders", "update_orders", .none, Value.str (Str.ofString "emacs.update") 191, none, Value.ref 96, Value.none⟩
noncomputable def c108 : Obj := ⟨.type "code", none, Data.fields   #[Value.str (Str.ofString "__init__") 338, Value.str (Str.ofString "Screen.__init__") 339,     Value.str (Str.ofString "/claim/cut.py") 340, Value.int 104 0, Value.int 3 0, Value.int 0 0, Value.int 0 0,     Value.int 3 0, Value.ref 105, Value.bool true, Value.int 181 0, Value.ref 106, Value.none, Value.none, Value.none,     Value.ref 107, Value.int 341 0, Value.int 104 0, Value.str (Str.ofString "/claim/cut.py") 342], #[]⟩
noncomputable def x109 : FX := ⟨"__init__", "Screen.__init__", .none, Value.str (Str.ofString "emacs.terminal") 324, none, Value.ref 108, Value.none⟩
noncomputable def c113 : Obj := ⟨.type "code", none, Data.fields   #[Value.str (Str.ofString "told") 344, Value.str (Str.ofString "Screen.told") 345,     Value.str (Str.ofString "/claim/cut.py") 346, Value.int 110 0, Value.int 1 0, Value.int 0 0, Value.int 0 0,     Value.int 3 0, Value.ref 110, Value.bool true, Value.int 181 0, Value.ref 111, Value.none, Value.none, Value.none,     Value.ref 112, Value.int 347 0, Value.int 110 0, Value.str (Str.ofString "/claim/cut.py") 348], #[]⟩
noncomputable def x114 : FX := ⟨"told", "Screen.told", .none, Value.str (Str.ofString "emacs.terminal") 324, none, Value.ref 113, Value.none⟩
noncomputable def c118 : Obj := ⟨.type "code", none, Data.fields   #[Value.str (Str.ofString "blank_rows") 350, Value.str (Str.ofString "Screen.blank_rows") 351,     Value.str (Str.ofString "/claim/cut.py") 352, Value.int 113 0, Value.int 2 0, Value.int 0 0, Value.int 0 0,     Value.int 3 0, Value.ref 115, Value.bool true, Value.int 181 0, Value.ref 116, Value.none, Value.none, Value.none,     Value.ref 117, Value.int 353 0, Value.int 113 0, Value.str (Str.ofString "/claim/cut.py") 354], #[]⟩
noncomputable def x119 : FX := ⟨"blank_rows", "Screen.blank_rows", .none, Value.str (Str.ofString "emacs.terminal") 324, none, Value.ref 118, Value.none⟩
noncomputable def c125 : Obj := ⟨.type "code", none, Data.fields   #[Value.str (Str.ofString "write") 356, Value.str (Str.ofString "Screen.write") 357,     Value.str (Str.ofString "/claim/cut.py") 358, Value.int 116 0, Value.int 4 0, Value.int 0 0, Value.int 0 0,     Value.int 3 0, Value.ref 120, Value.bool true, Value.int 181 0, Value.ref 121, Value.none, Value.ref 122,     Value.ref 123, Value.ref 124, Value.int 364 0, Value.int 116 0, Value.str (Str.ofString "/claim/cut.py") 365], #[]⟩
noncomputable def x126 : FX := ⟨"write", "Screen.write", .none, Value.str (Str.ofString "emacs.terminal") 324, none, Value.ref 125, Value.none⟩
noncomputable def c132 : Obj := ⟨.type "code", none, Data.fields   #[Value.str (Str.ofString "clear") 367, Value.str (Str.ofString "Screen.clear") 368,     Value.str (Str.ofString "/claim/cut.py") 369, Value.int 121 0, Value.int 3 0, Value.int 0 0, Value.int 0 0,     Value.int 3 0, Value.ref 127, Value.bool true, Value.int 181 0, Value.ref 128, Value.none, Value.ref 129,     Value.ref 130, Value.ref 131, Value.int 373 0, Value.int 121 0, Value.str (Str.ofString "/claim/cut.py") 374], #[]⟩
noncomputable def x133 : FX := ⟨"clear", "Screen.clear", .none, Value.str (Str.ofString "emacs.terminal") 324, none, Value.ref 132, Value.none⟩
noncomputable def c139 : Obj := ⟨.type "code", none, Data.fields   #[Value.str (Str.ofString "insert") 376, Value.str (Str.ofString "Screen.insert") 377,     Value.str (Str.ofString "/claim/cut.py") 378, Value.int 124 0, Value.int 4 0, Value.int 0 0, Value.int 0 0,     Value.int 3 0, Value.ref 134, Value.bool true, Value.int 181 0, Value.ref 135, Value.none, Value.ref 136,     Value.ref 137, Value.ref 138, Value.int 384 0, Value.int 124 0, Value.str (Str.ofString "/claim/cut.py") 385], #[]⟩
noncomputable def x140 : FX := ⟨"insert", "Screen.insert", .none, Value.str (Str.ofString "emacs.terminal") 324, none, Value.ref 139, Value.none⟩
noncomputable def c146 : Obj := ⟨.type "code", none, Data.fields   #[Value.str (Str.ofString "delete") 387, Value.str (Str.ofString "Screen.delete") 388,     Value.str (Str.ofString "/claim/cut.py") 389, Value.int 128 0, Value.int 4 0, Value.int 0 0, Value.int 0 0,     Value.int 3 0, Value.ref 141, Value.bool true, Value.int 181 0, Value.ref 142, Value.none, Value.ref 143,     Value.ref 144, Value.ref 145, Value.int 395 0, Value.int 128 0, Value.str (Str.ofString "/claim/cut.py") 396], #[]⟩
noncomputable def x147 : FX := ⟨"delete", "Screen.delete", .none, Value.str (Str.ofString "emacs.terminal") 324, none, Value.ref 146, Value.none⟩
noncomputable def c153 : Obj := ⟨.type "code", none, Data.fields   #[Value.str (Str.ofString "carry_out") 398, Value.str (Str.ofString "Screen.carry_out") 399,     Value.str (Str.ofString "/claim/cut.py") 400, Value.int 132 0, Value.int 2 0, Value.int 0 0, Value.int 0 0,     Value.int 3 0, Value.ref 148, Value.bool true, Value.int 181 0, Value.ref 149, Value.none, Value.ref 150,     Value.ref 151, Value.ref 152, Value.int 404 0, Value.int 132 0, Value.str (Str.ofString "/claim/cut.py") 405], #[]⟩
noncomputable def x154 : FX := ⟨"carry_out", "Screen.carry_out", .none, Value.str (Str.ofString "emacs.terminal") 324, none, Value.ref 153, Value.none⟩
noncomputable def d156 (P : Params) : Obj := ⟨.type "dict", none, Data.dict   #[{ hash := PyData.keyHash P (Str.ofString "__module__"), key := Value.str (Str.ofString "__module__") 333,       val := Value.str (Str.ofString "emacs.terminal") 324 },     { hash := PyData.keyHash P (Str.ofString "__firstlineno__"), key := Value.str (Str.ofString "__firstlineno__") 337,       val := Value.int 102 336 },     { hash := PyData.keyHash P (Str.ofString "__init__"), key := Value.str (Str.ofString "__init__") 343,       val := Value.ref 109 },     { hash := PyData.keyHash P (Str.ofString "told"), key := Value.str (Str.ofString "told") 349,       val := Value.ref 114 },     { hash := PyData.keyHash P (Str.ofString "blank_rows"), key := Value.str (Str.ofString "blank_rows") 355,       val := Value.ref 119 },     { hash := PyData.keyHash P (Str.ofString "write"), key := Value.str (Str.ofString "write") 366,       val := Value.ref 126 },     { hash := PyData.keyHash P (Str.ofString "clear"), key := Value.str (Str.ofString "clear") 375,       val := Value.ref 133 },     { hash := PyData.keyHash P (Str.ofString "insert"), key := Value.str (Str.ofString "insert") 386,       val := Value.ref 140 },     { hash := PyData.keyHash P (Str.ofString "delete"), key := Value.str (Str.ofString "delete") 397,       val := Value.ref 147 },     { hash := PyData.keyHash P (Str.ofString "carry_out"), key := Value.str (Str.ofString "carry_out") 406,       val := Value.ref 154 },     { hash := PyData.keyHash P (Str.ofString "__static_attributes__"),       key := Value.str (Str.ofString "__static_attributes__") 411, val := Value.ref 155 },     { hash := PyData.keyHash P (Str.ofString "__dict__"), key := Value.str (Str.ofString "__dict__") 413,       val := Value.ref 158 },     { hash := PyData.keyHash P (Str.ofString "__weakref__"), key := Value.str (Str.ofString "__weakref__") 415,       val := Value.ref 159 },     { hash := PyData.keyHash P (Str.ofString "__doc__"), key := Value.str (Str.ofString "__doc__") 416,       val := Value.none }]   4, #[]⟩
noncomputable def o157 : Obj := ⟨Value.type "type", none, Data.cls   { name := Str.ofString "Screen", bases := [Value.type "object"], mro := [Value.ref 157, Value.type "object"],     ns := 156, qualname := Str.ofString "Screen" }, #[none, none, some (Value.str (Str.ofString "Screen") 326), some (Value.str (Str.ofString "Screen") 334),   some (Value.builtin "object.__new__"), some (Value.bool true)]⟩
noncomputable def o158 : Obj := ⟨Value.type "getset_descriptor", none, Data.fields   #[Value.str (Str.ofString "__dict__") 412, Value.ref 157, Value.builtin "function.__dict__",     Value.builtin "function.__dict__#set"], #[]⟩
noncomputable def o159 : Obj := ⟨Value.type "getset_descriptor", none, Data.fields   #[Value.str (Str.ofString "__weakref__") 414, Value.ref 157, Value.builtin "ExceptionGroup.__weakref__", Value.none], #[]⟩
noncomputable def c165 : Obj := ⟨.type "code", none, Data.fields   #[Value.str (Str.ofString "_law_pot") 421, Value.str (Str.ofString "_law_pot") 422,     Value.str (Str.ofString "/claim/cut.py") 423, Value.int 145 0, Value.int 1 0, Value.int 0 0, Value.int 0 0,     Value.int 3 0, Value.ref 162, Value.bool true, Value.int 181 0, Value.ref 163, Value.none, Value.none, Value.none,     Value.ref 164, Value.int 424 0, Value.int 145 0, Value.str (Str.ofString "/claim/cut.py") 425], #[]⟩
noncomputable def x166 : FX := ⟨"_law_pot", "_law_pot", .none, Value.str (Str.ofString "law_np0032_01") 419, none, Value.ref 165, Value.none⟩
noncomputable def c172 : Obj := ⟨.type "code", none, Data.fields   #[Value.str (Str.ofString "_law_dip") 427, Value.str (Str.ofString "_law_dip") 428,     Value.str (Str.ofString "/claim/cut.py") 429, Value.int 148 0, Value.int 2 0, Value.int 0 0, Value.int 0 0,     Value.int 3 0, Value.ref 167, Value.bool true, Value.int 181 0, Value.ref 168, Value.none, Value.ref 169,     Value.ref 170, Value.ref 171, Value.int 433 0, Value.int 148 0, Value.str (Str.ofString "/claim/cut.py") 434], #[]⟩
noncomputable def x173 : FX := ⟨"_law_dip", "_law_dip", .none, Value.str (Str.ofString "law_np0032_01") 419, none, Value.ref 172, Value.none⟩
noncomputable def c177 : Obj := ⟨.type "code", none, Data.fields   #[Value.str (Str.ofString "_law_row") 436, Value.str (Str.ofString "_law_row") 437,     Value.str (Str.ofString "/claim/cut.py") 438, Value.int 155 0, Value.int 2 0, Value.int 0 0, Value.int 0 0,     Value.int 3 0, Value.ref 174, Value.bool true, Value.int 181 0, Value.ref 175, Value.none, Value.none, Value.none,     Value.ref 176, Value.int 439 0, Value.int 155 0, Value.str (Str.ofString "/claim/cut.py") 440], #[]⟩
noncomputable def x178 : FX := ⟨"_law_row", "_law_row", .none, Value.str (Str.ofString "law_np0032_01") 419, none, Value.ref 177, Value.none⟩
noncomputable def c182 : Obj := ⟨.type "code", none, Data.fields   #[Value.str (Str.ofString "_law_screens") 442, Value.str (Str.ofString "_law_screens") 443,     Value.str (Str.ofString "/claim/cut.py") 444, Value.int 158 0, Value.int 1 0, Value.int 0 0, Value.int 0 0,     Value.int 3 0, Value.ref 179, Value.bool true, Value.int 181 0, Value.ref 180, Value.none, Value.none, Value.none,     Value.ref 181, Value.int 445 0, Value.int 158 0, Value.str (Str.ofString "/claim/cut.py") 446], #[]⟩
noncomputable def x183 : FX := ⟨"_law_screens", "_law_screens", .none, Value.str (Str.ofString "law_np0032_01") 419, none, Value.ref 182, Value.none⟩
noncomputable def c189 : Obj := ⟨.type "code", none, Data.fields   #[Value.str (Str.ofString "_law_is_order") 448, Value.str (Str.ofString "_law_is_order") 449,     Value.str (Str.ofString "/claim/cut.py") 450, Value.int 174 0, Value.int 3 0, Value.int 0 0, Value.int 0 0,     Value.int 3 0, Value.ref 184, Value.bool true, Value.int 181 0, Value.ref 185, Value.none, Value.ref 186,     Value.ref 187, Value.ref 188, Value.int 454 0, Value.int 174 0, Value.str (Str.ofString "/claim/cut.py") 455], #[]⟩
noncomputable def x190 : FX := ⟨"_law_is_order", "_law_is_order", .none, Value.str (Str.ofString "law_np0032_01") 419, none, Value.ref 189, Value.none⟩
noncomputable def c194 : Obj := ⟨.type "code", none, Data.fields   #[Value.str (Str.ofString "_law_unlike") 457, Value.str (Str.ofString "_law_unlike") 458,     Value.str (Str.ofString "/claim/cut.py") 459, Value.int 182 0, Value.int 2 0, Value.int 0 0, Value.int 0 0,     Value.int 3 0, Value.ref 191, Value.bool true, Value.int 181 0, Value.ref 192, Value.none, Value.none, Value.none,     Value.ref 193, Value.int 460 0, Value.int 182 0, Value.str (Str.ofString "/claim/cut.py") 461], #[]⟩
noncomputable def x195 : FX := ⟨"_law_unlike", "_law_unlike", .none, Value.str (Str.ofString "law_np0032_01") 419, none, Value.ref 194, Value.none⟩
noncomputable def c201 : Obj := ⟨.type "code", none, Data.fields   #[Value.str (Str.ofString "_law_drawn") 463, Value.str (Str.ofString "_law_drawn") 464,     Value.str (Str.ofString "/claim/cut.py") 465, Value.int 184 0, Value.int 3 0, Value.int 0 0, Value.int 0 0,     Value.int 3 0, Value.ref 196, Value.bool true, Value.int 181 0, Value.ref 197, Value.none, Value.ref 198,     Value.ref 199, Value.ref 200, Value.int 472 0, Value.int 184 0, Value.str (Str.ofString "/claim/cut.py") 473], #[]⟩
noncomputable def x202 : FX := ⟨"_law_drawn", "_law_drawn", .none, Value.str (Str.ofString "law_np0032_01") 419, none, Value.ref 201, Value.none⟩
noncomputable def c206 : Obj := ⟨.type "code", none, Data.fields   #[Value.str (Str.ofString "law") 475, Value.str (Str.ofString "law") 476,     Value.str (Str.ofString "/claim/cut.py") 477, Value.int 190 0, Value.int 1 0, Value.int 0 0, Value.int 0 0,     Value.int 3 0, Value.ref 203, Value.bool true, Value.int 181 0, Value.ref 204, Value.none, Value.none, Value.none,     Value.ref 205, Value.int 478 0, Value.int 190 0, Value.str (Str.ofString "/claim/cut.py") 479], #[]⟩
noncomputable def x207 : FX := ⟨"law", "law", .none, Value.str (Str.ofString "law_np0032_01") 419, none, Value.ref 206, Value.none⟩
noncomputable def KF (P : Params) : Frag := [(3, d3 P),
  (15, sq "tuple" [Value.int 32 187, Value.int 0 189] 0),
  (21, c21),
  (22, ⟨.type "function", none, .func (mkFd (topS 5) x22), #[]⟩),
  (28, c28),
  (29, ⟨.type "function", none, .func (mkFd (topS 6) x29), #[]⟩),
  (35, c35),
  (36, ⟨.type "function", none, .func (mkFd (topS 7) x36), #[]⟩),
  (42, c42),
  (43, ⟨.type "function", none, .func (mkFd (topS 8) x43), #[]⟩),
  (49, c49),
  (50, ⟨.type "function", none, .func (mkFd (topS 9) x50), #[]⟩),
  (56, c56),
  (57, ⟨.type "function", none, .func (mkFd (topS 10) x57), #[]⟩),
  (63, c63),
  (64, ⟨.type "function", none, .func (mkFd (topS 11) x64), #[]⟩),
  (70, c70),
  (71, ⟨.type "function", none, .func (mkFd (topS 12) x71), #[]⟩),
  (77, c77),
  (78, ⟨.type "function", none, .func (mkFd (topS 13) x78), #[]⟩),
  (84, c84),
  (85, ⟨.type "function", none, .func (mkFd (topS 14) x85), #[]⟩),
  (91, c91),
  (92, ⟨.type "function", none, .func (mkFd (topS 15) x92), #[]⟩),
  (96, c96),
  (97, ⟨.type "function", none, .func (mkFd (topS 16) x97), #[]⟩),
  (108, c108),
  (109, ⟨.type "function", none, .func (mkFd (mS 0) x109), #[]⟩),
  (113, c113),
  (114, ⟨.type "function", none, .func (mkFd (mS 1) x114), #[]⟩),
  (118, c118),
  (119, ⟨.type "function", none, .func (mkFd (mS 2) x119), #[]⟩),
  (125, c125),
  (126, ⟨.type "function", none, .func (mkFd (mS 3) x126), #[]⟩),
  (132, c132),
  (133, ⟨.type "function", none, .func (mkFd (mS 4) x133), #[]⟩),
  (139, c139),
  (140, ⟨.type "function", none, .func (mkFd (mS 5) x140), #[]⟩),
  (146, c146),
  (147, ⟨.type "function", none, .func (mkFd (mS 6) x147), #[]⟩),
  (153, c153),
  (154, ⟨.type "function", none, .func (mkFd (mS 7) x154), #[]⟩),
  (156, d156 P),
  (157, o157),
  (158, o158),
  (159, o159),
  (165, c165),
  (166, ⟨.type "function", none, .func (mkFd (topS 20) x166), #[]⟩),
  (172, c172),
  (173, ⟨.type "function", none, .func (mkFd (topS 21) x173), #[]⟩),
  (177, c177),
  (178, ⟨.type "function", none, .func (mkFd (topS 22) x178), #[]⟩),
  (182, c182),
  (183, ⟨.type "function", none, .func (mkFd (topS 23) x183), #[]⟩),
  (189, c189),
  (190, ⟨.type "function", none, .func (mkFd (topS 24) x190), #[]⟩),
  (194, c194),
  (195, ⟨.type "function", none, .func (mkFd (topS 25) x195), #[]⟩),
  (201, c201),
  (202, ⟨.type "function", none, .func (mkFd (topS 26) x202), #[]⟩),
  (206, c206),
  (207, ⟨.type "function", none, .func (mkFd (topS 27) x207), #[]⟩)]
noncomputable abbrev KA : List Addr := [3, 15, 21, 22, 28, 29, 35, 36, 42, 43, 49, 50, 56, 57, 63, 64, 70, 71, 77, 78, 84, 85, 91, 92, 96, 97, 108, 109, 113, 114, 118, 119, 125, 126, 132, 133, 139, 140, 146, 147, 153, 154, 156, 157, 158, 159, 165, 166, 172, 173, 177, 178, 182, 183, 189, 190, 194, 195, 201, 202, 206, 207]
end Mine

namespace Mine
/-- a def as the fragment holds it -/
theorem fnc_of {C : Cfg} {f : Addr} {st : Stmt} {x : FX} {ps : List Str} (hk : C.K = KF C.w.params) (ho : ∀ P, (KF P).lookup f = some ⟨.type "function", none, .func (mkFd st x), #[]⟩) (hcd : ∀ P, codeIn (KF P) x.cdv x.qual = true) (sc : ScopeOK (fnScope st) ps)
    (bind : ∀ vs : List Value, vs.length = ps.length → bindArgs (mkFd st x) ⟨vs, []⟩ = pure (ps.zip vs)) : FnC C f (mkFd st x) (fnBody st) ps :=
  ⟨⟨_, C.hK _ _ (hk ▸ ho _), rfl⟩, codeRec_of C.hK (hk ▸ hcd _), rfl, rfl, rfl, rfl, sc, bind⟩
theorem mg_of {C : Cfg} (hk : C.K = KF C.w.params) {x : Str} {r : Option Value} (e : ∀ P, nsIn (KF P) 3 x = some r) : C.mg x = r := by
  obtain ⟨o, es, ep, ho, hd, hs, hf⟩ := C.hg
  have h1 : C.g0.get? 3 = some (d3 C.w.params) := C.hK _ _ (hk ▸ (by kernel_rfl : (KF C.w.params).lookup 3 = some (d3 C.w.params)))
  have h2 : o = d3 C.w.params := Option.some.inj (ho.symm.trans h1)
  subst h2
  have h3 := Data.dict.inj hd
  have he : (KF C.w.params).lookup 3 = some ⟨.type "dict", none, .dict es ep, #[]⟩ := by
    rw [← h3.1, ← h3.2]; kernel_rfl
  rw [← hf x]
  have h4 := find_K he (e C.w.params)
  unfold nsFind
  rw [← h4]
  congr 1
  funext n v
  exact isStr_of n v

theorem sc_22 : ScopeOK (fnScope (topS 5)) ["old", "new"] := ⟨by kernel_rfl, by decide +kernel, by decide +kernel, by decide +kernel, by decide +kernel, by kernel_rfl, by kernel_rfl, by kernel_rfl⟩
theorem bind_22 (x : FX) : ∀ vs : List Value, vs.length = 2 → bindArgs (mkFd (topS 5) x) ⟨vs, []⟩ = pure ((["old", "new"] : List Str).zip vs)
  | [v0, v1], _ => by kernel_rfl
theorem fn_22 {C : Cfg} (hk : C.K = KF C.w.params) : FnC C 22 (mkFd (topS 5) x22) (fnBody (topS 5)) ["old", "new"] := fnc_of hk (fun P => by kernel_rfl) (fun P => by kernel_rfl) sc_22 (bind_22 _)
theorem at_22 {C : Cfg} (hk : C.K = KF C.w.params) {spec : Value → Prop} (h : spec (.ref 22)) : Has C "last_unlike" spec := ⟨_, mg_of hk fun P => by kernel_rfl, (fn_22 hk).callee, h⟩
theorem sc_29 : ScopeOK (fnScope (topS 6)) ["old", "new"] := ⟨by kernel_rfl, by decide +kernel, by decide +kernel, by decide +kernel, by decide +kernel, by kernel_rfl, by kernel_rfl, by kernel_rfl⟩
theorem bind_29 (x : FX) : ∀ vs : List Value, vs.length = 2 → bindArgs (mkFd (topS 6) x) ⟨vs, []⟩ = pure ((["old", "new"] : List Str).zip vs)
  | [v0, v1], _ => by kernel_rfl
theorem fn_29 {C : Cfg} (hk : C.K = KF C.w.params) : FnC C 29 (mkFd (topS 6) x29) (fnBody (topS 6)) ["old", "new"] := fnc_of hk (fun P => by kernel_rfl) (fun P => by kernel_rfl) sc_29 (bind_29 _)
theorem at_29 {C : Cfg} (hk : C.K = KF C.w.params) {spec : Value → Prop} (h : spec (.ref 29)) : Has C "first_unlike" spec := ⟨_, mg_of hk fun P => by kernel_rfl, (fn_29 hk).callee, h⟩
theorem sc_36 : ScopeOK (fnScope (topS 7)) ["row"] := ⟨by kernel_rfl, by decide +kernel, by decide +kernel, by decide +kernel, by decide +kernel, by kernel_rfl, by kernel_rfl, by kernel_rfl⟩
theorem bind_36 (x : FX) : ∀ vs : List Value, vs.length = 1 → bindArgs (mkFd (topS 7) x) ⟨vs, []⟩ = pure ((["row"] : List Str).zip vs)
  | [v0], _ => by kernel_rfl
theorem fn_36 {C : Cfg} (hk : C.K = KF C.w.params) : FnC C 36 (mkFd (topS 7) x36) (fnBody (topS 7)) ["row"] := fnc_of hk (fun P => by kernel_rfl) (fun P => by kernel_rfl) sc_36 (bind_36 _)
theorem at_36 {C : Cfg} (hk : C.K = KF C.w.params) {spec : Value → Prop} (h : spec (.ref 36)) : Has C "text_end" spec := ⟨_, mg_of hk fun P => by kernel_rfl, (fn_36 hk).callee, h⟩
theorem sc_43 : ScopeOK (fnScope (topS 8)) ["number", "old", "new"] := ⟨by kernel_rfl, by decide +kernel, by decide +kernel, by decide +kernel, by decide +kernel, by kernel_rfl, by kernel_rfl, by kernel_rfl⟩
theorem bind_43 (x : FX) : ∀ vs : List Value, vs.length = 3 → bindArgs (mkFd (topS 8) x) ⟨vs, []⟩ = pure ((["number", "old", "new"] : List Str).zip vs)
  | [v0, v1, v2], _ => by kernel_rfl
theorem fn_43 {C : Cfg} (hk : C.K = KF C.w.params) : FnC C 43 (mkFd (topS 8) x43) (fnBody (topS 8)) ["number", "old", "new"] := fnc_of hk (fun P => by kernel_rfl) (fun P => by kernel_rfl) sc_43 (bind_43 _)
theorem at_43 {C : Cfg} (hk : C.K = KF C.w.params) {spec : Value → Prop} (h : spec (.ref 43)) : Has C "row_orders" spec := ⟨_, mg_of hk fun P => by kernel_rfl, (fn_43 hk).callee, h⟩
theorem sc_50 : ScopeOK (fnScope (topS 9)) ["old", "new"] := ⟨by kernel_rfl, by decide +kernel, by decide +kernel, by decide +kernel, by decide +kernel, by kernel_rfl, by kernel_rfl, by kernel_rfl⟩
theorem bind_50 (x : FX) : ∀ vs : List Value, vs.length = 2 → bindArgs (mkFd (topS 9) x) ⟨vs, []⟩ = pure ((["old", "new"] : List Str).zip vs)
  | [v0, v1], _ => by kernel_rfl
theorem fn_50 {C : Cfg} (hk : C.K = KF C.w.params) : FnC C 50 (mkFd (topS 9) x50) (fnBody (topS 9)) ["old", "new"] := fnc_of hk (fun P => by kernel_rfl) (fun P => by kernel_rfl) sc_50 (bind_50 _)
theorem at_50 {C : Cfg} (hk : C.K = KF C.w.params) {spec : Value → Prop} (h : spec (.ref 50)) : Has C "row_cost" spec := ⟨_, mg_of hk fun P => by kernel_rfl, (fn_50 hk).callee, h⟩
theorem sc_57 : ScopeOK (fnScope (topS 10)) ["old", "new"] := ⟨by kernel_rfl, by decide +kernel, by decide +kernel, by decide +kernel, by decide +kernel, by kernel_rfl, by kernel_rfl, by kernel_rfl⟩
theorem bind_57 (x : FX) : ∀ vs : List Value, vs.length = 2 → bindArgs (mkFd (topS 10) x) ⟨vs, []⟩ = pure ((["old", "new"] : List Str).zip vs)
  | [v0, v1], _ => by kernel_rfl
theorem fn_57 {C : Cfg} (hk : C.K = KF C.w.params) : FnC C 57 (mkFd (topS 10) x57) (fnBody (topS 10)) ["old", "new"] := fnc_of hk (fun P => by kernel_rfl) (fun P => by kernel_rfl) sc_57 (bind_57 _)
theorem at_57 {C : Cfg} (hk : C.K = KF C.w.params) {spec : Value → Prop} (h : spec (.ref 57)) : Has C "cost_table" spec := ⟨_, mg_of hk fun P => by kernel_rfl, (fn_57 hk).callee, h⟩
theorem sc_64 : ScopeOK (fnScope (topS 11)) ["table", "old", "new", "gone", "made", "blank"] := ⟨by kernel_rfl, by decide +kernel, by decide +kernel, by decide +kernel, by decide +kernel, by kernel_rfl, by kernel_rfl, by kernel_rfl⟩
theorem bind_64 (x : FX) : ∀ vs : List Value, vs.length = 6 → bindArgs (mkFd (topS 11) x) ⟨vs, []⟩ = pure ((["table", "old", "new", "gone", "made", "blank"] : List Str).zip vs)
  | [v0, v1, v2, v3, v4, v5], _ => by kernel_rfl
theorem fn_64 {C : Cfg} (hk : C.K = KF C.w.params) : FnC C 64 (mkFd (topS 11) x64) (fnBody (topS 11)) ["table", "old", "new", "gone", "made", "blank"] := fnc_of hk (fun P => by kernel_rfl) (fun P => by kernel_rfl) sc_64 (bind_64 _)
theorem at_64 {C : Cfg} (hk : C.K = KF C.w.params) {spec : Value → Prop} (h : spec (.ref 64)) : Has C "best_step" spec := ⟨_, mg_of hk fun P => by kernel_rfl, (fn_64 hk).callee, h⟩
theorem sc_71 : ScopeOK (fnScope (topS 12)) ["old", "new"] := ⟨by kernel_rfl, by decide +kernel, by decide +kernel, by decide +kernel, by decide +kernel, by kernel_rfl, by kernel_rfl, by kernel_rfl⟩
theorem bind_71 (x : FX) : ∀ vs : List Value, vs.length = 2 → bindArgs (mkFd (topS 12) x) ⟨vs, []⟩ = pure ((["old", "new"] : List Str).zip vs)
  | [v0, v1], _ => by kernel_rfl
theorem fn_71 {C : Cfg} (hk : C.K = KF C.w.params) : FnC C 71 (mkFd (topS 12) x71) (fnBody (topS 12)) ["old", "new"] := fnc_of hk (fun P => by kernel_rfl) (fun P => by kernel_rfl) sc_71 (bind_71 _)
theorem at_71 {C : Cfg} (hk : C.K = KF C.w.params) {spec : Value → Prop} (h : spec (.ref 71)) : Has C "steps_of" spec := ⟨_, mg_of hk fun P => by kernel_rfl, (fn_71 hk).callee, h⟩
theorem sc_78 : ScopeOK (fnScope (topS 13)) ["steps"] := ⟨by kernel_rfl, by decide +kernel, by decide +kernel, by decide +kernel, by decide +kernel, by kernel_rfl, by kernel_rfl, by kernel_rfl⟩
theorem bind_78 (x : FX) : ∀ vs : List Value, vs.length = 1 → bindArgs (mkFd (topS 13) x) ⟨vs, []⟩ = pure ((["steps"] : List Str).zip vs)
  | [v0], _ => by kernel_rfl
theorem fn_78 {C : Cfg} (hk : C.K = KF C.w.params) : FnC C 78 (mkFd (topS 13) x78) (fnBody (topS 13)) ["steps"] := fnc_of hk (fun P => by kernel_rfl) (fun P => by kernel_rfl) sc_78 (bind_78 _)
theorem at_78 {C : Cfg} (hk : C.K = KF C.w.params) {spec : Value → Prop} (h : spec (.ref 78)) : Has C "dropped_runs" spec := ⟨_, mg_of hk fun P => by kernel_rfl, (fn_78 hk).callee, h⟩
theorem sc_85 : ScopeOK (fnScope (topS 14)) ["steps"] := ⟨by kernel_rfl, by decide +kernel, by decide +kernel, by decide +kernel, by decide +kernel, by kernel_rfl, by kernel_rfl, by kernel_rfl⟩
theorem bind_85 (x : FX) : ∀ vs : List Value, vs.length = 1 → bindArgs (mkFd (topS 14) x) ⟨vs, []⟩ = pure ((["steps"] : List Str).zip vs)
  | [v0], _ => by kernel_rfl
theorem fn_85 {C : Cfg} (hk : C.K = KF C.w.params) : FnC C 85 (mkFd (topS 14) x85) (fnBody (topS 14)) ["steps"] := fnc_of hk (fun P => by kernel_rfl) (fun P => by kernel_rfl) sc_85 (bind_85 _)
theorem at_85 {C : Cfg} (hk : C.K = KF C.w.params) {spec : Value → Prop} (h : spec (.ref 85)) : Has C "added_runs" spec := ⟨_, mg_of hk fun P => by kernel_rfl, (fn_85 hk).callee, h⟩
theorem sc_92 : ScopeOK (fnScope (topS 15)) ["old", "steps", "width"] := ⟨by kernel_rfl, by decide +kernel, by decide +kernel, by decide +kernel, by decide +kernel, by kernel_rfl, by kernel_rfl, by kernel_rfl⟩
theorem bind_92 (x : FX) : ∀ vs : List Value, vs.length = 3 → bindArgs (mkFd (topS 15) x) ⟨vs, []⟩ = pure ((["old", "steps", "width"] : List Str).zip vs)
  | [v0, v1, v2], _ => by kernel_rfl
theorem fn_92 {C : Cfg} (hk : C.K = KF C.w.params) : FnC C 92 (mkFd (topS 15) x92) (fnBody (topS 15)) ["old", "steps", "width"] := fnc_of hk (fun P => by kernel_rfl) (fun P => by kernel_rfl) sc_92 (bind_92 _)
theorem at_92 {C : Cfg} (hk : C.K = KF C.w.params) {spec : Value → Prop} (h : spec (.ref 92)) : Has C "rows_then" spec := ⟨_, mg_of hk fun P => by kernel_rfl, (fn_92 hk).callee, h⟩
theorem sc_97 : ScopeOK (fnScope (topS 16)) ["old", "new", "cursor"] := ⟨by kernel_rfl, by decide +kernel, by decide +kernel, by decide +kernel, by decide +kernel, by kernel_rfl, by kernel_rfl, by kernel_rfl⟩
theorem bind_97 (x : FX) : ∀ vs : List Value, vs.length = 3 → bindArgs (mkFd (topS 16) x) ⟨vs, []⟩ = pure ((["old", "new", "cursor"] : List Str).zip vs)
  | [v0, v1, v2], _ => by kernel_rfl
theorem fn_97 {C : Cfg} (hk : C.K = KF C.w.params) : FnC C 97 (mkFd (topS 16) x97) (fnBody (topS 16)) ["old", "new", "cursor"] := fnc_of hk (fun P => by kernel_rfl) (fun P => by kernel_rfl) sc_97 (bind_97 _)
theorem at_97 {C : Cfg} (hk : C.K = KF C.w.params) {spec : Value → Prop} (h : spec (.ref 97)) : Has C "update_orders" spec := ⟨_, mg_of hk fun P => by kernel_rfl, (fn_97 hk).callee, h⟩
theorem sc_166 : ScopeOK (fnScope (topS 20)) ["script"] := ⟨by kernel_rfl, by decide +kernel, by decide +kernel, by decide +kernel, by decide +kernel, by kernel_rfl, by kernel_rfl, by kernel_rfl⟩
theorem bind_166 (x : FX) : ∀ vs : List Value, vs.length = 1 → bindArgs (mkFd (topS 20) x) ⟨vs, []⟩ = pure ((["script"] : List Str).zip vs)
  | [v0], _ => by kernel_rfl
theorem fn_166 {C : Cfg} (hk : C.K = KF C.w.params) : FnC C 166 (mkFd (topS 20) x166) (fnBody (topS 20)) ["script"] := fnc_of hk (fun P => by kernel_rfl) (fun P => by kernel_rfl) sc_166 (bind_166 _)
theorem at_166 {C : Cfg} (hk : C.K = KF C.w.params) {spec : Value → Prop} (h : spec (.ref 166)) : Has C "_law_pot" spec := ⟨_, mg_of hk fun P => by kernel_rfl, (fn_166 hk).callee, h⟩
theorem sc_173 : ScopeOK (fnScope (topS 21)) ["pot", "many"] := ⟨by kernel_rfl, by decide +kernel, by decide +kernel, by decide +kernel, by decide +kernel, by kernel_rfl, by kernel_rfl, by kernel_rfl⟩
theorem bind_173 (x : FX) : ∀ vs : List Value, vs.length = 2 → bindArgs (mkFd (topS 21) x) ⟨vs, []⟩ = pure ((["pot", "many"] : List Str).zip vs)
  | [v0, v1], _ => by kernel_rfl
theorem fn_173 {C : Cfg} (hk : C.K = KF C.w.params) : FnC C 173 (mkFd (topS 21) x173) (fnBody (topS 21)) ["pot", "many"] := fnc_of hk (fun P => by kernel_rfl) (fun P => by kernel_rfl) sc_173 (bind_173 _)
theorem at_173 {C : Cfg} (hk : C.K = KF C.w.params) {spec : Value → Prop} (h : spec (.ref 173)) : Has C "_law_dip" spec := ⟨_, mg_of hk fun P => by kernel_rfl, (fn_173 hk).callee, h⟩
theorem sc_178 : ScopeOK (fnScope (topS 22)) ["pot", "width"] := ⟨by kernel_rfl, by decide +kernel, by decide +kernel, by decide +kernel, by decide +kernel, by kernel_rfl, by kernel_rfl, by kernel_rfl⟩
theorem bind_178 (x : FX) : ∀ vs : List Value, vs.length = 2 → bindArgs (mkFd (topS 22) x) ⟨vs, []⟩ = pure ((["pot", "width"] : List Str).zip vs)
  | [v0, v1], _ => by kernel_rfl
theorem fn_178 {C : Cfg} (hk : C.K = KF C.w.params) : FnC C 178 (mkFd (topS 22) x178) (fnBody (topS 22)) ["pot", "width"] := fnc_of hk (fun P => by kernel_rfl) (fun P => by kernel_rfl) sc_178 (bind_178 _)
theorem at_178 {C : Cfg} (hk : C.K = KF C.w.params) {spec : Value → Prop} (h : spec (.ref 178)) : Has C "_law_row" spec := ⟨_, mg_of hk fun P => by kernel_rfl, (fn_178 hk).callee, h⟩
theorem sc_183 : ScopeOK (fnScope (topS 23)) ["pot"] := ⟨by kernel_rfl, by decide +kernel, by decide +kernel, by decide +kernel, by decide +kernel, by kernel_rfl, by kernel_rfl, by kernel_rfl⟩
theorem bind_183 (x : FX) : ∀ vs : List Value, vs.length = 1 → bindArgs (mkFd (topS 23) x) ⟨vs, []⟩ = pure ((["pot"] : List Str).zip vs)
  | [v0], _ => by kernel_rfl
theorem fn_183 {C : Cfg} (hk : C.K = KF C.w.params) : FnC C 183 (mkFd (topS 23) x183) (fnBody (topS 23)) ["pot"] := fnc_of hk (fun P => by kernel_rfl) (fun P => by kernel_rfl) sc_183 (bind_183 _)
theorem at_183 {C : Cfg} (hk : C.K = KF C.w.params) {spec : Value → Prop} (h : spec (.ref 183)) : Has C "_law_screens" spec := ⟨_, mg_of hk fun P => by kernel_rfl, (fn_183 hk).callee, h⟩
theorem sc_190 : ScopeOK (fnScope (topS 24)) ["order", "width", "height"] := ⟨by kernel_rfl, by decide +kernel, by decide +kernel, by decide +kernel, by decide +kernel, by kernel_rfl, by kernel_rfl, by kernel_rfl⟩
theorem bind_190 (x : FX) : ∀ vs : List Value, vs.length = 3 → bindArgs (mkFd (topS 24) x) ⟨vs, []⟩ = pure ((["order", "width", "height"] : List Str).zip vs)
  | [v0, v1, v2], _ => by kernel_rfl
theorem fn_190 {C : Cfg} (hk : C.K = KF C.w.params) : FnC C 190 (mkFd (topS 24) x190) (fnBody (topS 24)) ["order", "width", "height"] := fnc_of hk (fun P => by kernel_rfl) (fun P => by kernel_rfl) sc_190 (bind_190 _)
theorem at_190 {C : Cfg} (hk : C.K = KF C.w.params) {spec : Value → Prop} (h : spec (.ref 190)) : Has C "_law_is_order" spec := ⟨_, mg_of hk fun P => by kernel_rfl, (fn_190 hk).callee, h⟩
theorem sc_195 : ScopeOK (fnScope (topS 25)) ["old", "new"] := ⟨by kernel_rfl, by decide +kernel, by decide +kernel, by decide +kernel, by decide +kernel, by kernel_rfl, by kernel_rfl, by kernel_rfl⟩
theorem bind_195 (x : FX) : ∀ vs : List Value, vs.length = 2 → bindArgs (mkFd (topS 25) x) ⟨vs, []⟩ = pure ((["old", "new"] : List Str).zip vs)
  | [v0, v1], _ => by kernel_rfl
theorem fn_195 {C : Cfg} (hk : C.K = KF C.w.params) : FnC C 195 (mkFd (topS 25) x195) (fnBody (topS 25)) ["old", "new"] := fnc_of hk (fun P => by kernel_rfl) (fun P => by kernel_rfl) sc_195 (bind_195 _)
theorem at_195 {C : Cfg} (hk : C.K = KF C.w.params) {spec : Value → Prop} (h : spec (.ref 195)) : Has C "_law_unlike" spec := ⟨_, mg_of hk fun P => by kernel_rfl, (fn_195 hk).callee, h⟩
theorem sc_202 : ScopeOK (fnScope (topS 26)) ["lines_laid", "width", "height"] := ⟨by kernel_rfl, by decide +kernel, by decide +kernel, by decide +kernel, by decide +kernel, by kernel_rfl, by kernel_rfl, by kernel_rfl⟩
theorem bind_202 (x : FX) : ∀ vs : List Value, vs.length = 3 → bindArgs (mkFd (topS 26) x) ⟨vs, []⟩ = pure ((["lines_laid", "width", "height"] : List Str).zip vs)
  | [v0, v1, v2], _ => by kernel_rfl
theorem fn_202 {C : Cfg} (hk : C.K = KF C.w.params) : FnC C 202 (mkFd (topS 26) x202) (fnBody (topS 26)) ["lines_laid", "width", "height"] := fnc_of hk (fun P => by kernel_rfl) (fun P => by kernel_rfl) sc_202 (bind_202 _)
theorem at_202 {C : Cfg} (hk : C.K = KF C.w.params) {spec : Value → Prop} (h : spec (.ref 202)) : Has C "_law_drawn" spec := ⟨_, mg_of hk fun P => by kernel_rfl, (fn_202 hk).callee, h⟩
theorem sc_207 : ScopeOK (fnScope (topS 27)) ["script"] := ⟨by kernel_rfl, by decide +kernel, by decide +kernel, by decide +kernel, by decide +kernel, by kernel_rfl, by kernel_rfl, by kernel_rfl⟩
theorem bind_207 (x : FX) : ∀ vs : List Value, vs.length = 1 → bindArgs (mkFd (topS 27) x) ⟨vs, []⟩ = pure ((["script"] : List Str).zip vs)
  | [v0], _ => by kernel_rfl
theorem fn_207 {C : Cfg} (hk : C.K = KF C.w.params) : FnC C 207 (mkFd (topS 27) x207) (fnBody (topS 27)) ["script"] := fnc_of hk (fun P => by kernel_rfl) (fun P => by kernel_rfl) sc_207 (bind_207 _)
theorem at_207 {C : Cfg} (hk : C.K = KF C.w.params) {spec : Value → Prop} (h : spec (.ref 207)) : Has C "law" spec := ⟨_, mg_of hk fun P => by kernel_rfl, (fn_207 hk).callee, h⟩
theorem sc_109 : ScopeOK (fnScope (mS 0)) ["self", "width", "height"] := ⟨by kernel_rfl, by decide +kernel, by decide +kernel, by decide +kernel, by decide +kernel, by kernel_rfl, by kernel_rfl, by kernel_rfl⟩
theorem bind_109 (x : FX) : ∀ vs : List Value, vs.length = 3 → bindArgs (mkFd (mS 0) x) ⟨vs, []⟩ = pure ((["self", "width", "height"] : List Str).zip vs)
  | [v0, v1, v2], _ => by kernel_rfl
theorem fn_109 {C : Cfg} (hk : C.K = KF C.w.params) : FnC C 109 (mkFd (mS 0) x109) (fnBody (mS 0)) ["self", "width", "height"] := fnc_of hk (fun P => by kernel_rfl) (fun P => by kernel_rfl) sc_109 (bind_109 _)
theorem me_109 {C : Cfg} (hk : C.K = KF C.w.params) : Meth C 157 "__init__" 109 := ⟨hk ▸ (by kernel_rfl : findIn (KF C.w.params) (.ref 157) "__init__" = some (some (.ref 109))), hk ▸ (by kernel_rfl : isFn (KF C.w.params) (.ref 109) = true)⟩
theorem at_109 {C : Cfg} (hk : C.K = KF C.w.params) {spec : Value → Prop} (h : spec (.ref 109)) : HasM C 157 "__init__" spec := ⟨_, me_109 hk, let ⟨o, q⟩ := (fn_109 hk).o; ⟨o, _, q⟩, h⟩
theorem sc_114 : ScopeOK (fnScope (mS 1)) ["self"] := ⟨by kernel_rfl, by decide +kernel, by decide +kernel, by decide +kernel, by decide +kernel, by kernel_rfl, by kernel_rfl, by kernel_rfl⟩
theorem bind_114 (x : FX) : ∀ vs : List Value, vs.length = 1 → bindArgs (mkFd (mS 1) x) ⟨vs, []⟩ = pure ((["self"] : List Str).zip vs)
  | [v0], _ => by kernel_rfl
theorem fn_114 {C : Cfg} (hk : C.K = KF C.w.params) : FnC C 114 (mkFd (mS 1) x114) (fnBody (mS 1)) ["self"] := fnc_of hk (fun P => by kernel_rfl) (fun P => by kernel_rfl) sc_114 (bind_114 _)
theorem me_114 {C : Cfg} (hk : C.K = KF C.w.params) : Meth C 157 "told" 114 := ⟨hk ▸ (by kernel_rfl : findIn (KF C.w.params) (.ref 157) "told" = some (some (.ref 114))), hk ▸ (by kernel_rfl : isFn (KF C.w.params) (.ref 114) = true)⟩
theorem at_114 {C : Cfg} (hk : C.K = KF C.w.params) {spec : Value → Prop} (h : spec (.ref 114)) : HasM C 157 "told" spec := ⟨_, me_114 hk, let ⟨o, q⟩ := (fn_114 hk).o; ⟨o, _, q⟩, h⟩
theorem sc_119 : ScopeOK (fnScope (mS 2)) ["self", "many"] := ⟨by kernel_rfl, by decide +kernel, by decide +kernel, by decide +kernel, by decide +kernel, by kernel_rfl, by kernel_rfl, by kernel_rfl⟩
theorem bind_119 (x : FX) : ∀ vs : List Value, vs.length = 2 → bindArgs (mkFd (mS 2) x) ⟨vs, []⟩ = pure ((["self", "many"] : List Str).zip vs)
  | [v0, v1], _ => by kernel_rfl
theorem fn_119 {C : Cfg} (hk : C.K = KF C.w.params) : FnC C 119 (mkFd (mS 2) x119) (fnBody (mS 2)) ["self", "many"] := fnc_of hk (fun P => by kernel_rfl) (fun P => by kernel_rfl) sc_119 (bind_119 _)
theorem me_119 {C : Cfg} (hk : C.K = KF C.w.params) : Meth C 157 "blank_rows" 119 := ⟨hk ▸ (by kernel_rfl : findIn (KF C.w.params) (.ref 157) "blank_rows" = some (some (.ref 119))), hk ▸ (by kernel_rfl : isFn (KF C.w.params) (.ref 119) = true)⟩
theorem at_119 {C : Cfg} (hk : C.K = KF C.w.params) {spec : Value → Prop} (h : spec (.ref 119)) : HasM C 157 "blank_rows" spec := ⟨_, me_119 hk, let ⟨o, q⟩ := (fn_119 hk).o; ⟨o, _, q⟩, h⟩
theorem sc_126 : ScopeOK (fnScope (mS 3)) ["self", "row", "column", "cells"] := ⟨by kernel_rfl, by decide +kernel, by decide +kernel, by decide +kernel, by decide +kernel, by kernel_rfl, by kernel_rfl, by kernel_rfl⟩
theorem bind_126 (x : FX) : ∀ vs : List Value, vs.length = 4 → bindArgs (mkFd (mS 3) x) ⟨vs, []⟩ = pure ((["self", "row", "column", "cells"] : List Str).zip vs)
  | [v0, v1, v2, v3], _ => by kernel_rfl
theorem fn_126 {C : Cfg} (hk : C.K = KF C.w.params) : FnC C 126 (mkFd (mS 3) x126) (fnBody (mS 3)) ["self", "row", "column", "cells"] := fnc_of hk (fun P => by kernel_rfl) (fun P => by kernel_rfl) sc_126 (bind_126 _)
theorem me_126 {C : Cfg} (hk : C.K = KF C.w.params) : Meth C 157 "write" 126 := ⟨hk ▸ (by kernel_rfl : findIn (KF C.w.params) (.ref 157) "write" = some (some (.ref 126))), hk ▸ (by kernel_rfl : isFn (KF C.w.params) (.ref 126) = true)⟩
theorem at_126 {C : Cfg} (hk : C.K = KF C.w.params) {spec : Value → Prop} (h : spec (.ref 126)) : HasM C 157 "write" spec := ⟨_, me_126 hk, let ⟨o, q⟩ := (fn_126 hk).o; ⟨o, _, q⟩, h⟩
theorem sc_133 : ScopeOK (fnScope (mS 4)) ["self", "row", "column"] := ⟨by kernel_rfl, by decide +kernel, by decide +kernel, by decide +kernel, by decide +kernel, by kernel_rfl, by kernel_rfl, by kernel_rfl⟩
theorem bind_133 (x : FX) : ∀ vs : List Value, vs.length = 3 → bindArgs (mkFd (mS 4) x) ⟨vs, []⟩ = pure ((["self", "row", "column"] : List Str).zip vs)
  | [v0, v1, v2], _ => by kernel_rfl
theorem fn_133 {C : Cfg} (hk : C.K = KF C.w.params) : FnC C 133 (mkFd (mS 4) x133) (fnBody (mS 4)) ["self", "row", "column"] := fnc_of hk (fun P => by kernel_rfl) (fun P => by kernel_rfl) sc_133 (bind_133 _)
theorem me_133 {C : Cfg} (hk : C.K = KF C.w.params) : Meth C 157 "clear" 133 := ⟨hk ▸ (by kernel_rfl : findIn (KF C.w.params) (.ref 157) "clear" = some (some (.ref 133))), hk ▸ (by kernel_rfl : isFn (KF C.w.params) (.ref 133) = true)⟩
theorem at_133 {C : Cfg} (hk : C.K = KF C.w.params) {spec : Value → Prop} (h : spec (.ref 133)) : HasM C 157 "clear" spec := ⟨_, me_133 hk, let ⟨o, q⟩ := (fn_133 hk).o; ⟨o, _, q⟩, h⟩
theorem sc_140 : ScopeOK (fnScope (mS 5)) ["self", "row", "many", "bottom"] := ⟨by kernel_rfl, by decide +kernel, by decide +kernel, by decide +kernel, by decide +kernel, by kernel_rfl, by kernel_rfl, by kernel_rfl⟩
theorem bind_140 (x : FX) : ∀ vs : List Value, vs.length = 4 → bindArgs (mkFd (mS 5) x) ⟨vs, []⟩ = pure ((["self", "row", "many", "bottom"] : List Str).zip vs)
  | [v0, v1, v2, v3], _ => by kernel_rfl
theorem fn_140 {C : Cfg} (hk : C.K = KF C.w.params) : FnC C 140 (mkFd (mS 5) x140) (fnBody (mS 5)) ["self", "row", "many", "bottom"] := fnc_of hk (fun P => by kernel_rfl) (fun P => by kernel_rfl) sc_140 (bind_140 _)
theorem me_140 {C : Cfg} (hk : C.K = KF C.w.params) : Meth C 157 "insert" 140 := ⟨hk ▸ (by kernel_rfl : findIn (KF C.w.params) (.ref 157) "insert" = some (some (.ref 140))), hk ▸ (by kernel_rfl : isFn (KF C.w.params) (.ref 140) = true)⟩
theorem at_140 {C : Cfg} (hk : C.K = KF C.w.params) {spec : Value → Prop} (h : spec (.ref 140)) : HasM C 157 "insert" spec := ⟨_, me_140 hk, let ⟨o, q⟩ := (fn_140 hk).o; ⟨o, _, q⟩, h⟩
theorem sc_147 : ScopeOK (fnScope (mS 6)) ["self", "row", "many", "bottom"] := ⟨by kernel_rfl, by decide +kernel, by decide +kernel, by decide +kernel, by decide +kernel, by kernel_rfl, by kernel_rfl, by kernel_rfl⟩
theorem bind_147 (x : FX) : ∀ vs : List Value, vs.length = 4 → bindArgs (mkFd (mS 6) x) ⟨vs, []⟩ = pure ((["self", "row", "many", "bottom"] : List Str).zip vs)
  | [v0, v1, v2, v3], _ => by kernel_rfl
theorem fn_147 {C : Cfg} (hk : C.K = KF C.w.params) : FnC C 147 (mkFd (mS 6) x147) (fnBody (mS 6)) ["self", "row", "many", "bottom"] := fnc_of hk (fun P => by kernel_rfl) (fun P => by kernel_rfl) sc_147 (bind_147 _)
theorem me_147 {C : Cfg} (hk : C.K = KF C.w.params) : Meth C 157 "delete" 147 := ⟨hk ▸ (by kernel_rfl : findIn (KF C.w.params) (.ref 157) "delete" = some (some (.ref 147))), hk ▸ (by kernel_rfl : isFn (KF C.w.params) (.ref 147) = true)⟩
theorem at_147 {C : Cfg} (hk : C.K = KF C.w.params) {spec : Value → Prop} (h : spec (.ref 147)) : HasM C 157 "delete" spec := ⟨_, me_147 hk, let ⟨o, q⟩ := (fn_147 hk).o; ⟨o, _, q⟩, h⟩
theorem sc_154 : ScopeOK (fnScope (mS 7)) ["self", "order"] := ⟨by kernel_rfl, by decide +kernel, by decide +kernel, by decide +kernel, by decide +kernel, by kernel_rfl, by kernel_rfl, by kernel_rfl⟩
theorem bind_154 (x : FX) : ∀ vs : List Value, vs.length = 2 → bindArgs (mkFd (mS 7) x) ⟨vs, []⟩ = pure ((["self", "order"] : List Str).zip vs)
  | [v0, v1], _ => by kernel_rfl
theorem fn_154 {C : Cfg} (hk : C.K = KF C.w.params) : FnC C 154 (mkFd (mS 7) x154) (fnBody (mS 7)) ["self", "order"] := fnc_of hk (fun P => by kernel_rfl) (fun P => by kernel_rfl) sc_154 (bind_154 _)
theorem me_154 {C : Cfg} (hk : C.K = KF C.w.params) : Meth C 157 "carry_out" 154 := ⟨hk ▸ (by kernel_rfl : findIn (KF C.w.params) (.ref 157) "carry_out" = some (some (.ref 154))), hk ▸ (by kernel_rfl : isFn (KF C.w.params) (.ref 154) = true)⟩
theorem at_154 {C : Cfg} (hk : C.K = KF C.w.params) {spec : Value → Prop} (h : spec (.ref 154)) : HasM C 157 "carry_out" spec := ⟨_, me_154 hk, let ⟨o, q⟩ := (fn_154 hk).o; ⟨o, _, q⟩, h⟩
end Mine

namespace Mine
section
variable {C : Cfg}
theorem bt_of (hk : C.K = KF C.w.params) (hb : ∀ x : Str, x ≠ "__name__" → C.mb x = bootBuiltins x) : Bt C :=
  ⟨⟨mg_of hk fun P => by kernel_rfl, (hb _ (by decide)).trans (by kernel_rfl)⟩, ⟨mg_of hk fun P => by kernel_rfl, (hb _ (by decide)).trans (by kernel_rfl)⟩,
   ⟨mg_of hk fun P => by kernel_rfl, (hb _ (by decide)).trans (by kernel_rfl)⟩, ⟨mg_of hk fun P => by kernel_rfl, (hb _ (by decide)).trans (by kernel_rfl)⟩,
   ⟨mg_of hk fun P => by kernel_rfl, (hb _ (by decide)).trans (by kernel_rfl)⟩, ⟨mg_of hk fun P => by kernel_rfl, (hb _ (by decide)).trans (by kernel_rfl)⟩,
   ⟨mg_of hk fun P => by kernel_rfl, (hb _ (by decide)).trans (by kernel_rfl)⟩, ⟨mg_of hk fun P => by kernel_rfl, (hb _ (by decide)).trans (by kernel_rfl)⟩,
   ⟨mg_of hk fun P => by kernel_rfl, (hb _ (by decide)).trans (by kernel_rfl)⟩, ⟨mg_of hk fun P => by kernel_rfl, (hb _ (by decide)).trans (by kernel_rfl)⟩⟩
theorem gl_of (hk : C.K = KF C.w.params) (hb : ∀ x : Str, x ≠ "__name__" → C.mb x = bootBuiltins x) : Gl C where
  toBt := bt_of hk hb
  empty := ⟨_, mg_of hk fun P => by kernel_rfl, .tup (C.hK _ _ (hk ▸ (by kernel_rfl : (KF C.w.params).lookup 15 = some (sq "tuple" [Value.int 32 187, Value.int 0 189] 0)))) (.cons .int (.cons .int .nil))⟩
  move := ⟨193, mg_of hk fun P => by kernel_rfl⟩
  clear := ⟨195, mg_of hk fun P => by kernel_rfl⟩
theorem screen_cls (hk : C.K = KF C.w.params) : PlainCls C 157 sFlds where
  mkI := hk ▸ (by kernel_rfl : makesIn (KF C.w.params) 157 = true)
  kp := hk ▸ (by kernel_rfl : keepIn (KF C.w.params) (.ref 157) = true)
  get := hk ▸ (by kernel_rfl : plainGet (KF C.w.params) 157 "" = true)
  dic := hk ▸ (by kernel_rfl : hasDictIn (KF C.w.params) 157 = true)
  set := hk ▸ (by kernel_rfl : findIn (KF C.w.params) (.ref 157) "__setattr__" = some (some (.builtin "object.__setattr__")))
  ovr := hk ▸ (by kernel_rfl : plainOver (KF C.w.params) 157 = true)
  fld := fun x hx => by
    rw [hk]
    rcases List.mem_cons.mp hx with rfl | hx
    · kernel_rfl
    rcases List.mem_cons.mp hx with rfl | hx
    · kernel_rfl
    rcases List.mem_cons.mp hx with rfl | hx
    · kernel_rfl
    rcases List.mem_cons.mp hx with rfl | hx
    · kernel_rfl
    nomatch hx
theorem looks3 (hk : C.K = KF C.w.params) (B : Gl C) : Looks3 C :=
  ⟨at_29 hk (first_ok B (fn_29 hk)), at_22 hk (last_ok B.toBt (fn_22 hk)), at_36 hk (text_ok B (fn_36 hk))⟩
theorem rowO (hk : C.K = KF C.w.params) (B : Gl C) : RowO C := at_43 hk (row_orders_ok B (looks3 hk B) (fn_43 hk))
theorem rowC (hk : C.K = KF C.w.params) (B : Gl C) : RowC C := at_50 hk (row_cost_ok B (rowO hk B) (fn_50 hk))
theorem bestC (hk : C.K = KF C.w.params) (B : Gl C) : BestC C := at_64 hk (best_ok B (rowC hk B) (fn_64 hk))
theorem tabC (hk : C.K = KF C.w.params) (B : Gl C) : TabC C := at_57 hk (cost_table_ok B (bestC hk B) (fn_57 hk))
theorem stepsC (hk : C.K = KF C.w.params) (B : Gl C) : StepsC C := at_71 hk (steps_ok B (tabC hk B) (fn_71 hk))
theorem runsC (hk : C.K = KF C.w.params) (B : Gl C) : RunsC C := ⟨at_78 hk (dropped_ok B (fn_78 hk)), at_85 hk (added_ok B (fn_85 hk))⟩
theorem thenC (hk : C.K = KF C.w.params) (B : Gl C) : ThenC C := at_92 hk (rows_then_ok B (fn_92 hk))
theorem writeM (hk : C.K = KF C.w.params) (B : Gl C) : WriteM C 157 := at_126 hk (write_ok B (screen_cls hk) (fn_126 hk))
theorem clearM (hk : C.K = KF C.w.params) (B : Gl C) : ClearM C 157 := at_133 hk (clear_ok B (screen_cls hk) (fn_133 hk))
theorem blankM (hk : C.K = KF C.w.params) (B : Gl C) : BlankM C 157 := at_119 hk (blank_rows_ok B (screen_cls hk) (fn_119 hk))
theorem insertM (hk : C.K = KF C.w.params) (B : Gl C) : InsertM C 157 := at_140 hk (insert_ok B (screen_cls hk) (blankM hk B) (fn_140 hk))
theorem deleteM (hk : C.K = KF C.w.params) (B : Gl C) : DeleteM C 157 := at_147 hk (delete_ok B (screen_cls hk) (blankM hk B) (fn_147 hk))
theorem scrMs (hk : C.K = KF C.w.params) (B : Gl C) : ScrMs C 157 := ⟨writeM hk B, clearM hk B, insertM hk B, deleteM hk B⟩
theorem initM (hk : C.K = KF C.w.params) (B : Gl C) : InitM C 157 := ⟨_, me_109 hk, init_ok B (screen_cls hk) (fn_109 hk)⟩
theorem dipC (hk : C.K = KF C.w.params) (B : Gl C) : DipC C := at_173 hk (dip_ok B (fn_173 hk))
theorem rowL (hk : C.K = KF C.w.params) (B : Gl C) : RowL C := at_178 hk (row_ok B (dipC hk B) (fn_178 hk))
theorem lawC (hk : C.K = KF C.w.params) (B : Gl C) : LawC C 157 where
  X := screen_cls hk
  pot := at_166 hk (pot_ok B (fn_166 hk))
  dip := dipC hk B
  screens := at_183 hk (screens_ok B (dipC hk B) (rowL hk B) (fn_183 hk))
  iso := at_190 hk (is_order_ok B (fn_190 hk))
  unl := at_195 hk (unlike_ok B (fn_195 hk))
  drawn := at_202 hk (drawn_ok B (screen_cls hk) (mg_of hk fun P => by kernel_rfl) (initM hk B) (writeM hk B) (fn_202 hk))
  upd := at_97 hk (update_ok B (stepsC hk B) (runsC hk B) (thenC hk B) (rowO hk B) (fn_97 hk))
  carry := at_154 hk (carry_ok B (screen_cls hk) (scrMs hk B) (fn_154 hk))
  told := at_114 hk (told_ok B (screen_cls hk) (fn_114 hk))
theorem law_call (hk : C.K = KF C.w.params) (B : Gl C) {l : Addr} {ns : List Int} (hl : LstAt C [] (.adr l) (ns.map .int)) (hn : ns.length < 1000) : CallM C 8 [] (.ref 207) [.adr l] fun t _ => t = .bool true :=
  call_body 14 (fn_207 hk) rfl fun L => law_ok B (lawC hk B) L 207 hl hn
theorem law_mg (hk : C.K = KF C.w.params) : C.mg "law" = some (.ref 207) := mg_of hk fun P => by kernel_rfl
end
end Mine

namespace Mine
noncomputable def etup (n : Nat) : Obj := ⟨.type "tuple", none, .seq #[] n, #[]⟩
noncomputable def efld : Obj := ⟨.none, none, .fields #[], #[]⟩
noncomputable def fnO (st : Stmt) (x : FX) : Obj := ⟨.type "function", none, .func (mkFd st x), #[]⟩
noncomputable def fnT (st : Stmt) (x : FX) : Obj := ⟨.none, none, .func { mkFd st x with globals := 0, pyModule := .none, code := .none }, #[]⟩
noncomputable def s13 : Obj := ⟨Value.type "code", none, Data.fields #[Value.str (Str.ofString "<module>") 182, Value.str (Str.ofString "<module>") 183, Value.str (Str.ofString "/claim/cut.py") 184, Value.int 1 0, Value.int 0 0, Value.int 0 0, Value.int 0 0, Value.int 0 0, Value.ref 11, Value.bool false, Value.int 181 0, Value.ref 12, Value.none, Value.none, Value.none, Value.none, Value.int 185 0, Value.int 1 0, Value.str (Str.ofString "/claim/cut.py") 186], #[]⟩
noncomputable def s14 : Obj := ⟨Value.type "frame", none, Data.plain, #[some (Value.ref 13), some (Value.ref 3), some (Value.ref 3), none, some (Value.str (Str.ofString "__main__") 164), none, some (Value.ref 0)]⟩
noncomputable def s15 : Obj := ⟨Value.type "tuple", none, Data.seq #[Value.int 32 187, Value.int 0 189], #[]⟩
noncomputable def s18 : Obj := ⟨Value.type "tuple", none, Data.seq #[Value.str (Str.ofString "old") 200, Value.str (Str.ofString "new") 201, Value.str (Str.ofString "place") 202], #[]⟩
noncomputable def s25 : Obj := ⟨Value.type "tuple", none, Data.seq #[Value.str (Str.ofString "old") 209, Value.str (Str.ofString "new") 210, Value.str (Str.ofString "place") 211], #[]⟩
noncomputable def s32 : Obj := ⟨Value.type "tuple", none, Data.seq #[Value.str (Str.ofString "row") 218, Value.str (Str.ofString "place") 219], #[]⟩
noncomputable def s39 : Obj := ⟨Value.type "tuple", none, Data.seq #[Value.str (Str.ofString "number") 226, Value.str (Str.ofString "old") 227, Value.str (Str.ofString "new") 228, Value.str (Str.ofString "begin") 229, Value.str (Str.ofString "end") 230, Value.str (Str.ofString "blank") 231, Value.str (Str.ofString "found") 232], #[]⟩
noncomputable def s46 : Obj := ⟨Value.type "tuple", none, Data.seq #[Value.str (Str.ofString "old") 239, Value.str (Str.ofString "new") 240, Value.str (Str.ofString "cost") 241, Value.str (Str.ofString "order") 242], #[]⟩
noncomputable def s53 : Obj := ⟨Value.type "tuple", none, Data.seq #[Value.str (Str.ofString "old") 249, Value.str (Str.ofString "new") 250, Value.str (Str.ofString "blank") 251, Value.str (Str.ofString "table") 252, Value.str (Str.ofString "gone") 253, Value.str (Str.ofString "made") 254], #[]⟩
noncomputable def s60 : Obj := ⟨Value.type "tuple", none, Data.seq #[Value.str (Str.ofString "table") 261, Value.str (Str.ofString "old") 262, Value.str (Str.ofString "new") 263, Value.str (Str.ofString "gone") 264, Value.str (Str.ofString "made") 265, Value.str (Str.ofString "blank") 266, Value.str (Str.ofString "choices") 267, Value.str (Str.ofString "found") 268, Value.str (Str.ofString "choice") 269], #[]⟩
noncomputable def s67 : Obj := ⟨Value.type "tuple", none, Data.seq #[Value.str (Str.ofString "old") 276, Value.str (Str.ofString "new") 277, Value.str (Str.ofString "table") 278, Value.str (Str.ofString "gone") 279, Value.str (Str.ofString "made") 280, Value.str (Str.ofString "found") 281, Value.str (Str.ofString "word") 282], #[]⟩
noncomputable def s74 : Obj := ⟨Value.type "tuple", none, Data.seq #[Value.str (Str.ofString "steps") 289, Value.str (Str.ofString "found") 290, Value.str (Str.ofString "number") 291, Value.str (Str.ofString "word") 292], #[]⟩
noncomputable def s81 : Obj := ⟨Value.type "tuple", none, Data.seq #[Value.str (Str.ofString "steps") 299, Value.str (Str.ofString "found") 300, Value.str (Str.ofString "number") 301, Value.str (Str.ofString "word") 302], #[]⟩
noncomputable def s88 : Obj := ⟨Value.type "tuple", none, Data.seq #[Value.str (Str.ofString "old") 309, Value.str (Str.ofString "steps") 310, Value.str (Str.ofString "width") 311, Value.str (Str.ofString "found") 312, Value.str (Str.ofString "at") 313, Value.str (Str.ofString "word") 314], #[]⟩
noncomputable def s99 : Obj := ⟨Value.type "builtin_function_or_method", none, Data.fields #[Value.builtin "type.__prepare__", Value.type "type"], #[]⟩
noncomputable def s100 (P : Params) : Obj := ⟨Value.type "dict", none, Data.dict #[{ hash := PyData.keyHash P (Str.ofString "__module__"), key := Value.str (Str.ofString "__module__") 333, val := Value.str (Str.ofString "emacs.terminal") 324 }, { hash := PyData.keyHash P (Str.ofString "__qualname__"), key := Value.str (Str.ofString "__qualname__") 335, val := Value.str (Str.ofString "Screen") 334 }, { hash := PyData.keyHash P (Str.ofString "__firstlineno__"), key := Value.str (Str.ofString "__firstlineno__") 337, val := Value.int 102 336 }, { hash := PyData.keyHash P (Str.ofString "__init__"), key := Value.str (Str.ofString "__init__") 343, val := Value.ref 109 }, { hash := PyData.keyHash P (Str.ofString "told"), key := Value.str (Str.ofString "told") 349, val := Value.ref 114 }, { hash := PyData.keyHash P (Str.ofString "blank_rows"), key := Value.str (Str.ofString "blank_rows") 355, val := Value.ref 119 }, { hash := PyData.keyHash P (Str.ofString "write"), key := Value.str (Str.ofString "write") 366, val := Value.ref 126 }, { hash := PyData.keyHash P (Str.ofString "clear"), key := Value.str (Str.ofString "clear") 375, val := Value.ref 133 }, { hash := PyData.keyHash P (Str.ofString "insert"), key := Value.str (Str.ofString "insert") 386, val := Value.ref 140 }, { hash := PyData.keyHash P (Str.ofString "delete"), key := Value.str (Str.ofString "delete") 397, val := Value.ref 147 }, { hash := PyData.keyHash P (Str.ofString "carry_out"), key := Value.str (Str.ofString "carry_out") 406, val := Value.ref 154 }, { hash := PyData.keyHash P (Str.ofString "__static_attributes__"), key := Value.str (Str.ofString "__static_attributes__") 411, val := Value.ref 155 }] 12, #[]⟩
noncomputable def s102 : Obj := ⟨Value.none, none, Data.fields #[Value.int 104 0, Value.int 4 0, Value.ref 108, Value.int 110 0, Value.int 4 0, Value.ref 113, Value.int 113 0, Value.int 4 0, Value.ref 118, Value.int 116 0, Value.int 4 0, Value.ref 125, Value.int 121 0, Value.int 4 0, Value.ref 132, Value.int 124 0, Value.int 4 0, Value.ref 139, Value.int 128 0, Value.int 4 0, Value.ref 146, Value.int 132 0, Value.int 4 0, Value.ref 153], #[]⟩
noncomputable def s103 : Obj := ⟨Value.type "code", none, Data.fields #[Value.str (Str.ofString "Screen") 328, Value.str (Str.ofString "Screen") 329, Value.str (Str.ofString "/claim/cut.py") 330, Value.int 102 0, Value.int 0 0, Value.int 0 0, Value.int 0 0, Value.int 0 0, Value.ref 101, Value.bool false, Value.int 181 0, Value.ref 102, Value.none, Value.none, Value.none, Value.none, Value.int 331 0, Value.int 102 0, Value.str (Str.ofString "/claim/cut.py") 332], #[]⟩
noncomputable def s104 : Obj := ⟨Value.type "frame", none, Data.plain, #[some (Value.ref 103), some (Value.ref 3), some (Value.ref 100), none, some (Value.str (Str.ofString "emacs.terminal") 324), none, some (Value.ref 0)]⟩
noncomputable def s122 : Obj := ⟨Value.type "tuple", none, Data.seq #[Value.str (Str.ofString "self") 359, Value.str (Str.ofString "row") 360, Value.str (Str.ofString "column") 361, Value.str (Str.ofString "cells") 362, Value.str (Str.ofString "own") 363], #[]⟩
noncomputable def s129 : Obj := ⟨Value.type "tuple", none, Data.seq #[Value.str (Str.ofString "self") 370, Value.str (Str.ofString "row") 371, Value.str (Str.ofString "column") 372], #[]⟩
noncomputable def s136 : Obj := ⟨Value.type "tuple", none, Data.seq #[Value.str (Str.ofString "self") 379, Value.str (Str.ofString "row") 380, Value.str (Str.ofString "many") 381, Value.str (Str.ofString "bottom") 382, Value.str (Str.ofString "kept") 383], #[]⟩
noncomputable def s143 : Obj := ⟨Value.type "tuple", none, Data.seq #[Value.str (Str.ofString "self") 390, Value.str (Str.ofString "row") 391, Value.str (Str.ofString "many") 392, Value.str (Str.ofString "bottom") 393, Value.str (Str.ofString "kept") 394], #[]⟩
noncomputable def s150 : Obj := ⟨Value.type "tuple", none, Data.seq #[Value.str (Str.ofString "self") 401, Value.str (Str.ofString "order") 402, Value.str (Str.ofString "word") 403], #[]⟩
noncomputable def s155 : Obj := ⟨Value.type "tuple", none, Data.seq #[Value.str (Str.ofString "cursor") 407, Value.str (Str.ofString "rows") 408, Value.str (Str.ofString "width") 409, Value.str (Str.ofString "written") 410], #[]⟩
noncomputable def s160 : Obj := ⟨Value.type "super", none, Data.fields #[Value.ref 157, Value.ref 157, Value.ref 157], #[]⟩
noncomputable def s161 : Obj := ⟨Value.type "builtin_function_or_method", none, Data.fields #[Value.builtin "object.__init_subclass__", Value.ref 157], #[]⟩
noncomputable def s169 : Obj := ⟨Value.type "tuple", none, Data.seq #[Value.str (Str.ofString "pot") 430, Value.str (Str.ofString "many") 431, Value.str (Str.ofString "at") 432], #[]⟩
noncomputable def s186 : Obj := ⟨Value.type "tuple", none, Data.seq #[Value.str (Str.ofString "order") 451, Value.str (Str.ofString "width") 452, Value.str (Str.ofString "height") 453], #[]⟩
noncomputable def s198 : Obj := ⟨Value.type "tuple", none, Data.seq #[Value.str (Str.ofString "lines_laid") 466, Value.str (Str.ofString "width") 467, Value.str (Str.ofString "height") 468, Value.str (Str.ofString "drawn_on") 469, Value.str (Str.ofString "number") 470, Value.str (Str.ofString "row") 471], #[]⟩
noncomputable def s3P (P : Params) : Obj := ⟨Value.type "dict", none, Data.dict #[{ hash := PyData.keyHash P (Str.ofString "__name__"), key := Value.str (Str.ofString "__name__") 165, val := Value.str (Str.ofString "__main__") 164 }, { hash := PyData.keyHash P (Str.ofString "__doc__"), key := Value.str (Str.ofString "__doc__") 166, val := Value.none }, { hash := PyData.keyHash P (Str.ofString "__package__"), key := Value.str (Str.ofString "__package__") 167, val := Value.none }, { hash := PyData.keyHash P (Str.ofString "__loader__"), key := Value.str (Str.ofString "__loader__") 168, val := Value.builtin "__main__.__loader__#opaque" }, { hash := PyData.keyHash P (Str.ofString "__spec__"), key := Value.str (Str.ofString "__spec__") 169, val := Value.none }, { hash := PyData.keyHash P (Str.ofString "__annotations__"), key := Value.str (Str.ofString "__annotations__") 170, val := Value.ref 6 }, { hash := PyData.keyHash P (Str.ofString "__builtins__"), key := Value.str (Str.ofString "__builtins__") 171, val := Value.ref 4 }, { hash := PyData.keyHash P (Str.ofString "__file__"), key := Value.str (Str.ofString "__file__") 173, val := Value.str (Str.ofString "/claim/cut.py") 172 }, { hash := PyData.keyHash P (Str.ofString "__cached__"), key := Value.str (Str.ofString "__cached__") 174, val := Value.none }] 9, #[]⟩
noncomputable def s12P : Obj := ⟨Value.none, none, Data.fields #[], #[]⟩
noncomputable def s3A (P : Params) : Obj := ⟨Value.type "dict", none, Data.dict #[{ hash := PyData.keyHash P (Str.ofString "__name__"), key := Value.str (Str.ofString "__name__") 165, val := Value.str (Str.ofString "emacs.terminal") 324 }, { hash := PyData.keyHash P (Str.ofString "__doc__"), key := Value.str (Str.ofString "__doc__") 166, val := Value.none }, { hash := PyData.keyHash P (Str.ofString "__package__"), key := Value.str (Str.ofString "__package__") 167, val := Value.none }, { hash := PyData.keyHash P (Str.ofString "__loader__"), key := Value.str (Str.ofString "__loader__") 168, val := Value.builtin "__main__.__loader__#opaque" }, { hash := PyData.keyHash P (Str.ofString "__spec__"), key := Value.str (Str.ofString "__spec__") 169, val := Value.none }, { hash := PyData.keyHash P (Str.ofString "__annotations__"), key := Value.str (Str.ofString "__annotations__") 170, val := Value.ref 6 }, { hash := PyData.keyHash P (Str.ofString "__builtins__"), key := Value.str (Str.ofString "__builtins__") 171, val := Value.ref 4 }, { hash := PyData.keyHash P (Str.ofString "__file__"), key := Value.str (Str.ofString "__file__") 173, val := Value.str (Str.ofString "/claim/cut.py") 172 }, { hash := PyData.keyHash P (Str.ofString "__cached__"), key := Value.str (Str.ofString "__cached__") 174, val := Value.none }, { hash := PyData.keyHash P (Str.ofString "BLANK"), key := Value.str (Str.ofString "BLANK") 188, val := Value.int 32 187 }, { hash := PyData.keyHash P (Str.ofString "EMPTY_CELL"), key := Value.str (Str.ofString "EMPTY_CELL") 190, val := Value.ref 15 }, { hash := PyData.keyHash P (Str.ofString "MOVE_COST"), key := Value.str (Str.ofString "MOVE_COST") 194, val := Value.int 4 193 }, { hash := PyData.keyHash P (Str.ofString "CLEAR_COST"), key := Value.str (Str.ofString "CLEAR_COST") 196, val := Value.int 2 195 }, { hash := PyData.keyHash P (Str.ofString "last_unlike"), key := Value.str (Str.ofString "last_unlike") 205, val := Value.ref 22 }, { hash := PyData.keyHash P (Str.ofString "first_unlike"), key := Value.str (Str.ofString "first_unlike") 214, val := Value.ref 29 }, { hash := PyData.keyHash P (Str.ofString "text_end"), key := Value.str (Str.ofString "text_end") 222, val := Value.ref 36 }, { hash := PyData.keyHash P (Str.ofString "row_orders"), key := Value.str (Str.ofString "row_orders") 235, val := Value.ref 43 }, { hash := PyData.keyHash P (Str.ofString "row_cost"), key := Value.str (Str.ofString "row_cost") 245, val := Value.ref 50 }, { hash := PyData.keyHash P (Str.ofString "cost_table"), key := Value.str (Str.ofString "cost_table") 257, val := Value.ref 57 }, { hash := PyData.keyHash P (Str.ofString "best_step"), key := Value.str (Str.ofString "best_step") 272, val := Value.ref 64 }, { hash := PyData.keyHash P (Str.ofString "steps_of"), key := Value.str (Str.ofString "steps_of") 285, val := Value.ref 71 }, { hash := PyData.keyHash P (Str.ofString "dropped_runs"), key := Value.str (Str.ofString "dropped_runs") 295, val := Value.ref 78 }, { hash := PyData.keyHash P (Str.ofString "added_runs"), key := Value.str (Str.ofString "added_runs") 305, val := Value.ref 85 }, { hash := PyData.keyHash P (Str.ofString "rows_then"), key := Value.str (Str.ofString "rows_then") 317, val := Value.ref 92 }, { hash := PyData.keyHash P (Str.ofString "update_orders"), key := Value.str (Str.ofString "update_orders") 323, val := Value.ref 97 }] 25, #[]⟩
noncomputable def s12A : Obj := ⟨Value.none, none, Data.fields #[Value.int 6 0, Value.int 0 0, Value.ref 21, Value.int 11 0, Value.int 0 0, Value.ref 28, Value.int 16 0, Value.int 0 0, Value.ref 35, Value.int 21 0, Value.int 0 0, Value.ref 42, Value.int 30 0, Value.int 0 0, Value.ref 49, Value.int 35 0, Value.int 0 0, Value.ref 56, Value.int 43 0, Value.int 0 0, Value.ref 63, Value.int 56 0, Value.int 0 0, Value.ref 70, Value.int 64 0, Value.int 0 0, Value.ref 77, Value.int 74 0, Value.int 0 0, Value.ref 84, Value.int 84 0, Value.int 0 0, Value.ref 91, Value.int 93 0, Value.int 0 0, Value.ref 96], #[]⟩
noncomputable def s3B (P : Params) : Obj := ⟨Value.type "dict", none, Data.dict #[{ hash := PyData.keyHash P (Str.ofString "__name__"), key := Value.str (Str.ofString "__name__") 165, val := Value.str (Str.ofString "emacs.terminal") 324 }, { hash := PyData.keyHash P (Str.ofString "__doc__"), key := Value.str (Str.ofString "__doc__") 166, val := Value.none }, { hash := PyData.keyHash P (Str.ofString "__package__"), key := Value.str (Str.ofString "__package__") 167, val := Value.none }, { hash := PyData.keyHash P (Str.ofString "__loader__"), key := Value.str (Str.ofString "__loader__") 168, val := Value.builtin "__main__.__loader__#opaque" }, { hash := PyData.keyHash P (Str.ofString "__spec__"), key := Value.str (Str.ofString "__spec__") 169, val := Value.none }, { hash := PyData.keyHash P (Str.ofString "__annotations__"), key := Value.str (Str.ofString "__annotations__") 170, val := Value.ref 6 }, { hash := PyData.keyHash P (Str.ofString "__builtins__"), key := Value.str (Str.ofString "__builtins__") 171, val := Value.ref 4 }, { hash := PyData.keyHash P (Str.ofString "__file__"), key := Value.str (Str.ofString "__file__") 173, val := Value.str (Str.ofString "/claim/cut.py") 172 }, { hash := PyData.keyHash P (Str.ofString "__cached__"), key := Value.str (Str.ofString "__cached__") 174, val := Value.none }, { hash := PyData.keyHash P (Str.ofString "BLANK"), key := Value.str (Str.ofString "BLANK") 188, val := Value.int 32 187 }, { hash := PyData.keyHash P (Str.ofString "EMPTY_CELL"), key := Value.str (Str.ofString "EMPTY_CELL") 190, val := Value.ref 15 }, { hash := PyData.keyHash P (Str.ofString "MOVE_COST"), key := Value.str (Str.ofString "MOVE_COST") 194, val := Value.int 4 193 }, { hash := PyData.keyHash P (Str.ofString "CLEAR_COST"), key := Value.str (Str.ofString "CLEAR_COST") 196, val := Value.int 2 195 }, { hash := PyData.keyHash P (Str.ofString "last_unlike"), key := Value.str (Str.ofString "last_unlike") 205, val := Value.ref 22 }, { hash := PyData.keyHash P (Str.ofString "first_unlike"), key := Value.str (Str.ofString "first_unlike") 214, val := Value.ref 29 }, { hash := PyData.keyHash P (Str.ofString "text_end"), key := Value.str (Str.ofString "text_end") 222, val := Value.ref 36 }, { hash := PyData.keyHash P (Str.ofString "row_orders"), key := Value.str (Str.ofString "row_orders") 235, val := Value.ref 43 }, { hash := PyData.keyHash P (Str.ofString "row_cost"), key := Value.str (Str.ofString "row_cost") 245, val := Value.ref 50 }, { hash := PyData.keyHash P (Str.ofString "cost_table"), key := Value.str (Str.ofString "cost_table") 257, val := Value.ref 57 }, { hash := PyData.keyHash P (Str.ofString "best_step"), key := Value.str (Str.ofString "best_step") 272, val := Value.ref 64 }, { hash := PyData.keyHash P (Str.ofString "steps_of"), key := Value.str (Str.ofString "steps_of") 285, val := Value.ref 71 }, { hash := PyData.keyHash P (Str.ofString "dropped_runs"), key := Value.str (Str.ofString "dropped_runs") 295, val := Value.ref 78 }, { hash := PyData.keyHash P (Str.ofString "added_runs"), key := Value.str (Str.ofString "added_runs") 305, val := Value.ref 85 }, { hash := PyData.keyHash P (Str.ofString "rows_then"), key := Value.str (Str.ofString "rows_then") 317, val := Value.ref 92 }, { hash := PyData.keyHash P (Str.ofString "update_orders"), key := Value.str (Str.ofString "update_orders") 323, val := Value.ref 97 }, { hash := PyData.keyHash P (Str.ofString "Screen"), key := Value.str (Str.ofString "Screen") 418, val := Value.ref 157 }] 26, #[]⟩
noncomputable def s12B : Obj := ⟨Value.none, none, Data.fields #[Value.int 6 0, Value.int 0 0, Value.ref 21, Value.int 11 0, Value.int 0 0, Value.ref 28, Value.int 16 0, Value.int 0 0, Value.ref 35, Value.int 21 0, Value.int 0 0, Value.ref 42, Value.int 30 0, Value.int 0 0, Value.ref 49, Value.int 35 0, Value.int 0 0, Value.ref 56, Value.int 43 0, Value.int 0 0, Value.ref 63, Value.int 56 0, Value.int 0 0, Value.ref 70, Value.int 64 0, Value.int 0 0, Value.ref 77, Value.int 74 0, Value.int 0 0, Value.ref 84, Value.int 84 0, Value.int 0 0, Value.ref 91, Value.int 93 0, Value.int 0 0, Value.ref 96, Value.int 102 0, Value.int 0 0, Value.ref 103], #[]⟩
noncomputable def hP (P : Params) : Heap := { objs := ⟨[boot_o_0 P, boot_o_1 P, boot_o_2 P, s3P P, boot_o_4 P, boot_o_5 P, boot_o_6 P, boot_o_7 P, boot_o_8 P, boot_o_9 P, boot_o_10 P, etup 0, s12P, s13, s14]⟩ }
noncomputable def hA (P : Params) : Heap := { objs := ⟨[boot_o_0 P, boot_o_1 P, boot_o_2 P, s3A P, boot_o_4 P, boot_o_5 P, boot_o_6 P, boot_o_7 P, boot_o_8 P, boot_o_9 P, boot_o_10 P, etup 0, s12A, s13, s14, s15, etup 0, efld, s18, etup 0, fnT (topS 5) x22, c21, fnO (topS 5) x22, etup 0, efld, s25, etup 0, fnT (topS 6) x29, c28, fnO (topS 6) x29, etup 0, efld, s32, etup 0, fnT (topS 7) x36, c35, fnO (topS 7) x36, etup 0, efld, s39, etup 0, fnT (topS 8) x43, c42, fnO (topS 8) x43, etup 0, efld, s46, etup 0, fnT (topS 9) x50, c49, fnO (topS 9) x50, etup 0, efld, s53, etup 0, fnT (topS 10) x57, c56, fnO (topS 10) x57, etup 0, efld, s60, etup 0, fnT (topS 11) x64, c63, fnO (topS 11) x64, etup 0, efld, s67, etup 0, fnT (topS 12) x71, c70, fnO (topS 12) x71, etup 0, efld, s74, etup 0, fnT (topS 13) x78, c77, fnO (topS 13) x78, etup 0, efld, s81, etup 0, fnT (topS 14) x85, c84, fnO (topS 14) x85, etup 0, efld, s88, etup 0, fnT (topS 15) x92, c91, fnO (topS 15) x92, etup 0, efld, fnT (topS 16) x97, c96, fnO (topS 16) x97]⟩ }
noncomputable def hB (P : Params) : Heap := { objs := ⟨[boot_o_0 P, boot_o_1 P, boot_o_2 P, s3B P, boot_o_4 P, boot_o_5 P, boot_o_6 P, boot_o_7 P, boot_o_8 P, boot_o_9 P, boot_o_10 P, etup 0, s12B, s13, s14, s15, etup 0, efld, s18, etup 0, fnT (topS 5) x22, c21, fnO (topS 5) x22, etup 0, efld, s25, etup 0, fnT (topS 6) x29, c28, fnO (topS 6) x29, etup 0, efld, s32, etup 0, fnT (topS 7) x36, c35, fnO (topS 7) x36, etup 0, efld, s39, etup 0, fnT (topS 8) x43, c42, fnO (topS 8) x43, etup 0, efld, s46, etup 0, fnT (topS 9) x50, c49, fnO (topS 9) x50, etup 0, efld, s53, etup 0, fnT (topS 10) x57, c56, fnO (topS 10) x57, etup 0, efld, s60, etup 0, fnT (topS 11) x64, c63, fnO (topS 11) x64, etup 0, efld, s67, etup 0, fnT (topS 12) x71, c70, fnO (topS 12) x71, etup 0, efld, s74, etup 0, fnT (topS 13) x78, c77, fnO (topS 13) x78, etup 0, efld, s81, etup 0, fnT (topS 14) x85, c84, fnO (topS 14) x85, etup 0, efld, s88, etup 0, fnT (topS 15) x92, c91, fnO (topS 15) x92, etup 0, efld, fnT (topS 16) x97, c96, fnO (topS 16) x97, etup 0, s99, s100 P, etup 0, s102, s103, s104, etup 0, efld, fnT (mS 0) x109, c108, fnO (mS 0) x109, etup 0, efld, fnT (mS 1) x114, c113, fnO (mS 1) x114, etup 0, efld, fnT (mS 2) x119, c118, fnO (mS 2) x119, etup 0, efld, s122, etup 0, fnT (mS 3) x126, c125, fnO (mS 3) x126, etup 0, efld, s129, etup 0, fnT (mS 4) x133, c132, fnO (mS 4) x133, etup 0, efld, s136, etup 0, fnT (mS 5) x140, c139, fnO (mS 5) x140, etup 0, efld, s143, etup 0, fnT (mS 6) x147, c146, fnO (mS 6) x147, etup 0, efld, s150, etup 0, fnT (mS 7) x154, c153, fnO (mS 7) x154, s155, d156 P, o157, o158, o159, s160, s161]⟩ }
end Mine

namespace Mine
noncomputable abbrev prg : Program := PySem.Challenge.pw_np0032_01

noncomputable def view : Program := { PySem.Challenge.pw_np0032_01 with main := { PySem.Challenge.pw_np0032_01.main with body := [topS 27] } }
noncomputable abbrev lo : List Str := ["BLANK", "EMPTY_CELL", "MOVE_COST", "CLEAR_COST", "last_unlike", "first_unlike", "text_end", "row_orders", "row_cost", "cost_table", "best_step", "steps_of", "dropped_runs", "added_runs", "rows_then", "update_orders", "Screen", "_law_pot", "_law_dip", "_law_row", "_law_screens", "_law_is_order", "_law_unlike", "_law_drawn"]
noncomputable def hook : Hook := kHook KF KA (fun _ => by kernel_rfl)
noncomputable abbrev xt : Shared → Bool := fun s => xlAt view [] s && recOk PySem.Challenge.rw_np0032_01.row.records s
/-! the top's run in three parts -/
noncomputable def tenv : Env := { scope := prg.main.scope, locals := mainNs, globals := mainNs, cells := [], code := .ref 13, frame := some 14 }
noncomputable def tl1 : List Stmt := [topS 0, topS 1, topS 2, topS 3, topS 4, topS 5, topS 6, topS 7, topS 8, topS 9, topS 10, topS 11, topS 12, topS 13, topS 14, topS 15, topS 16, topS 17]
noncomputable def tl2 : List Stmt := [topS 18]
noncomputable def tl3 : List Stmt := [topS 19, topS 20, topS 21, topS 22, topS 23, topS 24, topS 25, topS 26, topS 27]
noncomputable def tcode : Code := .body (tl1 ++ (tl2 ++ tl3)) tenv
noncomputable def fq : Pos := ⟨0, 0, 0, 0⟩
noncomputable def stO (h : Heap) (k : Nat) (os : OsState) : Shared := ⟨h, Array.mk [], boot_drawn, k, os⟩
theorem op1 : opening prg = plainProg prg.main.scope.names := by kernel_rfl
theorem op2 : ∀ s, fenceModules? prg s = some s := fun s => by kernel_rfl
theorem op3 (w : World) : ((boot_heap w.params).isNs mainGlobals && (Array.mk [] : Array GenState).size == 0, (boot_heap w.params).objs.size, (boot_heap w.params).nsMap mainGlobals "__annotations__") = (true, 11, some (.ref 6)) := by kernel_rfl
theorem run0 (w : World) (os : OsState) : topGo treeTable prg w 11 (some (.ref 6)) 12 (stO (boot_heap w.params) boot_toks os) (topStub prg) = some (stO (hP w.params) 187 os, ⟨denote treeTable tcode, tcode, fq, [topFrame fq]⟩) := by kernel_rfl
theorem runB (w : World) (os : OsState) : segRun treeTable prg w 11 (some (.ref 6)) 1 1 (stO (hP w.params) 187 os) (blockOf (tl1 ++ (tl2 ++ tl3)) tenv tcode fq [topFrame fq]) = some (.next, stO (hP w.params) 187 os, tcode, fq) := by kernel_rfl
theorem run1 (w : World) (os : OsState) : segRun treeTable prg w 11 (some (.ref 6)) 1 700 (stO (hP w.params) 187 os) (piecesOf tl1 tenv tcode fq [topFrame fq]) = some (.next, stO (hA w.params) 326 os, tcode, ⟨101, 0, 101, 8⟩) := by kernel_rfl
theorem run2 (w : World) (os : OsState) : segRun treeTable prg w 11 (some (.ref 6)) 1 700 (stO (hA w.params) 326 os) (piecesOf tl2 tenv tcode ⟨101, 0, 101, 8⟩ [topFrame fq]) = some (.next, stO (hB w.params) 419 os, tcode, ⟨102, 0, 143, 46⟩) := by kernel_rfl
theorem run3 (w : World) (os : OsState) : (topRun treeTable prg w 11 (some (.ref 6)) 700 (stO (hB w.params) 419 os) (restOf tl3 tenv tcode ⟨102, 0, 143, 46⟩ [topFrame fq])).bind (fun s₁ => match staticsOk (importedModules prg.main.body) (boot_heap w.params) s₁.heap && namesBound prg s₁.heap && gensDone s₁ && laidKept (boot_heap w.params) s₁.heap with
      | true => some (openSeen view lo (importedModules prg.main.body) xt true s₁, hook.obs s₁)
      | false => none) = some (openGood view lo, hook.val w) := by kernel_rfl
end Mine

namespace Mine
section
variable {tb : String → Option Builtin} {p : Program} {w : World} {n₀ : Nat} {ann : Option Value} {env : Env} {q : Pos}
/-- a run of the top in parts, and what is asked of its end -/
theorem run_comp {β : Type} {s s1 s2 sA sB : Shared} {t : Thread} {l1 l2 l3 : List Stmt} {c : Code} {p1 p2 pA pB : Pos} {n0 nb n1 n2 n3 : Nat} {f : Shared → Option β} {x : β}
    (h0 : topGo tb p w n₀ ann n0 s t = some (s1, ⟨denote tb (.body (l1 ++ (l2 ++ l3)) env), c, p1, [topFrame q]⟩))
    (hb : segRun tb p w n₀ ann 1 nb s1 (blockOf (l1 ++ (l2 ++ l3)) env c p1 [topFrame q]) = some (.next, s2, c, p2))
    (h1 : segRun tb p w n₀ ann 1 n1 s2 (piecesOf l1 env c p2 [topFrame q]) = some (.next, sA, c, pA))
    (h2 : segRun tb p w n₀ ann 1 n2 sA (piecesOf l2 env c pA [topFrame q]) = some (.next, sB, c, pB))
    (h3 : (topRun tb p w n₀ ann n3 sB (restOf l3 env c pB [topFrame q])).bind f = some x) (k : Nat) :
    (topRun tb p w n₀ ann (n0 + (nb + (n1 + (n2 + n3))) + k) s t).bind f = some x := by
  obtain ⟨r, hr, hm⟩ := Option.bind_eq_some_iff.mp h3
  have k0 := topRun_mono k _ _ _ _ (go_top h0 (piece_block hb (piece_app h1 (piece_app h2 hr))))
  rw [k0]
  exact hm
end
/-- the head, from a run of the top whose end is not written out -/
theorem left_of {p q : Program} {loose : List Str} {Xt : Shared → Bool} {α : Type} {Yf : Shared → α} {Ya : World → α} {N : Nat} {H₀ : Params → Heap} {gs₀ : Array GenState} {d₀ : Drawn} {k₀ m₀ : Nat} {ann : Option Value}
    (open_ : ∀ w : World, (fencedOpening treeTable p w N).map (fun s => (s.heap, s.gens, s.drawn, s.toks)) = some (H₀ w.params, gs₀, d₀, k₀))
    (size : ∀ w : World, ((H₀ w.params).isNs mainGlobals && gs₀.size == 0, (H₀ w.params).objs.size, (H₀ w.params).nsMap mainGlobals "__annotations__") = (true, m₀, ann))
    (run : ∀ (w : World) (os : OsState), (topRun treeTable p w m₀ ann N ⟨H₀ w.params, gs₀, d₀, k₀, os⟩ (topStub p)).bind (fun s₁ => match staticsOk (importedModules p.main.body) (H₀ w.params) s₁.heap && namesBound p s₁.heap && gensDone s₁ && laidKept (H₀ w.params) s₁.heap with
      | true => some (openSeen q loose (importedModules p.main.body) Xt true s₁, Yf s₁)
      | false => none) = some (openGood q loose, Ya w)) : LeftO p q loose Xt Yf Ya N := fun w => by
  obtain ⟨⟨h, gs, d, k, os⟩, e, e'⟩ := Option.map_eq_some_iff.mp (open_ w)
  obtain ⟨rfl, rfl, rfl, rfl⟩ : h = H₀ w.params ∧ gs = gs₀ ∧ d = d₀ ∧ k = k₀ := by simpa using e'
  obtain ⟨z1, z2, z3⟩ : _ ∧ _ ∧ _ := by simpa only [Prod.mk.injEq] using size w
  obtain ⟨r, hr, hm⟩ := Option.bind_eq_some_iff.mp (run w os)
  have l1 : (staticsOk (importedModules p.main.body) (H₀ w.params) r.heap && namesBound p r.heap && gensDone r && laidKept (H₀ w.params) r.heap) = true := by
    revert hm
    cases (staticsOk (importedModules p.main.body) (H₀ w.params) r.heap && namesBound p r.heap && gensDone r && laidKept (H₀ w.params) r.heap) with
    | true => intro _; rfl
    | false => intro h; cases h
  rw [l1] at hm
  have t : topFrom treeTable p w N ⟨H₀ w.params, gs, d, k, os⟩ = some r := by
    unfold topFrom
    dsimp only
    rw [z1, z2, z3, hr]
    show (match staticsOk (importedModules p.main.body) (H₀ w.params) r.heap && namesBound p r.heap && gensDone r && laidKept (H₀ w.params) r.heap with | true => _ | false => _) = _
    rw [l1]
  unfold openEnds
  rw [e]
  show (topFrom treeTable p w N _).map _ = _
  rw [t]
  exact hm
theorem left0 : LeftO prg view lo xt hook.obs hook.val (12 + (1 + (700 + (700 + 700))) + 273) :=
  left_of (boot_open op1 rfl op2) op3 fun w os => run_comp (run0 w os) (runB w os) (run1 w os) (run2 w os) (run3 w os) 273
end Mine

namespace Mine
theorem reps_ints {P : PM} : ∀ {vs : List Value} {ns : List Int}, IntsAre vs ns → Reps P vs (ns.map .int) := by
  intro vs ns h
  induction h with
  | nil => exact .nil
  | cons _ _ _ ih => exact .cons .int ih
theorem law_end {w : World} {s₁ : Shared} {mg mb : Str → Option Value} {loose : List Str} {mean : ExcName → Option Value} (KX : (KF w.params).In s₁.heap) (T : Top view loose mean mg mb s₁.heap) {fa l : Addr} (hf : mg "law" = some (.ref fa)) {vs : List Value} {ns : List Int} (hl : s₁.heap.IsList l vs.toArray) (hi : IntsAre vs ns) (hn : ns.length < 1000)
    {Q : Value → Shared → Prop} {E : Value → Shared → Prop} (h : ∀ h' tk, (∀ b o, s₁.heap.get? b = some o → h'.get? b = some o) → Q (.bool true) { s₁ with heap := h', toks := tk }) :
    wpAny (model PySem.Challenge.pw_np0032_01 w) callerA (call (.ref fa) [.ref l]) Q E s₁ := by
  let C : Cfg := ⟨PySem.Challenge.pw_np0032_01, w, KF w.params, s₁.heap, mg, mb, KX, T.g, T.b, T.nolimit⟩
  have hk : C.K = KF C.w.params := rfl
  have B : Gl C := gl_of hk T.builtins
  have e1 : some (Value.ref fa) = some (.ref 207) := hf.symm.trans (law_mg hk)
  have e2 : fa = 207 := Value.ref.inj (Option.some.inj e1)
  subst e2
  have LA : LstAt C [] (.adr l) (ns.map .int) := .top hl (reps_ints hi)
  refine wpAny_mono ((law_call hk B LA hn).wp callerA (fun b => s₁.heap.get? b) s₁ [.ref l] Q ⟨rfl, by decide +kernel, by decide +kernel⟩ ⟨fun _ _ e => e, fun _ _ e => e⟩ .nil (.cons .adr .nil) ?_) (fun _ _ q => q) fun _ _ e => e.elim
  rintro v P' h' tk t μ' rfl ws _ _ r
  cases r
  exact h h' tk fun b o e => ws.keep b o (fun q => nomatch q) e
end Mine

namespace Mine
theorem said_l : looksOpen PySem.Challenge.rw_np0032_01.row.prog = true := by
  delta looksOpen
  refine look_both (look_both (look_both (look_both (look_both ?_ ?_) ?_) ?_) ?_) ?_
  all_goals decide +kernel
theorem said_p : PySem.Challenge.rw_np0032_01.row.partSaid = true := by
  delta OpenRow.partSaid
  iterate 13 (refine look_both ?_ (by decide +kernel))
  exact said_l
theorem said_o : PySem.Challenge.rw_np0032_01.wellSaid = true := by
  delta OpenLaw.wellSaid
  iterate 18 (refine look_both ?_ (by decide +kernel))
  delta OpenRow.wellSaid
  exact look_both (look_both said_p (by decide +kernel)) (by decide +kernel)
end Mine

set_option maxHeartbeats 4000000
theorem PySem.Challenge.cw_np0032_01_holds : PySem.Challenge.rw_np0032_01.Holds := by
  w_on
  refine holds_law Mine.said_o fun said => ?_
  refine holds_open (r := PySem.Challenge.rw_np0032_01.row) (q := Mine.view) (loose := Mine.lo) (Xt := Mine.xt) (XP := XL Mine.view []) (Yf := Hook.obs Mine.hook) (Ya := Hook.val Mine.hook) (YP := Hook.says Mine.hook) Mine.left0 (Hook.of Mine.hook) (Hook.keeps Mine.hook) (fun s e => xl_of s (Bool.and_eq_true_iff.mp e).1) XL.keeps (by rfl) (by rfl) (by rfl) (fun s e => recFacts_of (Bool.and_eq_true_iff.mp e).2) (by rfl) said (by decide +kernel) ⟨rfl, rfl, rfl, rfl, rfl, by decide +kernel⟩ ?hw ?hc
  case hw => w_witness2
  case hc =>
    intro w s₀ s₁ mg mb G Y fa o pm cd doc dV kV ho hd hcd hD hmg hg args vals as hpre hlay hrd hwl hlo
    have KX : (Mine.KF w.params).In s₁.heap := kIn_of (K := Mine.KF) (as := Mine.KA) Y
    have hf : mg "law" = some (.ref fa) := hmg
    have TT := G.T
    clear hD hd ho hcd hmg Y G
    wrow_args hpre hlay hrd hwl hlo
    all_goals
      rename Heap.IsList _ _ _ => hL
      rename IntsAre _ _ => hI
      rename ¬ (_ < _) => hc
      refine Mine.law_end KX TT hf hL hI (by omega) fun h' tk kp => ?_
      refine GoodW.toG ⟨.inl ⟨_, _, [], rfl, ?_, .bool true, ?_, unshared_nil⟩, kp, rfl, hg⟩
      · intro cls; rfl
      · wrow_post
