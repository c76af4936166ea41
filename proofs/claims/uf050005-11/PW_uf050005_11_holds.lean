import PyProof.Rows.All
import Wide.All
import Open.Pieces
import Wide.FinOn
import PyProof.CompObj
import PyProof.Rows.TupIn
import PyProof.PureInt
import PyProof.Cells
import PyProof.CompFree
import PyProof.RangeFor
import PyProof.TupleKey
import PyProof.DictKinds
import PyProof.Rows.StrTemp
import PyProof.Rows.Chain
import PyProof.Rows.Nodes
import PyProof.Rows.Globals
import PyProof.Rows.RuleB_mul
import PyProof.Rows.RuleB_mod
import PyProof.Rows.RuleB_floordiv
import PyProof.Rows.RuleB_pow
import PyProof.AutoIntOps
import PyProof.P3In
import PyProof.EqLayable
import PyProof.IsiPairs
import PyProof.IsiHeapPairs
import PyProof.IsRules
import PyProof.ListCopy
import PyProof.TupleOfSeq
import PyProof.TupleCall
import PyProof.Rows.News
import PyProof.Rows.TupReads
import PyProof.Rows.IntRules
import PyProof.Rows.RuleC_int
import PyProof.ForAny
import PyProof.EnumFor
import PyProof.EnumMake
import PyProof.EnumStmt
import PyProof.TupleIter
import PyProof.Dict
import PyProof.Rows.TupAssign
import PyProof.StrBlock
import PyProof.WalksMore
import PyProof.Rows.SeqMore
import PyProof.FactsAll.list_4
import PyProof.FactsAll.list_3
import PyProof.Rows.TupAdd
import KE.KDictList
import PyProof.DictStraight
import PyProof.Rows.SortWalk
import PyProof.ListIndex
import PyProof.IsiNone
import PyProof.NeKinds
import PyProof.EqKinds
import KE.LcSums
import PyProof.WalkInts
import PyProof.MeetsSeq
import PyProof.Rows.SortRev
import PyProof.ListTruth
import PyProof.ListRange
import PyProof.SeqI3
import PyProof.DictRoadsH
import PyProof.Rows.TupTab
import KE.KRevIter
import PyProof.Conv_int_bool
import Open.FastLooks
import PySem.Challenge.RW_uf050005_11
set_option Elab.async false
set_option linter.all false
namespace Mine
open PySem PySem.Calls PyProof.Rows

/-! abstract values -/
inductive MV where
  | none
  | bool (b : Bool)
  | int (i : Int)
  | str (s : Str)
  | tup (l : List MV)
  | ref (a : Addr)
  | fl (l : List Int)
  | rng (a b : Int)
  | raw (v : Value)

mutual
def VR (b h : Heap) : MV → Value → Prop
  | .none, v => v = .none
  | .bool x, v => v = .bool x
  | .int i, v => ∃ t, v = .int i t
  | .str x, v => ∃ t, v = .str x t
  | .ref a, v => v = .ref a
  | .raw u, v => v = u
  | .fl ns, v => ∃ a vs, v = .ref a ∧ b.IsList a vs.toArray ∧ IntsAre vs ns
  | .rng lo hi, v => ∃ r t u w, v = .ref r ∧ IsRange h r lo hi 1 t u w
  | .tup xs, v => ∃ a vs, v = .ref a ∧ h.IsTuple a vs.toArray ∧ VRs b h xs vs
def VRs (b h : Heap) : List MV → List Value → Prop
  | [], vs => vs = []
  | x :: xs, vs => ∃ v r, vs = v :: r ∧ VR b h x v ∧ VRs b h xs r
end

def Imm (o : Obj) : Prop := (o.cls = .type "tuple" ∧ ∃ items n, o.data = .seq items n) ∨ (o.cls = .type "range" ∧ ∃ vs, o.data = .fields vs)
def TupKeep (h h' : Heap) : Prop := ∀ a o, h.get? a = some o → Imm o → h'.get? a = some o
theorem TupKeep.trans {h h' h'' : Heap} (p : TupKeep h h') (q : TupKeep h' h'') : TupKeep h h'' := fun a o e c => q a o (p a o e c) c
theorem TupKeep.of_keeps {h h' : Heap} (p : ∀ b o, h.get? b = some o → h'.get? b = some o) : TupKeep h h' := fun a o e _ => p a o e

mutual
theorem VR.keep {b h h' : Heap} (k : TupKeep h h') : ∀ (x : MV) {v : Value}, VR b h x v → VR b h' x v
  | .none, _, r => r
  | .bool _, _, r => r
  | .int _, _, r => r
  | .str _, _, r => r
  | .ref _, _, r => r
  | .raw _, _, r => r
  | .fl _, _, r => r
  | .rng _ _, v, r => by
    unfold VR at r ⊢
    obtain ⟨a, t, u, w, rfl, e⟩ := r
    exact ⟨a, t, u, w, rfl, k _ _ e (.inr ⟨rfl, _, rfl⟩)⟩
  | .tup xs, v, r => by
    unfold VR at r ⊢
    obtain ⟨a, vs, rfl, ⟨o, ho, hc, n, hd⟩, hr⟩ := r
    exact ⟨a, vs, rfl, ⟨o, k a o ho (.inl ⟨hc, _, n, hd⟩), hc, n, hd⟩, VRs.keep k xs hr⟩
theorem VRs.keep {b h h' : Heap} (k : TupKeep h h') : ∀ (xs : List MV) {vs : List Value}, VRs b h xs vs → VRs b h' xs vs
  | [], _, r => r
  | x :: xs, vs, r => by
    unfold VRs at r ⊢
    obtain ⟨v, t, rfl, h1, h2⟩ := r
    exact ⟨v, t, rfl, VR.keep k x h1, VRs.keep k xs h2⟩
end

theorem VRs.length {b h : Heap} : ∀ {xs : List MV} {vs : List Value}, VRs b h xs vs → vs.length = xs.length
  | [], _, r => by unfold VRs at r; rw [r]; rfl
  | x :: xs, _, r => by
    unfold VRs at r
    obtain ⟨v, t, rfl, h1, h2⟩ := r
    rw [List.length_cons, List.length_cons, VRs.length h2]
theorem VRs.get {b h : Heap} : ∀ {xs : List MV} {vs : List Value}, VRs b h xs vs → ∀ {i : Nat} {x : MV}, xs[i]? = some x → ∃ v, vs[i]? = some v ∧ VR b h x v
  | [], _, _, i, x, e => by simp at e
  | y :: xs, _, r, i, x, e => by
    unfold VRs at r
    obtain ⟨v, t, rfl, h1, h2⟩ := r
    cases i with
    | zero => simp at e; subst e; exact ⟨v, rfl, h1⟩
    | succ i => simp at e; obtain ⟨u, hu, hv⟩ := VRs.get h2 e; exact ⟨u, by simpa using hu, hv⟩
theorem VRs.append {b h : Heap} : ∀ {xs : List MV} {vs : List Value} {ys : List MV} {us : List Value}, VRs b h xs vs → VRs b h ys us → VRs b h (xs ++ ys) (vs ++ us)
  | [], _, _, _, r, q => by unfold VRs at r; subst r; exact q
  | x :: xs, _, _, _, r, q => by
    unfold VRs at r
    obtain ⟨v, t, rfl, h1, h2⟩ := r
    show VRs b h (x :: (xs ++ _)) _
    unfold VRs
    exact ⟨v, _, rfl, h1, VRs.append h2 q⟩
theorem VRs.one {b h : Heap} {x : MV} {v : Value} (r : VR b h x v) : VRs b h [x] [v] := by
  unfold VRs VRs; exact ⟨v, [], rfl, r, rfl⟩
theorem VRs.nil {b h : Heap} : VRs b h [] [] := by unfold VRs; rfl
theorem VRs.cons {b h : Heap} {x : MV} {v : Value} {xs : List MV} {vs : List Value} (r : VR b h x v) (rs : VRs b h xs vs) : VRs b h (x :: xs) (v :: vs) := by
  unfold VRs; exact ⟨v, vs, rfl, r, rs⟩
theorem VRs.inv {b h : Heap} {x : MV} {xs : List MV} {vs : List Value} (r : VRs b h (x :: xs) vs) : ∃ v t, vs = v :: t ∧ VR b h x v ∧ VRs b h xs t := by
  unfold VRs at r; exact r
theorem VRs.inv0 {b h : Heap} {vs : List Value} (r : VRs b h [] vs) : vs = [] := by
  unfold VRs at r; exact r
theorem VRs.set {b h : Heap} : ∀ {xs : List MV} {vs : List Value} {i : Nat} {x : MV} {v : Value}, VRs b h xs vs → VR b h x v → VRs b h (xs.set i x) (vs.set i v)
  | [], _, i, x, v, r, q => by unfold VRs at r; subst r; exact VRs.nil
  | y :: xs, _, i, x, v, r, q => by
    obtain ⟨u, t, rfl, h1, h2⟩ := r.inv
    cases i with
    | zero => exact .cons q h2
    | succ i => exact .cons h1 (VRs.set h2 q)
theorem VRs.take {b h : Heap} : ∀ {xs : List MV} {vs : List Value}, VRs b h xs vs → ∀ n, VRs b h (xs.take n) (vs.take n)
  | [], _, r, n => by unfold VRs at r; subst r; simpa using VRs.nil
  | y :: xs, _, r, n => by
    obtain ⟨u, t, rfl, h1, h2⟩ := r.inv
    cases n with
    | zero => exact VRs.nil
    | succ n => exact .cons h1 (VRs.take h2 n)
theorem VRs.drop {b h : Heap} : ∀ {xs : List MV} {vs : List Value}, VRs b h xs vs → ∀ n, VRs b h (xs.drop n) (vs.drop n)
  | [], _, r, n => by unfold VRs at r; subst r; simpa using VRs.nil
  | y :: xs, _, r, n => by
    obtain ⟨u, t, rfl, h1, h2⟩ := r.inv
    cases n with
    | zero => exact .cons h1 h2
    | succ n => exact VRs.drop h2 n
/-! the ledger -/
inductive MO where
  | list (xs : List MV)
  | dict (es : List (MV × MV))
abbrev Hp := List (Addr × MO)

/-- what a key's hash is -/
def HashOk : MV → Int → Prop
  | .int k, hs => hs = hashInt k
  | .tup l, hs => ∀ (prog : Program) (w : World) (ks : List Int), l = ks.map .int → hs = tupleKeyHash (intKind prog w) ks
  | _, _ => True
def DRs (b h : Heap) : List (MV × MV) → List DictEntry → Prop
  | [], ds => ds = []
  | p :: ps, ds => ∃ d r, ds = d :: r ∧ VR b h p.1 d.key ∧ VR b h p.2 d.val ∧ HashOk p.1 d.hash ∧ DRs b h ps r
theorem DRs.keep {b h h' : Heap} (k : TupKeep h h') : ∀ (xs : List (MV × MV)) {vs : List DictEntry}, DRs b h xs vs → DRs b h' xs vs
  | [], _, r => r
  | x :: xs, vs, r => by
    unfold DRs at r ⊢
    obtain ⟨v, t, rfl, h1, h2, h3, h4⟩ := r
    exact ⟨v, t, rfl, h1.keep k, h2.keep k, h3, DRs.keep k xs h4⟩

def OR (b h : Heap) (a : Addr) : MO → Prop
  | .list xs => ∃ vs n, h.get? a = some { cls := .type "list", data := .seq vs.toArray n } ∧ VRs b h xs vs
  | .dict es => (a == sysModules) = false ∧ ∃ ds n, h.get? a = some { cls := .type "dict", data := .dict ds.toArray n } ∧ DRs b h es ds

structure Cx where
  prog : Program
  w : World
  h₀ : Heap
  gens : Array GenState
  os : OsState
  mg : Str → Option Value
  mb : Str → Option Value
  hg : h₀.Ns mainGlobals mg
  hb : h₀.Ns builtinsNs mb
  hbl : ∀ x : Str, x ≠ "__name__" → mb x = bootBuiltins x
  hlim : h₀.NoLimit

structure Inv (C : Cx) (H : Hp) (s : Shared) : Prop where
  base : ∀ b o, C.h₀.get? b = some o → s.heap.get? b = some o
  objs : ∀ p ∈ H, OR C.h₀ s.heap p.1 p.2
  new : ∀ p ∈ H, C.h₀.get? p.1 = none
  nodup : (H.map (·.1)).Nodup
  gens : s.gens = C.gens
  os : s.os = C.os

def dom (H : Hp) (a : Addr) : Prop := a ∈ H.map (·.1)

def Kp (h : Heap) (H : Hp) (h' : Heap) (H' : Hp) : Prop :=
  ∀ b o, h.get? b = some o → ¬ dom H b → h'.get? b = some o ∧ ¬ dom H' b
theorem Kp.refl (h : Heap) (H : Hp) : Kp h H h H := fun _ _ e n => ⟨e, n⟩
theorem Kp.trans {h h' h'' : Heap} {H H' H'' : Hp} (p : Kp h H h' H') (q : Kp h' H' h'' H'') : Kp h H h'' H'' :=
  fun b o e n => let ⟨e', n'⟩ := p b o e n; q b o e' n'

theorem OR.exists {b h : Heap} {a : Addr} {o : MO} (x : OR b h a o) : ∃ ob, h.get? a = some ob ∧ ¬ Imm ob := by
  cases o with
  | list xs => obtain ⟨vs, n, e, _⟩ := x; exact ⟨_, e, by simp [Imm]⟩
  | dict es => obtain ⟨_, vs, n, e, _⟩ := x; exact ⟨_, e, by simp [Imm]⟩
theorem OR.keep {b h h' : Heap} {a : Addr} {o : MO} (x : OR b h a o) (k : TupKeep h h') (e : ∀ ob, h.get? a = some ob → h'.get? a = some ob) : OR b h' a o := by
  cases o with
  | list xs => obtain ⟨vs, n, e1, r⟩ := x; exact ⟨vs, n, e _ e1, r.keep k⟩
  | dict es => obtain ⟨hs, vs, n, e1, r⟩ := x; exact ⟨hs, vs, n, e _ e1, r.keep k⟩
theorem Inv.noTup {C : Cx} {H : Hp} {s : Shared} (I : Inv C H s) {a : Addr} {o : Obj} (e : s.heap.get? a = some o) (c : Imm o) : ¬ dom H a := by
  intro hd
  obtain ⟨p, hp, rfl⟩ := List.mem_map.mp hd
  obtain ⟨ob, e', n⟩ := (I.objs p hp).exists
  rw [e] at e'; cases e'; exact n c
theorem Inv.tupKeep {C : Cx} {H H' : Hp} {s : Shared} {h' : Heap} (I : Inv C H s) (k : Kp s.heap H h' H') : TupKeep s.heap h' :=
  fun a o e c => (k a o e (I.noTup e c)).1
theorem Inv.lt {C : Cx} {H : Hp} {s : Shared} (I : Inv C H s) {a : Addr} (d : dom H a) : a < s.heap.objs.size := by
  obtain ⟨p, hp, rfl⟩ := List.mem_map.mp d
  obtain ⟨ob, e', _⟩ := (I.objs p hp).exists
  exact Heap.lt_size e'
theorem Inv.fresh {C : Cx} {H : Hp} {s : Shared} (I : Inv C H s) : ¬ dom H s.heap.objs.size := fun d => Nat.lt_irrefl _ (I.lt d)
/-- a state with the same heap -/
theorem Inv.toks {C : Cx} {H : Hp} {s : Shared} (I : Inv C H s) (t : Nat) : Inv C H { s with toks := t } := ⟨I.base, I.objs, I.new, I.nodup, I.gens, I.os⟩
/-- the heap grows, nothing else -/
theorem Inv.grow {C : Cx} {H : Hp} {s : Shared} (I : Inv C H s) {h' : Heap} (k : ∀ b o, s.heap.get? b = some o → h'.get? b = some o) (t : Nat) : Inv C H { s with heap := h', toks := t } :=
  ⟨fun b o e => k b o (I.base b o e), fun p hp => (I.objs p hp).keep (.of_keeps k) fun _ e => k _ _ e, I.new, I.nodup, I.gens, I.os⟩
theorem Kp.of_keeps {h h' : Heap} {H : Hp} (k : ∀ b o, h.get? b = some o → h'.get? b = some o) : Kp h H h' H := fun b o e n => ⟨k b o e, n⟩
theorem Inv.sub {C : Cx} {H H' : Hp} {s : Shared} (I : Inv C H s) (hs : H'.Sublist H) : Inv C H' s :=
  ⟨I.base, fun p hp => I.objs p (hs.subset hp), fun p hp => I.new p (hs.subset hp), (hs.map (·.1)).nodup I.nodup, I.gens, I.os⟩
theorem Kp.sub {h h' : Heap} {H H' H'' : Hp} (k : Kp h H h' H') (hs : H''.Sublist H') : Kp h H h' H'' :=
  fun b o e n => ⟨(k b o e n).1, fun d => (k b o e n).2 ((hs.map (·.1)).subset d)⟩

/-! frames: an ordered list of names and values -/
abbrev Sg := List (Str × Option MV)
inductive At : Sg → Str → MV → Prop
  | here {x v r} : At ((x, some v) :: r) x v
  | there {p r x v} : At r x v → At (p :: r) x v
inductive Put : Sg → Str → MV → Sg → Prop
  | here {x o r v} : Put ((x, o) :: r) x v ((x, some v) :: r)
  | there {p r x v r'} : Put r x v r' → Put (p :: r) x v (p :: r')
def names (S : Sg) : List Str := S.map (·.1)
theorem At.mem {S : Sg} {x : Str} {v : MV} (h : At S x v) : x ∈ names S := by
  induction h with
  | here => exact List.mem_cons_self
  | there _ ih => exact List.mem_cons_of_mem _ ih
theorem Put.names {S S' : Sg} {x : Str} {v : MV} (h : Put S x v S') : names S' = names S := by
  induction h with
  | here => rfl
  | there _ ih => simp only [Mine.names, List.map_cons] at ih ⊢; rw [ih]
theorem Put.mem {S S' : Sg} {x : Str} {v : MV} (h : Put S x v S') : x ∈ Mine.names S := by
  induction h with
  | here => exact List.mem_cons_self
  | there _ ih => exact List.mem_cons_of_mem _ ih
theorem Put.at {S S' : Sg} {x : Str} {v : MV} (h : Put S x v S') (nd : (Mine.names S).Nodup) {y : Str} {u : MV} (a : At S' y u) : (y = x ∧ u = v) ∨ (y ≠ x ∧ At S y u) := by
  induction h with
  | @here x o r v =>
    have hx : x ∉ Mine.names r := (List.nodup_cons.mp nd).1
    cases a with
    | here => exact .inl ⟨rfl, rfl⟩
    | there a => exact .inr ⟨fun e => hx (e ▸ a.mem), .there a⟩
  | @there p r x v r' hp ih =>
    have hx := List.nodup_cons.mp nd
    cases a with
    | @here _ _ _ => exact .inr ⟨fun e => hx.1 (e ▸ hp.mem), .here⟩
    | there a =>
      rcases ih hx.2 a with h | h
      · exact .inl h
      · exact .inr ⟨h.1, .there h.2⟩

structure EnvOk (env : Env) (ns gs : List Str) : Prop where
  kind : env.scope.kind = .function
  glob : env.globals = mainGlobals
  blt : env.builtins = builtinsNs
  nodup : ns.Nodup
  nodbg : ∀ x ∈ ns, (x == ("__debug__" : Str)) = false
  vars : ∀ x ∈ ns, env.kindOf x = some .local ∨ ((env.kindOf x = some .cell ∨ env.kindOf x = some .free ∧ (x == ("__classdict__" : Str)) = false) ∧ ∃ c, env.cells.lookup x = some c)
  gl : ∀ x ∈ gs, env.kindOf x = some .globalImplicit
  apart : env.cells.Pairwise fun x y => x.2 ≠ y.2
  cfun : ∀ n c c', (n, c) ∈ env.cells → (n, c') ∈ env.cells → c = c'
  off : ∀ n c, (n, c) ∈ env.cells → env.locals ≠ c

structure Fm (C : Cx) (env : Env) (gs : List Str) (S : Sg) (H : Hp) (h : Heap) : Prop where
  ok : EnvOk env (names S) gs
  ns : ∃ mr, h.Ns env.locals mr ∧ ∀ x v, At S x v → env.kindOf x = some .local → ∃ u, mr x = some u ∧ VR C.h₀ h v u
  nl : ¬ dom H env.locals
  nl0 : C.h₀.get? env.locals = none
  cell : ∀ n c, (n, c) ∈ env.cells → ∃ vo, h.IsCell c vo ∧ ¬ dom H c ∧ C.h₀.get? c = none ∧ ∀ v, At S n v → env.kindOf n ≠ some .local → ∃ u, vo = some u ∧ VR C.h₀ h v u

theorem Fm.keep {C : Cx} {env : Env} {gs : List Str} {S : Sg} {H H' : Hp} {s : Shared} {h' : Heap} (F : Fm C env gs S H s.heap) (I : Inv C H s) (k : Kp s.heap H h' H') : Fm C env gs S H' h' := by
  obtain ⟨ok, ⟨mr, hn, hv⟩, nl, nl0, hc⟩ := F
  have tk := I.tupKeep k
  obtain ⟨oL, es, ep, hL, r⟩ := hn
  refine ⟨ok, ⟨mr, ⟨oL, es, ep, (k _ _ hL nl).1, r⟩, fun x v a e => ?_⟩, (k _ _ hL nl).2, nl0, fun n c e => ?_⟩
  · obtain ⟨u, h1, h2⟩ := hv x v a e; exact ⟨u, h1, h2.keep tk⟩
  · obtain ⟨vo, ⟨oc, ho, hd⟩, nd, n0, hv⟩ := hc n c e
    refine ⟨vo, ⟨oc, (k _ _ ho nd).1, hd⟩, (k _ _ ho nd).2, n0, fun v a e => ?_⟩
    obtain ⟨u, h1, h2⟩ := hv v a e; exact ⟨u, h1, h2.keep tk⟩

/-! rooms -/
structure AOk (A : Around) (n : Nat) : Prop where
  handled : A.handled = none
  depth : A.depth + n < recursionLimit
  units : A.units + 3 * n + 100 < cLine
theorem AOk.deeper {A : Around} {n : Nat} (a : AOk A (n + 1)) (env : Env) : AOk (A.deeper env) n :=
  ⟨a.handled, by have := a.depth; show A.depth + 1 + n < _; omega, by have := a.units; show A.units + 3 + 3 * n + 100 < _; omega⟩
theorem AOk.le {A : Around} {n k : Nat} (a : AOk A n) (h : k ≤ n) : AOk A k := ⟨a.handled, by have := a.depth; omega, by have := a.units; omega⟩

def NoE : Value → Shared → Prop := fun _ _ => False

/-! judgements -/
def EP (C : Cx) (H : Hp) (s : Shared) (Q : MV → Hp → Prop) : Value → Shared → Prop :=
  fun v s' => ∃ x H', VR C.h₀ s'.heap x v ∧ Inv C H' s' ∧ Kp s.heap H s'.heap H' ∧ Q x H'
def BP (C : Cx) (H : Hp) (s : Shared) (Q : Bool → Hp → Prop) : Bool → Shared → Prop :=
  fun b s' => ∃ H', Inv C H' s' ∧ Kp s.heap H s'.heap H' ∧ Q b H'
def LP (C : Cx) (H : Hp) (s : Shared) (Q : List MV → Hp → Prop) : List Value → Shared → Prop :=
  fun vs s' => ∃ xs H', VRs C.h₀ s'.heap xs vs ∧ Inv C H' s' ∧ Kp s.heap H s'.heap H' ∧ Q xs H'
theorem EP.from {C : Cx} {H H₁ : Hp} {s s₁ : Shared} {Q : MV → Hp → Prop} {v : Value} {s' : Shared} (k : Kp s.heap H s₁.heap H₁) (h : EP C H₁ s₁ Q v s') : EP C H s Q v s' :=
  let ⟨x, H', r, I, k', q⟩ := h; ⟨x, H', r, I, k.trans k', q⟩
theorem BP.from {C : Cx} {H H₁ : Hp} {s s₁ : Shared} {Q : Bool → Hp → Prop} {v : Bool} {s' : Shared} (k : Kp s.heap H s₁.heap H₁) (h : BP C H₁ s₁ Q v s') : BP C H s Q v s' :=
  let ⟨H', I, k', q⟩ := h; ⟨H', I, k.trans k', q⟩
abbrev Md (C : Cx) : Model := model C.prog C.w

/-- an expression in a frame -/
def WE (C : Cx) (A : Around) (env : Env) (gs : List Str) (S : Sg) (H : Hp) (e : Expr) (Q : MV → Hp → Prop) : Prop :=
  ∀ s, Inv C H s → Fm C env gs S H s.heap → wpAny (Md C) A (eval e env) (EP C H s Q) NoE s
/-- several, in order -/
def WEs (C : Cx) (A : Around) (env : Env) (gs : List Str) (S : Sg) (H : Hp) (es : List Expr) (Q : List MV → Hp → Prop) : Prop :=
  ∀ s pos, Inv C H s → Fm C env gs S H s.heap → wpAny (Md C) A (spliced (backTo pos (starEach es env))) (LP C H s Q) NoE s
/-- a test -/
def WT (C : Cx) (A : Around) (env : Env) (gs : List Str) (S : Sg) (H : Hp) (e : Expr) (Q : Bool → Hp → Prop) : Prop :=
  ∀ s, Inv C H s → Fm C env gs S H s.heap → wpAny (Md C) A (isTrue e env (eval e env)) (BP C H s Q) NoE s
def W2 (C : Cx) (A : Around) (H : Hp) (t : Value → Value → Sem Value) (x y : MV) (Q : MV → Hp → Prop) : Prop :=
  ∀ s u v, Inv C H s → VR C.h₀ s.heap x u → VR C.h₀ s.heap y v → wpAny (Md C) A (t u v) (EP C H s Q) NoE s
def WB (C : Cx) (A : Around) (H : Hp) (t : Value → Sem Bool) (x : MV) (Q : Bool → Hp → Prop) : Prop :=
  ∀ s v, Inv C H s → VR C.h₀ s.heap x v → wpAny (Md C) A (t v) (BP C H s Q) NoE s
/-- a call of a value with these arguments -/
def WC (C : Cx) (A : Around) (H : Hp) (f : Value) (xs : List MV) (Q : MV → Hp → Prop) : Prop :=
  ∀ s vs, Inv C H s → VRs C.h₀ s.heap xs vs → wpAny (Md C) A (call f vs []) (EP C H s Q) NoE s

theorem noE {E : Value → Shared → Prop} : ∀ e s, NoE e s → E e s := fun _ _ h => h.elim
end Mine
namespace Mine
open PySem PySem.Calls PyProof.Rows

section
variable {C : Cx} {A : Around} {env : Env} {S : Sg} {H : Hp} {gs : List Str} {Q : MV → Hp → Prop}

theorem EP.elim {s : Shared} {v : Value} {s' : Shared} {G : Prop} (h : EP C H s Q v s') (k : ∀ x H', VR C.h₀ s'.heap x v → Inv C H' s' → Kp s.heap H s'.heap H' → Q x H' → G) : G := by
  obtain ⟨x, H', r, I, kp, q⟩ := h
  exact k x H' r I kp q
theorem LP.elim {s : Shared} {Q : List MV → Hp → Prop} {v : List Value} {s' : Shared} {G : Prop} (h : LP C H s Q v s') (k : ∀ x H', VRs C.h₀ s'.heap x v → Inv C H' s' → Kp s.heap H s'.heap H' → Q x H' → G) : G := by
  obtain ⟨x, H', r, I, kp, q⟩ := h
  exact k x H' r I kp q
theorem BP.elim {s : Shared} {Q : Bool → Hp → Prop} {b : Bool} {s' : Shared} {G : Prop} (h : BP C H s Q b s') (k : ∀ H', Inv C H' s' → Kp s.heap H s'.heap H' → Q b H' → G) : G := by
  obtain ⟨H', I, kp, q⟩ := h
  exact k H' I kp q
theorem EP.same {s : Shared} {x : MV} {v : Value} {t : Nat} (I : Inv C H s) (r : VR C.h₀ s.heap x v) (q : Q x H) : EP C H s Q v { s with toks := t } :=
  ⟨x, H, r, I.toks t, Kp.refl _ _, q⟩
theorem EP.here {s : Shared} {x : MV} {v : Value} (I : Inv C H s) (r : VR C.h₀ s.heap x v) (q : Q x H) : EP C H s Q v s :=
  ⟨x, H, r, I, Kp.refl _ _, q⟩
theorem BP.here {s : Shared} {b : Bool} {Q : Bool → Hp → Prop} (I : Inv C H s) (q : Q b H) : BP C H s Q b s := ⟨H, I, Kp.refl _ _, q⟩
/-- the heap has grown by what nobody names -/
theorem EP.grown {s : Shared} {x : MV} {v : Value} {h' : Heap} {t : Nat} (I : Inv C H s) (k : ∀ b o, s.heap.get? b = some o → h'.get? b = some o) (r : VR C.h₀ h' x v) (q : Q x H) :
    EP C H s Q v { s with heap := h', toks := t } := ⟨x, H, r, I.grow k t, Kp.of_keeps k, q⟩

theorem EP.mono {s : Shared} {Q Q' : MV → Hp → Prop} {v : Value} {s' : Shared} (m : ∀ x H, Q x H → Q' x H) (h : EP C H s Q v s') : EP C H s Q' v s' :=
  let ⟨x, H', r, I, k, q⟩ := h; ⟨x, H', r, I, k, m _ _ q⟩
theorem WE.mono {e : Expr} {Q' : MV → Hp → Prop} (h : WE C A env gs S H e Q) (m : ∀ x H, Q x H → Q' x H) : WE C A env gs S H e Q' :=
  fun s I F => wpAny_mono (h s I F) (fun _ _ p => p.mono m) fun _ _ x => x
theorem WE.var {x : Str} {p : Pos} {v : MV} (a : At S x v) (q : Q v H) : WE C A env gs S H (.Name x p) Q := by
  intro s I F
  have hd := F.ok.nodbg x a.mem
  rcases F.ok.vars x a.mem with hl | ⟨hl, c, hc⟩
  · obtain ⟨mr, hn, hv⟩ := F.ns
    obtain ⟨u, hu, hr⟩ := hv x v a hl
    exact wpAny_Name (wpAny_loadName_local F.ok.kind hl hn hu (EP.here I hr q)) hd
  · obtain ⟨vo, hcell, _, _, hv⟩ := F.cell x c (mem_of_lookup hc)
    have hnl : env.kindOf x ≠ some .local := by
      rcases hl with h | h
      · rw [h]; decide
      · rw [h.1]; decide
    obtain ⟨u, hu, hr⟩ := hv v a hnl
    subst hu
    rcases hl with h | h
    · exact wpAny_Name (wpAny_loadName_cell F.ok.kind h hc hcell (EP.here I hr q)) hd
    · exact wpAny_Name (wpAny_loadName_free F.ok.kind h.1 hc hcell (EP.here I hr q) h.2) hd

theorem WE.glob {x : Str} {p : Pos} {v : Value} (hx : x ∈ gs) (hv : C.mg x = some v) (q : Q (.raw v) H) (hd : (x == ("__debug__" : Str)) = false) : WE C A env gs S H (.Name x p) Q := by
  intro s I F
  refine Name_function_global F.ok.kind (F.ok.gl x hx) (loadGlobal_global (env := env) (v := v) (mg := C.mg) ?_ hv (EP.here I ?_ q)) hd
  · rw [F.ok.glob]; exact C.hg.keeps I.base
  · unfold VR; rfl
theorem WE.builtin {x : Str} {p : Pos} {v : Value} (hx : x ∈ gs) (hm : C.mg x = none) (hv : bootBuiltins x = some v) (hn : x ≠ "__name__") (q : Q (.raw v) H) (hd : (x == ("__debug__" : Str)) = false) : WE C A env gs S H (.Name x p) Q := by
  intro s I F
  refine Name_function_global F.ok.kind (F.ok.gl x hx) (loadGlobal_builtin (env := env) (v := v) (mg := C.mg) (mb := C.mb) ?_ hm ?_ ((C.hbl x hn).trans hv) (EP.here I ?_ q)) hd
  · rw [F.ok.glob]; exact C.hg.keeps I.base
  · rw [F.ok.blt]; exact C.hb.keeps I.base
  · unfold VR; rfl

theorem WE.int {i : Int} {k : Nat} {p : Pos} (q : Q (.int i) H) : WE C A env gs S H (.Constant (.int i) k p) Q := fun s I _ =>
  wpAny_Constant_int (EP.same I (by unfold VR; exact ⟨_, rfl⟩) q)
theorem WE.bool {b : Bool} {k : Nat} {p : Pos} (q : Q (.bool b) H) : WE C A env gs S H (.Constant (.bool b) k p) Q := fun s I _ =>
  Constant_bool (EP.here I (by unfold VR; rfl) q)
theorem WE.none {k : Nat} {p : Pos} (q : Q .none H) : WE C A env gs S H (.Constant .none k p) Q := fun s I _ =>
  Constant_none (EP.here I (by unfold VR; rfl) q)

theorem WE.bin {l r : Expr} {op : Operator} {p : Pos} (h : WE C A env gs S H l (fun x H₁ => WE C A env gs S H₁ r (fun y H₂ => W2 C A H₂ (binaryOp op) x y Q))) : WE C A env gs S H (.BinOp l op r p) Q := by
  intro s I F
  refine wpAny_BinOp (wpAny_mono (h s I F) (fun u s₁ h₁ => ?_) noE)
  first | (refine EP.elim h₁ fun x H₁ r₁ I₁ k₁ q₁ => ?_; clear h₁) | (refine LP.elim h₁ fun x H₁ r₁ I₁ k₁ q₁ => ?_; clear h₁) | obtain ⟨x, H₁, r₁, I₁, k₁, q₁⟩ := h₁
  refine wpAny_mono (q₁ s₁ I₁ (F.keep I k₁)) (fun v s₂ h₂ => ?_) noE
  first | (refine EP.elim h₂ fun y H₂ r₂ I₂ k₂ q₂ => ?_; clear h₂) | (refine LP.elim h₂ fun y H₂ r₂ I₂ k₂ q₂ => ?_; clear h₂) | obtain ⟨y, H₂, r₂, I₂, k₂, q₂⟩ := h₂
  exact wpAny_mono (q₂ s₂ u v I₂ (r₁.keep (I₁.tupKeep k₂)) r₂) (fun _ _ h => h.from (k₁.trans k₂)) noE
theorem WE.cmp {l r : Expr} {op : CmpOp} {p : Pos} (h : WE C A env gs S H l (fun x H₁ => WE C A env gs S H₁ r (fun y H₂ => W2 C A H₂ (compareOp op) x y Q)))
    (hm : behindInMarks op r = false := by with_unfolding_all rfl) : WE C A env gs S H (.Compare l [op] [r] p) Q := by
  intro s I F
  refine wpAny_Compare1 (wpAny_mono (h s I F) (fun u s₁ h₁ => ?_) noE) hm
  first | (refine EP.elim h₁ fun x H₁ r₁ I₁ k₁ q₁ => ?_; clear h₁) | (refine LP.elim h₁ fun x H₁ r₁ I₁ k₁ q₁ => ?_; clear h₁) | obtain ⟨x, H₁, r₁, I₁, k₁, q₁⟩ := h₁
  refine wpAny_mono (q₁ s₁ I₁ (F.keep I k₁)) (fun v s₂ h₂ => ?_) noE
  first | (refine EP.elim h₂ fun y H₂ r₂ I₂ k₂ q₂ => ?_; clear h₂) | (refine LP.elim h₂ fun y H₂ r₂ I₂ k₂ q₂ => ?_; clear h₂) | obtain ⟨y, H₂, r₂, I₂, k₂, q₂⟩ := h₂
  exact wpAny_mono (q₂ s₂ u v I₂ (r₁.keep (I₁.tupKeep k₂)) r₂) (fun _ _ h => h.from (k₁.trans k₂)) noE

/-! tests -/
section
variable {Q : Bool → Hp → Prop}
theorem WB.bool {b : Bool} (q : Q b H) : WB C A H truthy (.bool b) Q := fun s v I r => by
  unfold VR at r; subst r; exact wpAny_truthy_bool (BP.here I q)
theorem WT.cmp {l r : Expr} {op : CmpOp} {p : Pos} (h : WE C A env gs S H l (fun x H₁ => WE C A env gs S H₁ r (fun y H₂ => W2 C A H₂ (compareOp op) x y fun z H₃ => ∃ b, z = .bool b ∧ Q b H₃)))
    (hm : behindInMarks op r = false := by with_unfolding_all rfl) : WT C A env gs S H (.Compare l [op] [r] p) Q := by
  intro s I F
  refine wpAny_isTrue_Compare1 (wpAny_mono (h s I F) (fun u s₁ h₁ => ?_) noE) hm
  first | (refine EP.elim h₁ fun x H₁ r₁ I₁ k₁ q₁ => ?_; clear h₁) | (refine LP.elim h₁ fun x H₁ r₁ I₁ k₁ q₁ => ?_; clear h₁) | obtain ⟨x, H₁, r₁, I₁, k₁, q₁⟩ := h₁
  refine wpAny_mono (q₁ s₁ I₁ (F.keep I k₁)) (fun v s₂ h₂ => ?_) noE
  first | (refine EP.elim h₂ fun y H₂ r₂ I₂ k₂ q₂ => ?_; clear h₂) | (refine LP.elim h₂ fun y H₂ r₂ I₂ k₂ q₂ => ?_; clear h₂) | obtain ⟨y, H₂, r₂, I₂, k₂, q₂⟩ := h₂
  refine wpAny_mono (q₂ s₂ u v I₂ (r₁.keep (I₁.tupKeep k₂)) r₂) (fun z s₃ h₃ => ?_) noE
  first | (refine EP.elim h₃ fun zz H₃ r₃ I₃ k₃ hq => ?_; clear h₃) | (refine LP.elim h₃ fun zz H₃ r₃ I₃ k₃ hq => ?_; clear h₃) | obtain ⟨zz, H₃, r₃, I₃, k₃, hq⟩ := h₃
  obtain ⟨b, rfl, q₃⟩ := hq
  unfold VR at r₃; subst r₃
  exact wpAny_truthy_bool ⟨H₃, I₃, (k₁.trans k₂).trans k₃, q₃⟩
theorem WT.not {x : Expr} {p : Pos} (h : WT C A env gs S H x (fun b H' => Q (!b) H')) : WT C A env gs S H (.UnaryOp .Not x p) Q := fun s I F =>
  isTrue_not (wpAny_mono (h s I F) (fun _ _ h => h) noE)
theorem WT.and0 {p : Pos} (q : Q true H) : WT C A env gs S H (.BoolOp .And [] p) Q := fun _ I _ => isTrue_and_nil (BP.here I q)
theorem WT.or0 {p : Pos} (q : Q false H) : WT C A env gs S H (.BoolOp .Or [] p) Q := fun _ I _ => isTrue_or_nil (BP.here I q)
theorem WT.and {x : Expr} {rest : List Expr} {p : Pos} (h : WT C A env gs S H x (fun b H' => if b = true then WT C A env gs S H' (.BoolOp .And rest p) Q else Q false H')) : WT C A env gs S H (.BoolOp .And (x :: rest) p) Q := by
  intro s I F
  refine isTrue_and (wpAny_mono (h s I F) (fun b s₁ h₁ => ?_) noE)
  first | (refine BP.elim h₁ fun H₁ I₁ k₁ q₁ => ?_; clear h₁) | obtain ⟨H₁, I₁, k₁, q₁⟩ := h₁
  cases b with
  | false => exact ⟨H₁, I₁, k₁, q₁⟩
  | true => exact wpAny_mono (q₁ s₁ I₁ (F.keep I k₁)) (fun _ _ h => h.from k₁) noE
theorem WT.or {x : Expr} {rest : List Expr} {p : Pos} (h : WT C A env gs S H x (fun b H' => if b = true then Q true H' else WT C A env gs S H' (.BoolOp .Or rest p) Q)) : WT C A env gs S H (.BoolOp .Or (x :: rest) p) Q := by
  intro s I F
  refine isTrue_or (wpAny_mono (h s I F) (fun b s₁ h₁ => ?_) noE)
  first | (refine BP.elim h₁ fun H₁ I₁ k₁ q₁ => ?_; clear h₁) | obtain ⟨H₁, I₁, k₁, q₁⟩ := h₁
  cases b with
  | true => exact ⟨H₁, I₁, k₁, q₁⟩
  | false => exact wpAny_mono (q₁ s₁ I₁ (F.keep I k₁)) (fun _ _ h => h.from k₁) noE
theorem WT.plain {e : Expr} (h : WE C A env gs S H e (fun x H' => WB C A H' truthy x Q)) (he : isTrue e env (eval e env) = (do let v ← eval e env; standAt e.pos; holding [v] (truthy v)) := by with_unfolding_all rfl) : WT C A env gs S H e Q := by
  intro s I F
  refine isTrue_plain (wpAny_mono (h s I F) (fun v s₁ h₁ => ?_) noE) he
  first | (refine EP.elim h₁ fun x H₁ r₁ I₁ k₁ q₁ => ?_; clear h₁) | (refine LP.elim h₁ fun x H₁ r₁ I₁ k₁ q₁ => ?_; clear h₁) | obtain ⟨x, H₁, r₁, I₁, k₁, q₁⟩ := h₁
  exact wpAny_mono (q₁ s₁ v I₁ r₁) (fun _ _ h => h.from k₁) noE
end

theorem WE.not {x : Expr} {p : Pos} (h : WE C A env gs S H x (fun v H' => WB C A H' truthy v fun b H₂ => Q (.bool (!b)) H₂)) : WE C A env gs S H (.UnaryOp .Not x p) Q := by
  intro s I F
  refine UnaryOp_ (wpAny_mono (h s I F) (fun v s₁ h₁ => ?_) noE)
  first | (refine EP.elim h₁ fun x H₁ r₁ I₁ k₁ q₁ => ?_; clear h₁) | (refine LP.elim h₁ fun x H₁ r₁ I₁ k₁ q₁ => ?_; clear h₁) | obtain ⟨x, H₁, r₁, I₁, k₁, q₁⟩ := h₁
  refine not_of (wpAny_mono (q₁ s₁ v I₁ r₁) (fun b s₂ h₂ => ?_) noE)
  first | (refine BP.elim h₂ fun H₂ I₂ k₂ q₂ => ?_; clear h₂) | obtain ⟨H₂, I₂, k₂, q₂⟩ := h₂
  exact ⟨_, H₂, by unfold VR; rfl, I₂, k₁.trans k₂, q₂⟩
theorem WE.bo1 {op : BoolOp} {e : Expr} {p : Pos} (h : WE C A env gs S H e Q) : WE C A env gs S H (.BoolOp op [e] p) Q := fun s I F => BoolOp_one (h s I F)
theorem WE.and {e₁ e₂ : Expr} {rest : List Expr} {p : Pos} (h : WE C A env gs S H e₁ (fun v H₁ => WB C A H₁ truthy v fun b H₂ => if b = true then WE C A env gs S H₂ (.BoolOp .And (e₂ :: rest) p) Q else Q v H₂)) :
    WE C A env gs S H (.BoolOp .And (e₁ :: e₂ :: rest) p) Q := by
  intro s I F
  refine BoolOp_and (wpAny_mono (h s I F) (fun v s₁ h₁ => ?_) noE)
  first | (refine EP.elim h₁ fun x H₁ r₁ I₁ k₁ q₁ => ?_; clear h₁) | (refine LP.elim h₁ fun x H₁ r₁ I₁ k₁ q₁ => ?_; clear h₁) | obtain ⟨x, H₁, r₁, I₁, k₁, q₁⟩ := h₁
  refine wpAny_mono (q₁ s₁ v I₁ r₁) (fun b s₂ h₂ => ?_) noE
  first | (refine BP.elim h₂ fun H₂ I₂ k₂ q₂ => ?_; clear h₂) | obtain ⟨H₂, I₂, k₂, q₂⟩ := h₂
  cases b with
  | false => exact ⟨x, H₂, r₁.keep (I₁.tupKeep k₂), I₂, k₁.trans k₂, q₂⟩
  | true => exact wpAny_mono (q₂ s₂ I₂ ((F.keep I k₁).keep I₁ k₂)) (fun _ _ h => h.from (k₁.trans k₂)) noE
/-! chains of two comparisons -/
theorem WE.cmp2 {l r₁ r₂ : Expr} {o₁ o₂ : CmpOp} {p : Pos}
    (h : WE C A env gs S H l (fun x H₁ => WE C A env gs S H₁ r₁ (fun y H₂ => W2 C A H₂ (compareOp o₁) x y fun z H₃ => ∃ b, z = .bool b ∧
      (if b = true then WE C A env gs S H₃ r₂ (fun u H₄ => W2 C A H₄ (compareOp o₂) y u Q) else Q (.bool false) H₃))))
    (hm : lastMarks [o₁, o₂] [r₁, r₂] = false := by with_unfolding_all rfl) : WE C A env gs S H (.Compare l [o₁, o₂] [r₁, r₂] p) Q := by
  intro s I F
  refine Compare_chain (wpAny_mono (h s I F) (fun u s₁ h₁ => ?_) noE) hm
  first | (refine EP.elim h₁ fun x H₁ q1 I₁ k₁ h₁ => ?_) | (refine LP.elim h₁ fun x H₁ q1 I₁ k₁ h₁ => ?_) | obtain ⟨x, H₁, q1, I₁, k₁, h₁⟩ := h₁
  have F₁ := F.keep I k₁
  refine chain_link (wpAny_mono (h₁ s₁ I₁ F₁) (fun v s₂ h₂ => ?_) noE)
  first | (refine EP.elim h₂ fun y H₂ q2 I₂ k₂ h₂ => ?_) | (refine LP.elim h₂ fun y H₂ q2 I₂ k₂ h₂ => ?_) | obtain ⟨y, H₂, q2, I₂, k₂, h₂⟩ := h₂
  have F₂ := F₁.keep I₁ k₂
  refine wpAny_mono (h₂ s₂ u v I₂ (q1.keep (I₁.tupKeep k₂)) q2) (fun z s₃ h₃ => ?_) noE
  first | (refine EP.elim h₃ fun zz H₃ q3 I₃ k₃ hq => ?_; clear h₃) | (refine LP.elim h₃ fun zz H₃ q3 I₃ k₃ hq => ?_; clear h₃) | obtain ⟨zz, H₃, q3, I₃, k₃, hq⟩ := h₃
  obtain ⟨b, rfl, h₃⟩ := hq
  have F₃ := F₂.keep I₂ k₃
  unfold VR at q3; subst q3
  refine wpAny_truthy_bool ?_
  cases b with
  | false => exact ⟨_, H₃, by unfold VR; rfl, I₃, (k₁.trans k₂).trans k₃, h₃⟩
  | true =>
    refine chain_last (wpAny_mono (h₃ s₃ I₃ F₃) (fun t s₄ h₄ => ?_) noE)
    first | (refine EP.elim h₄ fun w H₄ q4 I₄ k₄ h₄ => ?_) | (refine LP.elim h₄ fun w H₄ q4 I₄ k₄ h₄ => ?_) | obtain ⟨w, H₄, q4, I₄, k₄, h₄⟩ := h₄
    exact wpAny_mono (h₄ s₄ v t I₄ (q2.keep ((I₂.tupKeep k₃).trans (I₃.tupKeep k₄))) q4) (fun _ _ h => h.from (((k₁.trans k₂).trans k₃).trans k₄)) noE
/-! ints -/
theorem W2.ofInt {t : Value → Value → Sem Value} {a b : Int}
    (h : ∀ s u v, Inv C H s → wpAny (Md C) A (t (.int a u) (.int b v)) (EP C H s Q) NoE s) : W2 C A H t (.int a) (.int b) Q := by
  intro s u v I r₁ r₂
  unfold VR at r₁ r₂
  obtain ⟨t1, rfl⟩ := r₁
  obtain ⟨t2, rfl⟩ := r₂
  exact h s t1 t2 I
theorem W2.add {a b : Int} (q : Q (.int (a + b)) H) : W2 C A H (binaryOp .Add) (.int a) (.int b) Q :=
  .ofInt fun s _ _ I => AutoIntOps.add_0 (EP.same I (by unfold VR; exact ⟨_, rfl⟩) q)
theorem W2.sub {a b : Int} (q : Q (.int (a - b)) H) : W2 C A H (binaryOp .Sub) (.int a) (.int b) Q :=
  .ofInt fun s _ _ I => AutoIntOps.sub_0 (EP.same I (by unfold VR; exact ⟨_, rfl⟩) q)
theorem W2.mul {a b : Int} (hm : IntMulOk a b) (q : Q (.int (a * b)) H) : W2 C A H (binaryOp .Mult) (.int a) (.int b) Q :=
  .ofInt fun s _ _ I => mul_int (EP.same I (by unfold VR; exact ⟨_, rfl⟩) q) hm
theorem W2.mod {a b : Int} (hb : b ≠ 0) (q : Q (.int (a.fmod b)) H) : W2 C A H (binaryOp .Mod) (.int a) (.int b) Q :=
  .ofInt fun s _ _ I => mod_int' hb (EP.same I (by unfold VR; exact ⟨_, rfl⟩) q)
theorem W2.div {a b : Int} (hb : b ≠ 0) (hp : Builtin.divisionGoesByPylong a b = false) (q : Q (.int (a.fdiv b)) H) : W2 C A H (binaryOp .FloorDiv) (.int a) (.int b) Q :=
  .ofInt fun s _ _ I => AutoIntOps.floordiv_1 (by simpa using hb) (by rw [hp]; exact Bool.false_ne_true) (EP.same I (by unfold VR; exact ⟨_, rfl⟩) q)
theorem W2.pow {a b : Int} (hn : 0 ≤ b) (hsz : (Builtin.Int.intBits a : Int) * b ≤ 2 ^ 27) (q : Q (.int (a ^ b.toNat)) H) : W2 C A H (binaryOp .Pow) (.int a) (.int b) Q :=
  .ofInt fun s _ _ I => pow_int hn hsz (EP.same I (by unfold VR; exact ⟨_, rfl⟩) q)
end
end Mine
namespace Mine
open PySem PySem.Calls PyProof.Rows

section
variable {C : Cx} {A : Around} {env : Env} {S : Sg} {H : Hp} {gs : List Str} {Q : MV → Hp → Prop} {n : Nat}

/-! comparisons of ints -/
theorem W2.lt {a b : Int} (q : Q (.bool (decide (a < b))) H) : W2 C A H (compareOp .Lt) (.int a) (.int b) Q :=
  .ofInt fun s _ _ I => P.lt_int (EP.here I (by unfold VR; rfl) q)
theorem W2.le {a b : Int} (q : Q (.bool (decide (a ≤ b))) H) : W2 C A H (compareOp .LtE) (.int a) (.int b) Q :=
  .ofInt fun s _ _ I => P.le_int (EP.here I (by unfold VR; rfl) q)
theorem W2.gt {a b : Int} (q : Q (.bool (decide (a > b))) H) : W2 C A H (compareOp .Gt) (.int a) (.int b) Q :=
  .ofInt fun s _ _ I => P.gt_int (EP.here I (by unfold VR; rfl) q)
theorem W2.eq {a b : Int} (q : Q (.bool (a == b)) H) : W2 C A H (compareOp .Eq) (.int a) (.int b) Q :=
  .ofInt fun s _ _ I => P.eq_int (EP.here I (by unfold VR; rfl) q)
theorem W2.ne {a b : Int} (q : Q (.bool (a != b)) H) : W2 C A H (compareOp .NotEq) (.int a) (.int b) Q :=
  .ofInt fun s _ _ I => P.ne_int (EP.here I (by unfold VR; rfl) q)

/-! deep data -/
mutual
inductive Dp (H : Hp) : MV → PyData → Prop
  | none : Dp H .none .none
  | bool (b : Bool) : Dp H (.bool b) (.bool b)
  | int (i : Int) : Dp H (.int i) (.int i)
  | str (x : Str) : Dp H (.str x) (.str x)
  | tup {xs : List MV} {ds : List PyData} : Dps H xs ds → Dp H (.tup xs) (.tuple ds)
  | list {a : Addr} {xs : List MV} {ds : List PyData} : (a, MO.list xs) ∈ H → Dps H xs ds → Dp H (.ref a) (.list ds)
inductive Dps (H : Hp) : List MV → List PyData → Prop
  | nil : Dps H [] []
  | cons {x : MV} {xs : List MV} {d : PyData} {ds : List PyData} : Dp H x d → Dps H xs ds → Dps H (x :: xs) (d :: ds)
end
mutual
theorem Dp.reads {s : Shared} (I : Inv C H s) : ∀ {x : MV} {d : PyData}, Dp H x d → ∀ {v : Value}, VR C.h₀ s.heap x v → ∃ as, Reads s.heap v d as
  | _, _, .none, v, r => by unfold VR at r; subst r; exact ⟨[], .none⟩
  | _, _, .bool b, v, r => by unfold VR at r; subst r; exact ⟨[], .bool b⟩
  | _, _, .int i, v, r => by unfold VR at r; obtain ⟨t, rfl⟩ := r; exact ⟨[], .int i t⟩
  | _, _, .str x, v, r => by unfold VR at r; obtain ⟨t, rfl⟩ := r; exact ⟨[], .str x t⟩
  | _, _, .tup ds, v, r => by
    unfold VR at r
    obtain ⟨a, vs, rfl, ⟨o, ho, hc, n, hd⟩, hr⟩ := r
    obtain ⟨as, ra⟩ := Dps.reads I ds hr
    exact ⟨as, .tuple ho hc hd ra⟩
  | _, _, .list hm ds, v, r => by
    unfold VR at r; subst r
    obtain ⟨vs, n, ho, hr⟩ := I.objs _ hm
    obtain ⟨as, ra⟩ := Dps.reads I ds hr
    exact ⟨_, .list ho rfl rfl ra⟩
theorem Dps.reads {s : Shared} (I : Inv C H s) : ∀ {xs : List MV} {ds : List PyData}, Dps H xs ds → ∀ {vs : List Value}, VRs C.h₀ s.heap xs vs → ∃ as, ReadsAll s.heap vs ds as
  | _, _, .nil, vs, r => by have := r.inv0; subst this; exact ⟨[], .nil⟩
  | _, _, .cons h hs, vs, r => by
    obtain ⟨v, t, rfl, h1, h2⟩ := r.inv
    obtain ⟨as, ra⟩ := Dp.reads I h h1
    obtain ⟨bs, rb⟩ := Dps.reads I hs h2
    exact ⟨_, .cons ra rb⟩
end

theorem W2.eqD {x y : MV} {dx dy : PyData} (hA : AOk A n) (hx : Dp H x dx) (hy : Dp H y dy) (sx : SeqAt.shaped dx = true) (sy : SeqAt.shaped dy = true) (q : Q (.bool (PyData.eqv dx dy)) H) : W2 C A H (compareOp .Eq) x y Q := by
  intro s u v I r₁ r₂
  obtain ⟨as, ra⟩ := hx.reads I r₁
  obtain ⟨bs, rb⟩ := hy.reads I r₂
  exact SeqAt.compareEq_shaped ra rb sx sy (by have := hA.units; omega) (EP.here I (by unfold VR; rfl) q)
theorem W2.neD {x y : MV} {dx dy : PyData} (hA : AOk A n) (hx : Dp H x dx) (hy : Dp H y dy) (sx : SeqAt.shaped dx = true) (sy : SeqAt.shaped dy = true) (q : Q (.bool (!PyData.eqv dx dy)) H) : W2 C A H (compareOp .NotEq) x y Q := by
  intro s u v I r₁ r₂
  obtain ⟨as, ra⟩ := hx.reads I r₁
  obtain ⟨bs, rb⟩ := hy.reads I r₂
  exact SeqAt.compareNe_shaped ra rb sx sy (by have := hA.units; omega) (EP.here I (by unfold VR; rfl) q)
theorem W2.inT {x : MV} {ys : List MV} {dx : PyData} {dys : List PyData} (hA : AOk A n) (hx : Dp H x dx) (hy : Dps H ys dys) (sx : SeqAt.shaped dx = true) (sy : PyData.canLayAll0 dys = true) (q : Q (.bool (dys.any fun y => PyData.eqv y dx)) H) : W2 C A H (compareOp .In) x (.tup ys) Q := by
  intro s u v I r₁ r₂
  obtain ⟨as, ra⟩ := hx.reads I r₁
  obtain ⟨bs, rb⟩ := (Dp.tup hy).reads I r₂
  refine SeqAt.in_tuple_reads rb ra sy (SeqAt.canLay_of_shaped sx) ?_ (EP.here I (by unfold VR; rfl) q)
  have h1 := SeqAt.depth_of_shaped sx
  have h2 : min (PyData.depthAll dys) dx.depth ≤ dx.depth := Nat.min_le_right _ _
  have := hA.units; omega
theorem W2.notInT {x : MV} {ys : List MV} {dx : PyData} {dys : List PyData} (hA : AOk A n) (hx : Dp H x dx) (hy : Dps H ys dys) (sx : SeqAt.shaped dx = true) (sy : PyData.canLayAll0 dys = true) (q : Q (.bool (!dys.any fun y => PyData.eqv y dx)) H) : W2 C A H (compareOp .NotIn) x (.tup ys) Q := by
  intro s u v I r₁ r₂
  obtain ⟨as, ra⟩ := hx.reads I r₁
  obtain ⟨bs, rb⟩ := (Dp.tup hy).reads I r₂
  refine SeqAt.notIn_tuple_reads rb ra sy (SeqAt.canLay_of_shaped sx) ?_ (EP.here I (by unfold VR; rfl) q)
  have h1 := SeqAt.depth_of_shaped sx
  have h2 : min (PyData.depthAll dys) dx.depth ≤ dx.depth := Nat.min_le_right _ _
  have := hA.units; omega
theorem W2.notInL {x : MV} {a : Addr} {ys : List MV} {dx : PyData} {dys : List PyData} (hA : AOk A n) (hm : (a, MO.list ys) ∈ H) (hx : Dp H x dx) (hy : Dps H ys dys) (sx : SeqAt.shaped dx = true) (sy : PyData.canLayAll0 dys = true) (q : Q (.bool (!dys.any fun y => PyData.eqv y dx)) H) : W2 C A H (compareOp .NotIn) x (.ref a) Q := by
  intro s u v I r₁ r₂
  obtain ⟨as, ra⟩ := hx.reads I r₁
  obtain ⟨bs, rb⟩ := (Dp.list hm hy).reads I r₂
  refine SeqAt.notIn_list_reads rb ra sy (SeqAt.canLay_of_shaped sx) ?_ (EP.here I (by unfold VR; rfl) q)
  have h1 := SeqAt.depth_of_shaped sx
  have h2 : min (PyData.depthAll dys) dx.depth ≤ dx.depth := Nat.min_le_right _ _
  have := hA.units; omega

/-! arguments -/
theorem WEs.nil {Q : List MV → Hp → Prop} (q : Q [] H) : WEs C A env gs S H [] Q := fun _ _ I _ => args_nil ⟨[], H, VRs.nil, I, Kp.refl _ _, q⟩
theorem WEs.cons {Q : List MV → Hp → Prop} {e : Expr} {rest : List Expr} (h : WE C A env gs S H e (fun x H₁ => WEs C A env gs S H₁ rest fun xs H₂ => Q (x :: xs) H₂))
    (he : starEach (e :: rest) env = (false, eval e env) :: starEach rest env := by with_unfolding_all rfl) : WEs C A env gs S H (e :: rest) Q := by
  intro s pos I F
  refine args_cons (wpAny_mono (h s I F) (fun v s₁ h₁ => ?_) noE) he
  first | (refine EP.elim h₁ fun x H₁ r₁ I₁ k₁ q₁ => ?_; clear h₁) | (refine LP.elim h₁ fun x H₁ r₁ I₁ k₁ q₁ => ?_; clear h₁) | obtain ⟨x, H₁, r₁, I₁, k₁, q₁⟩ := h₁
  refine wpAny_mono (q₁ s₁ pos I₁ (F.keep I k₁)) (fun vs s₂ h₂ => ?_) noE
  first | (refine EP.elim h₂ fun xs H₂ r₂ I₂ k₂ q₂ => ?_; clear h₂) | (refine LP.elim h₂ fun xs H₂ r₂ I₂ k₂ q₂ => ?_; clear h₂) | obtain ⟨xs, H₂, r₂, I₂, k₂, q₂⟩ := h₂
  exact ⟨x :: xs, H₂, .cons (r₁.keep (I₁.tupKeep k₂)) r₂, I₂, k₁.trans k₂, q₂⟩

/-! new objects -/
theorem Inv.add {s : Shared} {h' : Heap} {a : Addr} {mo : MO} (I : Inv C H s) (hk : ∀ b o, s.heap.get? b = some o → h'.get? b = some o) (ha : s.heap.get? a = none) (hor : OR C.h₀ h' a mo) (t : Nat) :
    Inv C ((a, mo) :: H) { s with heap := h', toks := t } ∧ Kp s.heap H h' ((a, mo) :: H) ∧ ¬ dom H a := by
  have I' := I.grow hk t
  have hnd : ¬ dom H a := fun d => by
    obtain ⟨p, hp, rfl⟩ := List.mem_map.mp d
    obtain ⟨ob, e', _⟩ := (I.objs p hp).exists
    rw [ha] at e'; cases e'
  refine ⟨⟨I'.base, fun p hp => ?_, fun p hp => ?_, List.nodup_cons.mpr ⟨hnd, I.nodup⟩, I'.gens, I'.os⟩, fun b o e n => ⟨hk b o e, fun d => ?_⟩, hnd⟩
  · rcases List.mem_cons.mp hp with rfl | hp
    · exact hor
    · exact I'.objs p hp
  · rcases List.mem_cons.mp hp with rfl | hp
    · cases e : C.h₀.get? a with
      | none => rfl
      | some o => have := I.base _ _ e; rw [ha] at this; cases this
    · exact I.new p hp
  · rcases List.mem_cons.mp d with rfl | d
    · rw [ha] at e; cases e
    · exact n d
theorem get_size {h : Heap} : h.get? h.objs.size = none := by
  cases e : h.get? h.objs.size with
  | none => rfl
  | some o => exact absurd (Heap.lt_size e) (Nat.lt_irrefl _)
theorem EP.newTup {s : Shared} {xs : List MV} {vs : List Value} (I : Inv C H s) (r : VRs C.h₀ s.heap xs vs) (q : Q (.tup xs) H) (n : Nat := 0) :
    EP C H s Q (.ref s.heap.objs.size) { s with heap := s.heap.push { cls := .type "tuple", data := .seq vs.toArray n } } :=
  EP.grown (t := s.toks) I (fun b o e => Heap.get?_push_of_some _ e) (by
    unfold VR
    exact ⟨_, vs, rfl, ⟨_, Heap.get?_push_size _ rfl, rfl, n, rfl⟩, r.keep (.of_keeps fun b o e => Heap.get?_push_of_some _ e)⟩) q
theorem EP.newList {s : Shared} {xs : List MV} {vs : List Value} (I : Inv C H s) (r : VRs C.h₀ s.heap xs vs) (q : ∀ a, ¬ dom H a → Q (.ref a) ((a, .list xs) :: H)) (n : Nat := 0) :
    EP C H s Q (.ref s.heap.objs.size) { s with heap := s.heap.push { cls := .type "list", data := .seq vs.toArray n } } := by
  have hk : ∀ b o, s.heap.get? b = some o → (s.heap.push { cls := .type "list", data := .seq vs.toArray n }).get? b = some o := fun b o e => Heap.get?_push_of_some _ e
  obtain ⟨I', k, nd⟩ := I.add (mo := .list xs) hk get_size ⟨vs, n, Heap.get?_push_size _ rfl, r.keep (.of_keeps hk)⟩ s.toks
  exact ⟨_, _, by unfold VR; rfl, I', k, q _ nd⟩

theorem WE.tuple {es : List Expr} {k : Nat} {p : Pos} (h : WEs C A env gs S H es fun xs H' => xs.length ≤ sizeLine ∧ Q (.tup xs) H') : WE C A env gs S H (.Tuple es k p) Q := by
  intro s I F
  refine Tuple_ (wpAny_mono (h s p I F) (fun vs s₁ h₁ => ?_) noE)
  first | (refine EP.elim h₁ fun xs H₁ r₁ I₁ k₁ hq => ?_; clear h₁) | (refine LP.elim h₁ fun xs H₁ r₁ I₁ k₁ hq => ?_; clear h₁) | obtain ⟨xs, H₁, r₁, I₁, k₁, hq⟩ := h₁
  obtain ⟨hs, q₁⟩ := hq
  exact wpAny_newObj_type ((EP.newTup I₁ r₁ q₁).from k₁) (by show vs.toArray.size ≤ sizeLine; rw [List.size_toArray, r₁.length]; exact hs)
theorem WE.list {es : List Expr} {p : Pos} (h : WEs C A env gs S H es fun xs H' => xs.length ≤ sizeLine ∧ ∀ a, ¬ dom H' a → Q (.ref a) ((a, .list xs) :: H')) : WE C A env gs S H (.List es p) Q := by
  intro s I F
  refine List_ (wpAny_mono (h s p I F) (fun vs s₁ h₁ => ?_) noE)
  first | (refine EP.elim h₁ fun xs H₁ r₁ I₁ k₁ hq => ?_; clear h₁) | (refine LP.elim h₁ fun xs H₁ r₁ I₁ k₁ hq => ?_; clear h₁) | obtain ⟨xs, H₁, r₁, I₁, k₁, hq⟩ := h₁
  obtain ⟨hs, q₁⟩ := hq
  exact wpAny_newObj_type ((EP.newList I₁ r₁ q₁).from k₁) (by show vs.toArray.size ≤ sizeLine; rw [List.size_toArray, r₁.length]; exact hs)

/-! subscripts by an int -/
abbrev plainSlice (slice : Expr) : Prop := ∀ o i, subscripted slice false o i = operate [o, i] (getItem o i)
theorem WE.sub {value slice : Expr} {p : Pos} (h : WE C A env gs S H value (fun x H₁ => WE C A env gs S H₁ slice (fun y H₂ => W2 C A H₂ (subscriptTail value slice) x y Q))) : WE C A env gs S H (.Subscript value slice p) Q := by
  intro s I F
  refine Subscript_ (wpAny_mono (h s I F) (fun u s₁ h₁ => ?_) noE)
  first | (refine EP.elim h₁ fun x H₁ r₁ I₁ k₁ q₁ => ?_; clear h₁) | (refine LP.elim h₁ fun x H₁ r₁ I₁ k₁ q₁ => ?_; clear h₁) | obtain ⟨x, H₁, r₁, I₁, k₁, q₁⟩ := h₁
  refine wpAny_mono (q₁ s₁ I₁ (F.keep I k₁)) (fun v s₂ h₂ => ?_) noE
  first | (refine EP.elim h₂ fun y H₂ r₂ I₂ k₂ q₂ => ?_; clear h₂) | (refine LP.elim h₂ fun y H₂ r₂ I₂ k₂ q₂ => ?_; clear h₂) | obtain ⟨y, H₂, r₂, I₂, k₂, q₂⟩ := h₂
  exact wpAny_mono (q₂ s₂ u v I₂ (r₁.keep (I₁.tupKeep k₂)) r₂) (fun _ _ h => h.from (k₁.trans k₂)) noE
theorem W2.itemT {value slice : Expr} {xs : List MV} {k : Int} {x : MV} (h0 : 0 ≤ k) (hx : xs[k.toNat]? = some x) (hhi : k < 2 ^ 63) (q : Q x H) (hs : plainSlice slice := by intro _ _; with_unfolding_all rfl) :
    W2 C A H (subscriptTail value slice) (.tup xs) (.int k) Q := by
  intro s u v I r₁ r₂
  unfold VR at r₁ r₂
  obtain ⟨a, vs, rfl, ht, hr⟩ := r₁
  obtain ⟨t, rfl⟩ := r₂
  obtain ⟨w, hw, rw'⟩ := hr.get hx
  have hlt : k.toNat < vs.length := by
    rcases Nat.lt_or_ge k.toNat vs.length with h | h
    · exact h
    · rw [List.getElem?_eq_none h] at hw; cases hw
  refine item_tupleT (l := vs) (j := k.toNat) ht (by omega) hhi ?_ hw (EP.here I rw' q) (hs _ _)
  unfold seqIndex?
  have h1 : ¬ k < 0 := by omega
  have h2 : (decide (0 ≤ k) && decide (k < (vs.length : Int))) = true := by simp; omega
  simp only [h1, if_false]
  rw [if_pos h2]
theorem W2.itemL {value slice : Expr} {a : Addr} {xs : List MV} {k : Int} {x : MV} (hm : (a, MO.list xs) ∈ H) (h0 : 0 ≤ k) (hx : xs[k.toNat]? = some x) (hhi : k < 2 ^ 63) (q : Q x H) (hs : plainSlice slice := by intro _ _; with_unfolding_all rfl) :
    W2 C A H (subscriptTail value slice) (.ref a) (.int k) Q := by
  intro s u v I r₁ r₂
  unfold VR at r₁ r₂
  subst r₁
  obtain ⟨t, rfl⟩ := r₂
  obtain ⟨vs, n, ho, hr⟩ := I.objs _ hm
  obtain ⟨w, hw, rw'⟩ := hr.get hx
  have hl : s.heap.IsList a vs.toArray := ⟨_, ho, rfl, n, rfl⟩
  exact tail_any hl.typeIs slot_list_getitem.lookup (wpAny_getItem_list hl h0 hhi (by simpa using hw) (EP.here I rw' q)) (hs _ _)
theorem W2.itemF {value slice : Expr} {ns : List Int} {k : Int} {x : Int} (h0 : 0 ≤ k) (hx : ns[k.toNat]? = some x) (hhi : k < 2 ^ 63) (q : Q (.int x) H) (hs : plainSlice slice := by intro _ _; with_unfolding_all rfl) :
    W2 C A H (subscriptTail value slice) (.fl ns) (.int k) Q := by
  intro s u v I r₁ r₂
  unfold VR at r₁ r₂
  obtain ⟨a, vs, rfl, ⟨o, ho, hc, n, hd⟩, hi⟩ := r₁
  obtain ⟨t, rfl⟩ := r₂
  have hl : s.heap.IsList a vs.toArray := ⟨o, I.base _ _ ho, hc, n, hd⟩
  obtain ⟨tk, hw⟩ : ∃ tk, vs[k.toNat]? = some (.int x tk) := by
    clear ho hd hl
    generalize k.toNat = i at hx
    induction hi generalizing i with
    | nil => simp at hx
    | cons _ _ _ ih =>
      cases i with
      | zero => simp at hx; subst hx; exact ⟨_, rfl⟩
      | succ i => simp at hx; exact ih i hx
  exact tail_any hl.typeIs slot_list_getitem.lookup (wpAny_getItem_list hl h0 hhi (by simpa using hw) (EP.here I (by unfold VR; exact ⟨tk, rfl⟩) q)) (hs _ _)

/-! global names and calls -/
structure Gl (C : Cx) (f : Str) (v : Value) : Prop where
  nodbg : (f == ("__debug__" : Str)) = false
  val : C.mg f = some v ∨ (C.mg f = .none ∧ bootBuiltins f = some v ∧ f ≠ "__name__")
theorem WE.gl {f : Str} {p : Pos} {v : Value} (hx : f ∈ gs) (g : Gl C f v) (q : Q (.raw v) H) : WE C A env gs S H (.Name f p) Q := by
  rcases g.val with h | ⟨h1, h2, h3⟩
  · exact WE.glob hx h q g.nodbg
  · exact WE.builtin hx h1 h2 h3 q g.nodbg
theorem WE.callB {f : Str} {p pos : Pos} {id : String} {e : Expr} {rest : List Expr} (hx : f ∈ gs) (g : Gl C f (.builtin id))
    (h : WEs C A env gs S H (e :: rest) fun xs H' => WC C A H' (.builtin id) xs Q)
    (he : starEach (e :: rest) env = (false, eval e env) :: starEach rest env := by with_unfolding_all rfl) (hplain : (backTo pos (starEach rest env)).any (·.1) = false := by with_unfolding_all rfl) :
    WE C A env gs S H (.Call (.Name f p) (e :: rest) [] pos) Q := by
  intro s I F
  refine Call_ (wpAny_mono (WE.gl (Q := fun x H' => x = .raw (.builtin id) ∧ H' = H) hx g ⟨rfl, rfl⟩ s I F) (fun v s₁ h₁ => ?_) noE)
  first | (refine EP.elim h₁ fun x H₁ r₁ I₁ k₁ hq => ?_; clear h₁) | (refine LP.elim h₁ fun x H₁ r₁ I₁ k₁ hq => ?_; clear h₁) | obtain ⟨x, H₁, r₁, I₁, k₁, hq⟩ := h₁
  obtain ⟨rfl, rfl⟩ := hq
  unfold VR at r₁; subst r₁
  refine callWith_builtin1 (wpAny_mono (h s₁ pos I₁ (F.keep I k₁)) (fun vs s₂ h₂ => ?_) noE) he hplain
  first | (refine EP.elim h₂ fun xs H₂ r₂ I₂ k₂ q₂ => ?_; clear h₂) | (refine LP.elim h₂ fun xs H₂ r₂ I₂ k₂ q₂ => ?_; clear h₂) | obtain ⟨xs, H₂, r₂, I₂, k₂, q₂⟩ := h₂
  exact wpAny_mono (q₂ s₂ vs I₂ r₂) (fun _ _ h => h.from (k₁.trans k₂)) noE
theorem WE.callT {f : Str} {p pos : Pos} {T : String} {e : Expr} {rest : List Expr} (hx : f ∈ gs) (g : Gl C f (.type T))
    (h : WEs C A env gs S H (e :: rest) fun xs H' => WC C A H' (.type T) xs Q)
    (he : starEach (e :: rest) env = (false, eval e env) :: starEach rest env := by with_unfolding_all rfl) (hplain : (backTo pos (starEach rest env)).any (·.1) = false := by with_unfolding_all rfl) :
    WE C A env gs S H (.Call (.Name f p) (e :: rest) [] pos) Q := by
  intro s I F
  refine Call_ (wpAny_mono (WE.gl (Q := fun x H' => x = .raw (.type T) ∧ H' = H) hx g ⟨rfl, rfl⟩ s I F) (fun v s₁ h₁ => ?_) noE)
  first | (refine EP.elim h₁ fun x H₁ r₁ I₁ k₁ hq => ?_; clear h₁) | (refine LP.elim h₁ fun x H₁ r₁ I₁ k₁ hq => ?_; clear h₁) | obtain ⟨x, H₁, r₁, I₁, k₁, hq⟩ := h₁
  obtain ⟨rfl, rfl⟩ := hq
  unfold VR at r₁; subst r₁
  have hh := h s₁ pos I₁ (F.keep I k₁)
  rw [he] at hh ⊢
  refine PySem.callWith_type (by show (false || (backTo pos (starEach rest env)).any (·.1)) = false; rw [hplain]; rfl) (evalArgs_plain (wpAny_mono hh (fun vs s₂ h₂ => ?_) noE))
  first | (refine EP.elim h₂ fun xs H₂ r₂ I₂ k₂ q₂ => ?_; clear h₂) | (refine LP.elim h₂ fun xs H₂ r₂ I₂ k₂ q₂ => ?_; clear h₂) | obtain ⟨xs, H₂, r₂, I₂, k₂, q₂⟩ := h₂
  exact wpAny_mono (q₂ s₂ vs I₂ r₂) (fun _ _ h => h.from (k₁.trans k₂)) noE

/-- the def of this name -/
structure Fn (C : Cx) (f : Str) (name : Str) (params : Arguments) (body : List Stmt) (scope : Scope) : Prop where
  nodbg : (f == ("__debug__" : Str)) = false
  at' : ∃ a o pm cd doc, C.mg f = some (.ref a) ∧ C.h₀.get? a = some o ∧ o.data = .func (docDef name params body scope pm cd doc) ∧ C.h₀.CodeRec cd name
def WF (C : Cx) (A : Around) (H : Hp) (f : Str) (xs : List MV) (Q : MV → Hp → Prop) : Prop := ∀ a, C.mg f = some (.ref a) → WC C A H (.ref a) xs Q
theorem WE.callF {f nm : Str} {p pos : Pos} {pa : Arguments} {bo : List Stmt} {sc : Scope} {e : Expr} {rest : List Expr} (hx : f ∈ gs) (g : Fn C f nm pa bo sc)
    (h : WEs C A env gs S H (e :: rest) fun xs H' => WF C A H' f xs Q)
    (he : starEach (e :: rest) env = (false, eval e env) :: starEach rest env := by with_unfolding_all rfl) :
    WE C A env gs S H (.Call (.Name f p) (e :: rest) [] pos) Q := by
  intro s I F
  obtain ⟨a, o, pm, cd, doc, h1, h2, h3, h4⟩ := g.at'
  refine Call_ (wpAny_mono (WE.gl (Q := fun x H' => x = .raw (.ref a) ∧ H' = H) hx ⟨g.nodbg, .inl h1⟩ ⟨rfl, rfl⟩ s I F) (fun v s₁ h₁ => ?_) noE)
  first | (refine EP.elim h₁ fun x H₁ r₁ I₁ k₁ hq => ?_; clear h₁) | (refine LP.elim h₁ fun x H₁ r₁ I₁ k₁ hq => ?_; clear h₁) | obtain ⟨x, H₁, r₁, I₁, k₁, hq⟩ := h₁
  obtain ⟨rfl, rfl⟩ := hq
  unfold VR at r₁; subst r₁
  refine callWith_def h3 (wpAny_mono (h s₁ pos I₁ (F.keep I k₁)) (fun vs s₂ h₂ => ?_) noE) he
  first | (refine EP.elim h₂ fun xs H₂ r₂ I₂ k₂ q₂ => ?_; clear h₂) | (refine LP.elim h₂ fun xs H₂ r₂ I₂ k₂ q₂ => ?_; clear h₂) | obtain ⟨xs, H₂, r₂, I₂, k₂, q₂⟩ := h₂
  exact ⟨I₂.base _ _ h2, wpAny_mono (q₂ a h1 s₂ vs I₂ r₂) (fun _ _ h => h.from (k₁.trans k₂)) noE⟩

/-! built-in functions -/
theorem WC.of1 {f : Value} {x : MV} (h : ∀ s v, Inv C H s → VR C.h₀ s.heap x v → wpAny (Md C) A (call f [v] []) (EP C H s Q) NoE s) : WC C A H f [x] Q := by
  intro s vs I r
  obtain ⟨v, t, rfl, h1, h2⟩ := r.inv
  have := h2.inv0; subst this
  exact h s v I h1
theorem WC.of2 {f : Value} {x y : MV} (h : ∀ s u v, Inv C H s → VR C.h₀ s.heap x u → VR C.h₀ s.heap y v → wpAny (Md C) A (call f [u, v] []) (EP C H s Q) NoE s) : WC C A H f [x, y] Q := by
  intro s vs I r
  obtain ⟨u, t, rfl, h1, h2⟩ := r.inv
  obtain ⟨v, t, rfl, h3, h4⟩ := h2.inv
  have := h4.inv0; subst this
  exact h s u v I h1 h3
theorem WC.lenL {a : Addr} {xs : List MV} (hm : (a, MO.list xs) ∈ H) (hl : xs.length < 2 ^ 62) (q : Q (.int xs.length) H) : WC C A H (.builtin "len") [.ref a] Q := .of1 fun s v I r => by
  unfold VR at r; subst r
  obtain ⟨vs, n, ho, hr⟩ := I.objs _ hm
  have e : vs.toArray.size = xs.length := by rw [List.size_toArray, hr.length]
  refine call_len_list (items := vs.toArray) ⟨_, ho, rfl, n, rfl⟩ (by rw [e]; omega) ?_
  rw [e]
  exact EP.same I (by unfold VR; exact ⟨_, rfl⟩) q
theorem WC.lenT {xs : List MV} (hl : xs.length < 2 ^ 62) (q : Q (.int xs.length) H) : WC C A H (.builtin "len") [.tup xs] Q := .of1 fun s v I r => by
  unfold VR at r
  obtain ⟨a, vs, rfl, ht, hr⟩ := r
  have e : vs.toArray.size = xs.length := by rw [List.size_toArray, hr.length]
  refine len_tuple (items := vs.toArray) ht (by rw [e]; omega) ?_
  rw [e]
  exact EP.same I (by unfold VR; exact ⟨_, rfl⟩) q
theorem WC.lenF {ns : List Int} (hl : ns.length < 2 ^ 62) (q : Q (.int ns.length) H) : WC C A H (.builtin "len") [.fl ns] Q := .of1 fun s v I r => by
  unfold VR at r
  obtain ⟨a, vs, rfl, ⟨o, ho, hc, n, hd⟩, hr⟩ := r
  have e : vs.toArray.size = ns.length := by rw [List.size_toArray, hr.length]
  refine call_len_list (items := vs.toArray) ⟨_, I.base _ _ ho, hc, n, hd⟩ (by rw [e]; omega) ?_
  rw [e]
  exact EP.same I (by unfold VR; exact ⟨_, rfl⟩) q

theorem WC.isiII {i : Int} (q : Q (.bool true) H) : WC C A H (.builtin "isinstance") [.int i, .raw (.type "int")] Q := .of2 fun s u v I r₁ r₂ => by
  unfold VR at r₁ r₂; obtain ⟨t, rfl⟩ := r₁; subst r₂
  exact IsiPair.int_int (EP.here I (by unfold VR; rfl) q)
theorem WC.isiIB {i : Int} (q : Q (.bool false) H) : WC C A H (.builtin "isinstance") [.int i, .raw (.type "bool")] Q := .of2 fun s u v I r₁ r₂ => by
  unfold VR at r₁ r₂; obtain ⟨t, rfl⟩ := r₁; subst r₂
  exact IsiPair.int_bool (EP.same I (by unfold VR; rfl) q)
theorem WC.isiBB {b : Bool} (q : Q (.bool true) H) : WC C A H (.builtin "isinstance") [.bool b, .raw (.type "bool")] Q := .of2 fun s u v I r₁ r₂ => by
  unfold VR at r₁ r₂; subst r₁; subst r₂
  exact IsiPair.bool_bool (EP.here I (by unfold VR; rfl) q)
theorem WC.isiBI {b : Bool} (q : Q (.bool true) H) : WC C A H (.builtin "isinstance") [.bool b, .raw (.type "int")] Q := .of2 fun s u v I r₁ r₂ => by
  unfold VR at r₁ r₂; subst r₁; subst r₂
  exact IsiPair.bool_int (EP.here I (by unfold VR; rfl) q)
theorem WC.isiLL {a : Addr} {xs : List MV} (hm : (a, MO.list xs) ∈ H) (q : Q (.bool true) H) : WC C A H (.builtin "isinstance") [.ref a, .raw (.type "list")] Q := .of2 fun s u v I r₁ r₂ => by
  unfold VR at r₁ r₂; subst r₁; subst r₂
  obtain ⟨vs, n, ho, hr⟩ := I.objs _ hm
  exact IsiPair.list_list ho rfl (EP.here I (by unfold VR; rfl) q)
theorem WC.isiTT {xs : List MV} (q : Q (.bool true) H) : WC C A H (.builtin "isinstance") [.tup xs, .raw (.type "tuple")] Q := .of2 fun s u v I r₁ r₂ => by
  unfold VR at r₁ r₂; obtain ⟨a, vs, rfl, ⟨o, ho, hc, n, hd⟩, hr⟩ := r₁; subst r₂
  exact IsiPair.tuple_tuple ho hc (EP.here I (by unfold VR; rfl) q)

theorem WC.listL {a : Addr} {xs : List MV} (hm : (a, MO.list xs) ∈ H) (hsz : xs.length ≤ sizeLine) (q : ∀ b, ¬ dom H b → Q (.ref b) ((b, .list xs) :: H)) : WC C A H (.type "list") [.ref a] Q := .of1 fun s v I r => by
  unfold VR at r; subst r
  obtain ⟨vs, n, ho, hr⟩ := I.objs _ hm
  refine call_list_seq a (T := "list") (.inl rfl) ho rfl rfl (fun h' c' hk hn => ?_) (by rw [List.size_toArray, hr.length]; exact hsz)
  obtain ⟨I', k, nd⟩ := I.add (mo := .list xs) hk get_size ⟨vs, c', hn, hr.keep (.of_keeps hk)⟩ s.toks
  exact ⟨_, _, by unfold VR; rfl, I', k, q _ nd⟩
theorem WC.tupL {a : Addr} {xs : List MV} (hm : (a, MO.list xs) ∈ H) (hsz : xs.length ≤ sizeLine) (q : Q (.tup xs) H) : WC C A H (.type "tuple") [.ref a] Q := .of1 fun s v I r => by
  unfold VR at r; subst r
  obtain ⟨vs, n, ho, hr⟩ := I.objs _ hm
  refine call_tuple_list (items := vs.toArray) ⟨_, ho, rfl, n, rfl⟩ (fun h' hk => ?_) (by rw [List.size_toArray, hr.length]; exact hsz)
  refine EP.grown (t := s.toks) I (fun b o e => Heap.get?_push_of_some _ (hk b o e)) ?_ q
  unfold VR
  exact ⟨_, vs, rfl, ⟨_, Heap.get?_push_size _ rfl, rfl, 0, rfl⟩, hr.keep (.of_keeps fun b o e => Heap.get?_push_of_some _ (hk b o e))⟩
theorem WC.range1 {i : Int} (q : Q (.rng 0 i) H) : WC C A H (.type "range") [.int i] Q := .of1 fun s v I r => by
  unfold VR at r; obtain ⟨t, rfl⟩ := r
  refine call_range_1 (EP.grown I (fun b o e => Heap.get?_push_of_some _ e) ?_ q)
  unfold VR; exact ⟨_, _, _, _, rfl, Heap.get?_push_size _ rfl⟩
theorem WC.range2 {i j : Int} (q : Q (.rng i j) H) : WC C A H (.type "range") [.int i, .int j] Q := .of2 fun s u v I r₁ r₂ => by
  unfold VR at r₁ r₂; obtain ⟨t, rfl⟩ := r₁; obtain ⟨t', rfl⟩ := r₂
  refine call_range_2 (EP.grown I (fun b o e => Heap.get?_push_of_some _ e) ?_ q)
  unfold VR; exact ⟨_, _, _, _, rfl, Heap.get?_push_size _ rfl⟩
end
end Mine
namespace Mine
open PySem PySem.Calls PyProof.Rows

inductive Fl where
  | next | brk | cont
  | ret (v : MV)
def FR (b h : Heap) : Fl → Flow → Prop
  | .next, f => f = .next
  | .brk, f => f = .brk
  | .cont, f => f = .cont
  | .ret x, f => ∃ v, f = .ret v ∧ VR b h x v

def Own (env : Env) (b : Addr) : Prop := b = env.locals ∨ ∃ n, (n, b) ∈ env.cells
def KpS (env : Env) (h : Heap) (H : Hp) (h' : Heap) (H' : Hp) : Prop :=
  ∀ b o, h.get? b = some o → ¬ dom H b → ¬ dom H' b ∧ ∃ o', h'.get? b = some o' ∧ (¬ Own env b → o' = o)
theorem Kp.toS {env : Env} {h h' : Heap} {H H' : Hp} (k : Kp h H h' H') : KpS env h H h' H' := fun b o e n => ⟨(k b o e n).2, o, (k b o e n).1, fun _ => rfl⟩
theorem KpS.trans {env : Env} {h h' h'' : Heap} {H H' H'' : Hp} (p : KpS env h H h' H') (q : KpS env h' H' h'' H'') : KpS env h H h'' H'' := fun b o e n => by
  obtain ⟨n', o', e', r'⟩ := p b o e n
  obtain ⟨n'', o'', e'', r''⟩ := q b o' e' n'
  exact ⟨n'', o'', e'', fun ho => (r'' ho).trans (r' ho)⟩
theorem KpS.refl {env : Env} {h : Heap} {H : Hp} : KpS env h H h H := fun _ o e n => ⟨n, o, e, fun _ => rfl⟩

def NoFree (env : Env) (S : Sg) : Prop := ∀ x ∈ names S, env.kindOf x ≠ some .free

def SP (C : Cx) (env : Env) (gs : List Str) (S : Sg) (H : Hp) (s : Shared) (Q : Fl → Sg → Hp → Prop) : Flow → Shared → Prop :=
  fun f s' => ∃ fl S' H', FR C.h₀ s'.heap fl f ∧ Inv C H' s' ∧ Fm C env gs S' H' s'.heap ∧ KpS env s.heap H s'.heap H' ∧ names S' = names S ∧ Q fl S' H'
def WS (C : Cx) (A : Around) (env : Env) (gs : List Str) (S : Sg) (H : Hp) (st : Stmt) (Q : Fl → Sg → Hp → Prop) : Prop :=
  ∀ s, Inv C H s → Fm C env gs S H s.heap → NoFree env S → wpAny (Md C) A (exec st env) (SP C env gs S H s Q) NoE s
def WSs (C : Cx) (A : Around) (env : Env) (gs : List Str) (S : Sg) (H : Hp) (ss : List Stmt) (Q : Fl → Sg → Hp → Prop) : Prop :=
  ∀ s, Inv C H s → Fm C env gs S H s.heap → NoFree env S → wpAny (Md C) A (execs ss env) (SP C env gs S H s Q) NoE s
/-- an assignment of a value -/
def WA (C : Cx) (A : Around) (env : Env) (gs : List Str) (S : Sg) (H : Hp) (target : Expr) (x : MV) (K : Sg → Hp → Prop) : Prop :=
  ∀ s v, Inv C H s → Fm C env gs S H s.heap → NoFree env S → VR C.h₀ s.heap x v →
    wpAny (Md C) A (assign target env v) (fun _ s' => ∃ S' H', Inv C H' s' ∧ Fm C env gs S' H' s'.heap ∧ KpS env s.heap H s'.heap H' ∧ names S' = names S ∧ K S' H') NoE s

theorem SP.from {C : Cx} {env : Env} {gs : List Str} {S S₁ : Sg} {H H₁ : Hp} {s s₁ : Shared} {Q : Fl → Sg → Hp → Prop} {f : Flow} {s' : Shared}
    (k : KpS env s.heap H s₁.heap H₁) (hn : names S₁ = names S) (h : SP C env gs S₁ H₁ s₁ Q f s') : SP C env gs S H s Q f s' :=
  let ⟨fl, S', H', r, I, F, k', n', q⟩ := h; ⟨fl, S', H', r, I, F, k.trans k', n'.trans hn, q⟩
theorem NoFree.of {env : Env} {S S' : Sg} (n : NoFree env S) (h : names S' = names S) : NoFree env S' := fun x hx => n x (h ▸ hx)

/-- what may be changed when nobody names it -/
def Ext (wr : List Addr) (h h' : Heap) : Prop := ∀ b o, b ∉ wr → h.get? b = some o → h'.get? b = some o
section
variable {C : Cx} {A : Around} {env : Env} {gs : List Str} {S : Sg} {H : Hp} {n : Nat}

theorem VR.ext {wr : List Addr} {b h h' : Heap} {x : MV} {v : Value} (r : VR b h x v) (e : Ext wr h h') (hi : ∀ a ∈ wr, ∀ o, h.get? a = some o → ¬ Imm o) : VR b h' x v :=
  r.keep fun a o ho hm => e a o (fun hw => hi a hw o ho hm) ho
theorem touch {wr : List Addr} {s : Shared} {h' : Heap} (I : Inv C H s) (F : Fm C env gs S H s.heap) (e : Ext wr s.heap h')
    (hw : ∀ b ∈ wr, ¬ dom H b ∧ C.h₀.get? b = none ∧ ¬ Own env b ∧ ∀ o, s.heap.get? b = some o → ¬ Imm o) (t : Nat) :
    Inv C H { s with heap := h', toks := t } ∧ Fm C env gs S H h' := by
  have tk : TupKeep s.heap h' := fun a o ho hm => e a o (fun h => (hw a h).2.2.2 o ho hm) ho
  refine ⟨⟨fun b o hb => e b o (fun h => ?_) (I.base b o hb), fun p hp => (I.objs p hp).keep tk fun ob ho => e _ _ (fun h => (hw _ h).1 (List.mem_map_of_mem hp)) ho, I.new, I.nodup, I.gens, I.os⟩, ?_⟩
  · rw [(hw b h).2.1] at hb; cases hb
  · obtain ⟨ok, ⟨mr, ⟨oL, es, ep, hL, r⟩, hv⟩, nl, nl0, hc⟩ := F
    refine ⟨ok, ⟨mr, ⟨oL, es, ep, e _ _ (fun h => (hw _ h).2.2.1 (.inl rfl)) hL, r⟩, fun x v a k => ?_⟩, nl, nl0, fun n c hcc => ?_⟩
    · obtain ⟨u, h1, h2⟩ := hv x v a k; exact ⟨u, h1, h2.keep tk⟩
    · obtain ⟨vo, ⟨oc, ho, hd⟩, nd, n0, hv⟩ := hc n c hcc
      refine ⟨vo, ⟨oc, e _ _ (fun h => (hw _ h).2.2.1 (.inr ⟨n, hcc⟩)) ho, hd⟩, nd, n0, fun v a k => ?_⟩
      obtain ⟨u, h1, h2⟩ := hv v a k; exact ⟨u, h1, h2.keep tk⟩

/-! storing a name -/
theorem store {s : Shared} {x : Str} {v : MV} {u : Value} {S' : Sg} {Q : Unit → Shared → Prop} {E : Value → Shared → Prop} {M : Model} (I : Inv C H s) (F : Fm C env gs S H s.heap) (hf : env.kindOf x ≠ some .free) (p : Put S x v S') (r : VR C.h₀ s.heap v u)
    (h : ∀ s', Inv C H s' → Fm C env gs S' H s'.heap → KpS env s.heap H s'.heap H → TupKeep s.heap s'.heap → (env.kindOf x = some .local → Heap.ExtBut env.locals s.heap s'.heap) → Q () s') : wpAny M A (storeName env x u) Q E s := by
  obtain ⟨ok, ⟨mr, hn, hv⟩, nl, nl0, hc⟩ := F
  have hns := p.names
  have nd : (Mine.names S).Nodup := ok.nodup
  rcases ok.vars x p.mem with hl | ⟨hl, c, hcc⟩
  · refine wpAny_storeName_local hl hn (fun h' hn' hs => h _ ?_ ?_ ?_ ?_ (fun _ => hs.extBut)) (by rw [ok.kind]; rfl)
    all_goals have ex : ∀ b o, b ≠ env.locals → s.heap.get? b = some o → h'.get? b = some o := fun b o hb e => hs.extBut b o hb e
    all_goals have tk : TupKeep s.heap h' := fun a o e hm => ex a o (fun q => by
      obtain ⟨oL, es, ep, hL, hd, _⟩ := hn
      rw [q, hL] at e; cases e
      rcases hm with ⟨_, _, _, hd'⟩ | ⟨_, _, hd'⟩ <;> (rw [hd] at hd'; cases hd')) e
    · exact ⟨fun b o e => ex b o (fun q => by rw [q, nl0] at e; cases e) (I.base b o e), fun p hp => (I.objs p hp).keep tk fun ob e => ex _ _ (fun q => nl (q ▸ List.mem_map_of_mem hp)) e, I.new, I.nodup, I.gens, I.os⟩
    · refine ⟨hns ▸ ok, ⟨_, hn', fun y w a k => ?_⟩, nl, nl0, fun n c' e => ?_⟩
      · rcases p.at nd a with ⟨rfl, rfl⟩ | ⟨hne, a'⟩
        · exact ⟨u, by simp, r.keep tk⟩
        · obtain ⟨z, h1, h2⟩ := hv y w a' k
          exact ⟨z, by simp [hne, h1], h2.keep tk⟩
      · obtain ⟨vo, ⟨oc, ho, hd⟩, ndc, n0, hv'⟩ := hc n c' e
        have hne : c' ≠ env.locals := fun q => ok.off n c' e q.symm
        refine ⟨vo, ⟨oc, ex _ _ hne ho, hd⟩, ndc, n0, fun w a k => ?_⟩
        rcases p.at nd a with ⟨rfl, rfl⟩ | ⟨_, a'⟩
        · exact absurd hl k
        · obtain ⟨z, h1, h2⟩ := hv' w a' k; exact ⟨z, h1, h2.keep tk⟩
    · intro b o e hnd
      refine ⟨hnd, ?_⟩
      by_cases q : b = env.locals
      · obtain ⟨oL, es, ep, hL, _⟩ := hn'
        exact ⟨oL, q ▸ hL, fun ho => absurd (.inl q) ho⟩
      · exact ⟨o, ex b o q e, fun _ => rfl⟩
    · exact tk
  · have hl' : env.kindOf x = some .cell := by
      rcases hl with h | h
      · exact h
      · exact absurd h.1 hf
    obtain ⟨vo, hcell, ndc, n0, hvc⟩ := hc x c (mem_of_lookup hcc)
    refine wpAny_storeName_cell ok.kind hl' hcc hcell (fun h' hc' hs => h _ ?_ ?_ ?_ ?_ (fun q => by rw [hl'] at q; cases q))
    all_goals have ex : ∀ b o, b ≠ c → s.heap.get? b = some o → h'.get? b = some o := fun b o hb e => hs.extBut b o hb e
    all_goals have tk : TupKeep s.heap h' := fun a o e hm => ex a o (fun q => by
      obtain ⟨oL, hL, hd⟩ := hcell
      rw [q, hL] at e; cases e
      rcases hm with ⟨_, _, _, hd'⟩ | ⟨_, _, hd'⟩ <;> (rw [hd] at hd'; cases hd')) e
    · exact ⟨fun b o e => ex b o (fun q => by rw [q, n0] at e; cases e) (I.base b o e), fun p hp => (I.objs p hp).keep tk fun ob e => ex _ _ (fun q => ndc (q ▸ List.mem_map_of_mem hp)) e, I.new, I.nodup, I.gens, I.os⟩
    · refine ⟨hns ▸ ok, ⟨mr, hn.sameBut hs (ok.off x c (mem_of_lookup hcc)), fun y w a k => ?_⟩, nl, nl0, fun n c' e => ?_⟩
      · rcases p.at nd a with ⟨rfl, rfl⟩ | ⟨_, a'⟩
        · rw [hl'] at k; cases k
        · obtain ⟨z, h1, h2⟩ := hv y w a' k
          exact ⟨z, h1, h2.keep tk⟩
      · by_cases hnx : n = x
        · subst hnx
          obtain rfl := ok.cfun n c' c e (mem_of_lookup hcc)
          refine ⟨some u, hc', ndc, n0, fun w a k => ?_⟩
          rcases p.at nd a with ⟨_, rfl⟩ | ⟨hne, _⟩
          · exact ⟨u, rfl, r.keep tk⟩
          · exact absurd rfl hne
        · obtain ⟨vo', ⟨oc, ho, hd⟩, ndc', n0', hv'⟩ := hc n c' e
          have hne : c' ≠ c := fun q => hnx (name_of_addr ok.apart e (q ▸ mem_of_lookup hcc))
          refine ⟨vo', ⟨oc, ex _ _ hne ho, hd⟩, ndc', n0', fun w a k => ?_⟩
          rcases p.at nd a with ⟨q, _⟩ | ⟨_, a'⟩
          · exact absurd q hnx
          · obtain ⟨z, h1, h2⟩ := hv' w a' k; exact ⟨z, h1, h2.keep tk⟩
    · intro b o e hnd
      refine ⟨hnd, ?_⟩
      by_cases q : b = c
      · obtain ⟨oL, hL, _⟩ := hc'
        exact ⟨oL, q ▸ hL, fun ho => absurd (.inr ⟨x, q ▸ mem_of_lookup hcc⟩) ho⟩
      · exact ⟨o, ex b o q e, fun _ => rfl⟩
    · exact tk

theorem Fm.ownImm {h : Heap} (F : Fm C env gs S H h) {a : Addr} {o : Obj} (hw : Own env a) (e : h.get? a = some o) : ¬ Imm o := by
  intro hm
  rcases hw with q | ⟨nn, q⟩
  · obtain ⟨mr, ⟨oL, es, ep, hL, hd, _⟩, _⟩ := F.ns
    rw [q, hL] at e; cases e
    rcases hm with ⟨_, _, _, hd'⟩ | ⟨_, _, hd'⟩ <;> (rw [hd] at hd'; cases hd')
  · obtain ⟨vo, ⟨oc, ho, hd⟩, _⟩ := F.cell nn a q
    rw [ho] at e; cases e
    rcases hm with ⟨_, _, _, hd'⟩ | ⟨_, _, hd'⟩ <;> (rw [hd] at hd'; cases hd')

theorem WA.name {x : Str} {p : Pos} {v : MV} {S' : Sg} {K : Sg → Hp → Prop} (h : Put S x v S') (q : K S' H) : WA C A env gs S H (.Name x p) v K := by
  intro s u I F nf r
  exact wpAny_assign_Name (store I F (nf x h.mem) h r fun s' I' F' k _ _ => ⟨S', H, I', F', k, h.names, q⟩)
theorem WA.tup2 {a b : Str} {pa pb p : Pos} {k n : Nat} {x y : MV} {S₁ S₂ : Sg} {K : Sg → Hp → Prop} (hA : AOk A n) (h₁ : Put S a x S₁) (h₂ : Put S₁ b y S₂) (q : K S₂ H) :
    WA C A env gs S H (.Tuple [.Name a pa, .Name b pb] k p) (.tup [x, y]) K := by
  intro s u I F nf r
  unfold VR at r
  obtain ⟨t, vs, rfl, ht, hr⟩ := r
  obtain ⟨v, vs', rfl, r1, hr'⟩ := hr.inv
  obtain ⟨w, vs'', rfl, r2, hr''⟩ := hr'.inv
  have := hr''.inv0; subst this
  refine wpAny_assign_Tuple hA.handled ht rfl rfl fun h' hx => ?_
  have kk : ∀ b o, s.heap.get? b = some o → h'.get? b = some o := fun b o e => hx b o (Nat.ne_of_lt (Heap.lt_size e)) e
  have I' : Inv C H { s with heap := h' } := I.grow kk s.toks
  have k' : Kp s.heap H h' H := Kp.of_keeps kk
  have F' := F.keep I k'
  have tk : TupKeep s.heap h' := .of_keeps kk
  show wpAny _ A (do holding [w] (assign (.Name a pa) env v); assignInOrder [assign (.Name b pb) env] [w]) _ _ _
  refine wpAny_bind (wpAny_holding (wpAny_assign_Name (store I' F' (nf a h₁.mem) h₁ (r1.keep tk) fun s₁ I₁ F₁ k₁ t₁ _ => ?_)))
  show wpAny _ A (do holding [] (assign (.Name b pb) env w); assignInOrder [] []) _ _ _
  have nf₁ := nf.of h₁.names
  have r2' : VR C.h₀ s₁.heap y w := (r2.keep tk).keep t₁
  refine wpAny_bind (wpAny_holding (wpAny_assign_Name (store I₁ F₁ (nf₁ b h₂.mem) h₂ r2' fun s₂ I₂ F₂ k₂ _ _ => ?_)))
  exact wpAny_pure ⟨S₂, H, I₂, F₂, (k'.toS.trans k₁).trans k₂, h₂.names.trans h₁.names, q⟩
end
end Mine
namespace Mine
open PySem PySem.Calls PyProof.Rows

section
variable {C : Cx} {A : Around} {env : Env} {gs : List Str} {S : Sg} {H : Hp} {n : Nat} {Q : Fl → Sg → Hp → Prop}

def Seq (Q : Fl → Sg → Hp → Prop) (k : Sg → Hp → Prop) : Fl → Sg → Hp → Prop
  | .next, S, H => k S H
  | .brk, S, H => Q .brk S H
  | .cont, S, H => Q .cont S H
  | .ret v, S, H => Q (.ret v) S H

theorem WSs.nil (q : Q .next S H) : WSs C A env gs S H [] Q := fun s I F _ => wpAny_execs_nil ⟨.next, S, H, rfl, I, F, KpS.refl, rfl, q⟩
theorem WSs.cons {st : Stmt} {rest : List Stmt} (h : WS C A env gs S H st (Seq Q fun S' H' => WSs C A env gs S' H' rest Q)) : WSs C A env gs S H (st :: rest) Q := by
  intro s I F nf
  refine wpAny_execs_cons (wpAny_mono (h s I F nf) (fun f s₁ h₁ => ?_) noE)
  first | (refine EP.elim h₁ fun fl S₁ H₁ r I₁ hq => ?_; clear h₁) | (refine LP.elim h₁ fun fl S₁ H₁ r I₁ hq => ?_; clear h₁) | obtain ⟨fl, S₁, H₁, r, I₁, hq⟩ := h₁
  obtain ⟨F₁, k₁, n₁, q₁⟩ := hq
  cases fl with
  | next =>
    have : f = .next := r
    subst this
    exact wpAny_mono (q₁ s₁ I₁ F₁ (nf.of n₁)) (fun _ _ h => h.from k₁ n₁) noE
  | brk =>
    have : f = .brk := r
    subst this
    exact ⟨.brk, S₁, H₁, rfl, I₁, F₁, k₁, n₁, q₁⟩
  | cont =>
    have : f = .cont := r
    subst this
    exact ⟨.cont, S₁, H₁, rfl, I₁, F₁, k₁, n₁, q₁⟩
  | ret x =>
    obtain ⟨v, rfl, hv⟩ := r
    exact ⟨.ret x, S₁, H₁, ⟨v, rfl, hv⟩, I₁, F₁, k₁, n₁, q₁⟩
/-- forget objects -/
theorem WSs.sub {st : List Stmt} {H' : Hp} (h : WSs C A env gs S H' st Q) (hs : H'.Sublist H) : WSs C A env gs S H st Q := by
  intro s I F nf
  have k : Kp s.heap H s.heap H' := (Kp.refl _ _).sub hs
  exact wpAny_mono (h s (I.sub hs) (F.keep I k) nf) (fun _ _ p => p.from k.toS rfl) noE
theorem WS.ret {e : Expr} {p : Pos} (h : WE C A env gs S H e fun v H' => Q (.ret v) S H') : WS C A env gs S H (.Return (some e) p) Q := by
  intro s I F nf
  refine wpAny_Return_some (wpAny_mono (h s I F) (fun v s₁ h₁ => ?_) noE)
  first | (refine EP.elim h₁ fun x H₁ r I₁ k₁ q₁ => ?_; clear h₁) | (refine LP.elim h₁ fun x H₁ r I₁ k₁ q₁ => ?_; clear h₁) | obtain ⟨x, H₁, r, I₁, k₁, q₁⟩ := h₁
  exact ⟨.ret x, S, H₁, ⟨v, rfl, r⟩, I₁, F.keep I k₁, k₁.toS, rfl, q₁⟩
theorem WS.if {test : Expr} {body orelse : List Stmt} {p : Pos} (h : WT C A env gs S H test fun b H' => if b = true then WSs C A env gs S H' body Q else WSs C A env gs S H' orelse Q) : WS C A env gs S H (.If test body orelse p) Q := by
  intro s I F nf
  refine wpAny_If (wpAny_mono (h s I F) (fun b s₁ h₁ => ?_) noE)
  first | (refine BP.elim h₁ fun H₁ I₁ k₁ q₁ => ?_; clear h₁) | obtain ⟨H₁, I₁, k₁, q₁⟩ := h₁
  cases b with
  | true => exact wpAny_mono (q₁ s₁ I₁ (F.keep I k₁) nf) (fun _ _ h => h.from k₁.toS rfl) noE
  | false => exact wpAny_mono (q₁ s₁ I₁ (F.keep I k₁) nf) (fun _ _ h => h.from k₁.toS rfl) noE
/-- a plain assignment -/
theorem WS.assign {x : Str} {px p : Pos} {e : Expr} (h : WE C A env gs S H e fun v H' => ∃ S', Put S x v S' ∧ Q .next S' H')
    (hs : swapsWith e (some (.Name x px)) p.line env = pure false := by with_unfolding_all rfl) : WS C A env gs S H (.Assign [.Name x px] e p) Q := by
  intro s I F nf
  refine wpAny_Assign_Name (wpAny_mono (h s I F) (fun v s₁ h₁ => ?_) noE) hs
  first | (refine EP.elim h₁ fun y H₁ r I₁ k₁ hq => ?_; clear h₁) | (refine LP.elim h₁ fun y H₁ r I₁ k₁ hq => ?_; clear h₁) | obtain ⟨y, H₁, r, I₁, k₁, hq⟩ := h₁
  obtain ⟨S', pt, q₁⟩ := hq
  exact store I₁ (F.keep I k₁) (nf x pt.mem) pt r fun s' I' F' k' _ _ => ⟨.next, S', H₁, rfl, I', F', k₁.toS.trans k', pt.names, q₁⟩
theorem WS.assignT {es : List Expr} {k : Nat} {tp p : Pos} {e : Expr} (h : WE C A env gs S H e fun v H' => WA C A env gs S H' (.Tuple es k tp) v fun S' H'' => Q .next S' H'')
    (hs : swapsWithSole [.Tuple es k tp] e p.line env = pure false := by with_unfolding_all rfl) (hw : swappedStores [.Tuple es k tp] e env = pure none := by with_unfolding_all rfl) : WS C A env gs S H (.Assign [.Tuple es k tp] e p) Q := by
  intro s I F nf
  refine Assign_Tuple (wpAny_mono (h s I F) (fun v s₁ h₁ => ?_) noE) hs hw
  first | (refine EP.elim h₁ fun y H₁ r I₁ k₁ q₁ => ?_; clear h₁) | (refine LP.elim h₁ fun y H₁ r I₁ k₁ q₁ => ?_; clear h₁) | obtain ⟨y, H₁, r, I₁, k₁, q₁⟩ := h₁
  refine wpAny_mono (q₁ s₁ v I₁ (F.keep I k₁) nf r) (fun _ s₂ h₂ => ?_) noE
  first | (refine EP.elim h₂ fun S₂ H₂ I₂ F₂ k₂ hq => ?_; clear h₂) | (refine LP.elim h₂ fun S₂ H₂ I₂ F₂ k₂ hq => ?_; clear h₂) | obtain ⟨S₂, H₂, I₂, F₂, k₂, hq⟩ := h₂
  obtain ⟨n₂, q₂⟩ := hq
  exact ⟨.next, S₂, H₂, rfl, I₂, F₂, k₁.toS.trans k₂, n₂, q₂⟩
/-- an expression for its effect: it hands back None -/
theorem WS.expr {e : Expr} {p : Pos} (h : WE C A env gs S H e fun v H' => v = .none ∧ Q .next S H') (hs : swapsWith e none p.line env = pure false := by with_unfolding_all rfl) : WS C A env gs S H (.Expr e p) Q := by
  intro s I F nf
  refine wpAny_Expr (wpAny_mono (h s I F) (fun v s₁ h₁ => ?_) noE) (by unfold interactive; rw [F.ok.kind]; rfl) hs
  first | (refine EP.elim h₁ fun y H₁ r I₁ k₁ hq => ?_; clear h₁) | (refine LP.elim h₁ fun y H₁ r I₁ k₁ hq => ?_; clear h₁) | obtain ⟨y, H₁, r, I₁, k₁, hq⟩ := h₁
  obtain ⟨rfl, q₁⟩ := hq
  unfold VR at r; subst r
  exact ⟨.next, S, H₁, rfl, I₁, F.keep I k₁, k₁.toS, rfl, q₁⟩
/-- a store into a list or a dict -/
def W3 (C : Cx) (A : Around) (H : Hp) (o i v : MV) (K : Hp → Prop) : Prop :=
  ∀ s a b c, Inv C H s → VR C.h₀ s.heap o a → VR C.h₀ s.heap i b → VR C.h₀ s.heap v c → wpAny (Md C) A (setItem a b c) (fun _ s' => ∃ H', Inv C H' s' ∧ Kp s.heap H s'.heap H' ∧ K H') NoE s
theorem WS.setItem {o i e : Expr} {px p : Pos} (h : WE C A env gs S H e fun v H₁ => WE C A env gs S H₁ o fun x H₂ => WE C A env gs S H₂ i fun y H₃ => W3 C A H₃ x y v fun H₄ => Q .next S H₄)
    (hs : swapsWith e (some (.Subscript o i px)) p.line env = pure false := by with_unfolding_all rfl) : WS C A env gs S H (.Assign [.Subscript o i px] e p) Q := by
  intro s I F nf
  refine wpAny_Assign_Subscript (wpAny_mono (h s I F) (fun v s₁ h₁ => ?_) noE) hs
  first | (refine EP.elim h₁ fun vv H₁ r₁ I₁ k₁ q₁ => ?_; clear h₁) | (refine LP.elim h₁ fun vv H₁ r₁ I₁ k₁ q₁ => ?_; clear h₁) | obtain ⟨vv, H₁, r₁, I₁, k₁, q₁⟩ := h₁
  have F₁ := F.keep I k₁
  refine wpAny_mono (q₁ s₁ I₁ F₁) (fun a s₂ h₂ => ?_) noE
  first | (refine EP.elim h₂ fun x H₂ r₂ I₂ k₂ q₂ => ?_; clear h₂) | (refine LP.elim h₂ fun x H₂ r₂ I₂ k₂ q₂ => ?_; clear h₂) | obtain ⟨x, H₂, r₂, I₂, k₂, q₂⟩ := h₂
  have F₂ := F₁.keep I₁ k₂
  refine wpAny_mono (q₂ s₂ I₂ F₂) (fun b s₃ h₃ => ?_) noE
  first | (refine EP.elim h₃ fun y H₃ r₃ I₃ k₃ q₃ => ?_; clear h₃) | (refine LP.elim h₃ fun y H₃ r₃ I₃ k₃ q₃ => ?_; clear h₃) | obtain ⟨y, H₃, r₃, I₃, k₃, q₃⟩ := h₃
  have F₃ := F₂.keep I₂ k₃
  refine wpAny_mono (q₃ s₃ a b v I₃ (r₂.keep (I₂.tupKeep k₃)) r₃ (r₁.keep ((I₁.tupKeep k₂).trans (I₂.tupKeep k₃)))) (fun _ s₄ h₄ => ?_) noE
  first | (refine BP.elim h₄ fun H₄ I₄ k₄ q₄ => ?_; clear h₄) | obtain ⟨H₄, I₄, k₄, q₄⟩ := h₄
  exact ⟨.next, S, H₄, rfl, I₄, F₃.keep I₃ k₄, (((k₁.trans k₂).trans k₃).trans k₄).toS, rfl, q₄⟩

/-! iterators -/
structure Itr (C : Cx) (A : Around) (it : Addr) (wr : List Addr) (target : Expr) (xs : List MV) (Ok : Hp → Prop) (St : Nat → Heap → Prop) (Mid : Nat → Value → Heap → Prop) : Prop where
  frame : ∀ i h h', St i h → TupKeep h h' → (∀ b ∈ wr, ∀ o, h.get? b = some o → h'.get? b = some o) → St i h'
  obj : ∀ i h, (St i h ∨ ∃ v, Mid i v h) → ∀ b ∈ wr, ∃ o, h.get? b = some o ∧ ¬ Imm o
  next : ∀ i x H s (Q : Option Value → Shared → Prop), xs[i]? = some x → Inv C H s → Ok H → St i s.heap →
    (∀ v h' t, VR C.h₀ h' x v → Mid i v h' → Ext wr s.heap h' → Q (some v) { s with heap := h', toks := t }) → wpAny (Md C) A (pyNext (.ref it)) Q NoE s
  go : ∀ i x v s (Q : Unit → Shared → Prop), xs[i]? = some x → VR C.h₀ s.heap x v → Mid i v s.heap → (∀ h' t, St (i + 1) h' → Ext wr s.heap h' → Q () { s with heap := h', toks := t }) →
    wpAny (Md C) A (letOwnedTupleGo target (.ref it) v) Q NoE s
  done : ∀ H s (Q : Option Value → Shared → Prop), Inv C H s → Ok H → St xs.length s.heap → (∀ h' t, Ext wr s.heap h' → Q none { s with heap := h', toks := t }) → wpAny (Md C) A (pyNext (.ref it)) Q NoE s
  plain : ∀ x p, target = .Name x p → ∀ i v h, Mid i v h → St (i + 1) h
  /-- asked for its iterator it is itself -/
  self : ∀ i s (Q : Value → Shared → Prop), St i s.heap → Q (.ref it) s → wpAny (Md C) A (pyIter (.ref it)) Q NoE s

/-- the head of a for: the expression evaluated and asked for its iterator -/
def WI (C : Cx) (A : Around) (env : Env) (gs : List Str) (S : Sg) (H : Hp) (iter target : Expr) (K : List MV → (Hp → Prop) → Hp → Prop) : Prop :=
  ∀ s, Inv C H s → Fm C env gs S H s.heap → wpAny (Md C) A (eval iter env) (fun x s₁ => wpAny (Md C) A (pyIter x) (fun w s₂ =>
    ∃ it wr xs Ok St Mid H₂, w = .ref it ∧ Itr C A it wr target xs Ok St Mid ∧ St 0 s₂.heap ∧ Inv C H₂ s₂ ∧ Kp s.heap H s₂.heap H₂ ∧ (∀ b ∈ wr, (∀ o, s.heap.get? b = some o → dom H b) ∧ ¬ dom H₂ b) ∧ K xs Ok H₂) NoE s₁) NoE s

def LoopQ (Q : Fl → Sg → Hp → Prop) (k : Sg → Hp → Prop) : Fl → Sg → Hp → Prop
  | .next, S, H => k S H
  | .cont, S, H => k S H
  | .brk, S, H => Q .next S H
  | .ret v, S, H => Q (.ret v) S H

theorem KpS.ext {wr : List Addr} {h₀ h h' : Heap} {H₀ H : Hp} (k : KpS env h₀ H₀ h H) (e : Ext wr h h') (hw : ∀ b ∈ wr, ∀ o, h₀.get? b = some o → dom H₀ b) : KpS env h₀ H₀ h' H := fun b o eb nb => by
  obtain ⟨n1, o1, e1, r1⟩ := k b o eb nb
  exact ⟨n1, o1, e b o1 (fun h => nb (hw b h o eb)) e1, r1⟩
theorem notOwn {s : Shared} {b : Addr} (F : Fm C env gs S H s.heap) (hb : ∀ o, s.heap.get? b = some o → dom H b) : ¬ Own env b := by
  rintro (q | ⟨nn, q⟩)
  · obtain ⟨mr, ⟨oL, es, ep, hL, hd, _⟩, _⟩ := F.ns
    exact F.nl (q ▸ hb oL (q ▸ hL))
  · obtain ⟨vo, ⟨oc, ho, hd⟩, nd, _⟩ := F.cell nn b q
    exact nd (hb oc ho)

theorem KpS.tupKeep {s : Shared} {h' : Heap} {H' : Hp} (k : KpS env s.heap H h' H') (I : Inv C H s) (F : Fm C env gs S H s.heap) : TupKeep s.heap h' := fun a o e hm => by
  obtain ⟨_, o', e', r⟩ := k a o e (I.noTup e hm)
  rw [← r fun hw => F.ownImm hw e hm]; exact e'

theorem WS.for {target iter : Expr} {body : List Stmt} {p : Pos}
    (h : WI C A env gs S H iter target fun xs Ok H₁ => ∃ I : Nat → Sg → Hp → Prop, I 0 S H₁ ∧ (∀ i S H, I i S H → Ok H) ∧
      (∀ i x S H, xs[i]? = some x → I i S H → WA C A env gs S H target x fun S₁ H₁ => WSs C A env gs S₁ H₁ body (LoopQ Q (I (i + 1)))) ∧ ∀ S H, I xs.length S H → Q .next S H)
    (hs : ∀ x, foldedSetIterable iter env x = pure x := by intro _; with_unfolding_all rfl) : WS C A env gs S H (.For target iter body [] p) Q := by
  intro s I F nf
  refine wpAny_For (wpAny_mono (h s I F) (fun x s₁ h₁ => wpAny_mono h₁ (fun w s₂ h₂ => ?_) noE) noE) hs
  first | (refine EP.elim h₂ fun it wr xs Ok St hq => ?_; clear h₂) | (refine LP.elim h₂ fun it wr xs Ok St hq => ?_; clear h₂) | obtain ⟨it, wr, xs, Ok, St, hq⟩ := h₂
  obtain ⟨Mid, H₂, rfl, W, hst, I₂, k₂, hw, J, j0, jok, turn, fin⟩ := hq
  have F₂ := F.keep I k₂
  have hb0 : ∀ b ∈ wr, C.h₀.get? b = none := fun b hb => by
    cases e : C.h₀.get? b with
    | none => rfl
    | some o =>
      have d := (hw b hb).1 o (I.base _ _ e)
      obtain ⟨p, hp, rfl⟩ := List.mem_map.mp d
      rw [I.new p hp] at e; cases e
  have hno : ∀ b ∈ wr, ¬ Own env b := fun b hb => notOwn F (hw b hb).1
  refine codeAny_forLoop_any (fun k s' => ∃ i S' H', i ≤ xs.length ∧ k = xs.length + 1 - i ∧ J i S' H' ∧ Inv C H' s' ∧ Fm C env gs S' H' s'.heap ∧ KpS env s.heap H s'.heap H' ∧ names S' = names S ∧ St i s'.heap ∧ ∀ b ∈ wr, ¬ dom H' b) ?_ (xs.length + 1)
    ⟨0, S, H₂, Nat.zero_le _, rfl, j0, I₂, F₂, k₂.toS, rfl, hst, fun b hb => (hw b hb).2⟩
  rintro k s' ⟨i, S', H', hi, rfl, hj, I', F', k', n', hst', hd'⟩
  have hwr : ∀ (s'' : Shared), (St i s''.heap ∨ ∃ v, Mid i v s''.heap) → ∀ b ∈ wr, ¬ dom H' b ∧ C.h₀.get? b = none ∧ ¬ Own env b ∧ ∀ o, s''.heap.get? b = some o → ¬ Imm o := fun s'' hs b hb =>
    ⟨hd' b hb, hb0 b hb, hno b hb, fun o e => by obtain ⟨o', e', hm⟩ := W.obj i _ hs b hb; rw [e] at e'; cases e'; exact hm⟩
  cases hx : xs[i]? with
  | none =>
    have hlen : i = xs.length := by
      rcases Nat.lt_or_ge i xs.length with h | h
      · rw [List.getElem?_eq_getElem h] at hx; cases hx
      · omega
    refine wpAny_mono (W.done H' s' (fun r s₁ => match r with | none => SP C env gs S H s Q .next s₁ | some _ => False) I' (jok _ _ _ hj) (hlen ▸ hst') fun h' t e => ?_) (fun r s₁ hr => ?_) noE
    · obtain ⟨I'', F''⟩ := touch I' F' e (hwr s' (.inl hst')) t
      exact ⟨.next, S', H', rfl, I'', F'', k'.ext e (fun b hb => (hw b hb).1), n', fin _ _ (hlen ▸ hj)⟩
    · cases r with
      | none => exact wpAny_execs_nil hr
      | some v => exact hr.elim
  | some x =>
    have hlt : i < xs.length := by
      rcases Nat.lt_or_ge i xs.length with h | h
      · exact h
      · rw [List.getElem?_eq_none h] at hx; cases hx
    refine wpAny_mono (W.next i x H' s' (fun r s₁ => match r with | none => False | some v => wpAny (Md C) A (letOwnedTupleGo target (.ref it) v) (fun _ s₂ => wpAny (Md C) A (PySem.assign target env v) (fun _ s₃ =>
      wpAny (Md C) A (execs body env) (fun f s₄ => match f with
        | .next | .cont => ∃ m, m < xs.length + 1 - i ∧ ∃ i S' H', i ≤ xs.length ∧ m = xs.length + 1 - i ∧ J i S' H' ∧ Inv C H' s₄ ∧ Fm C env gs S' H' s₄.heap ∧ KpS env s.heap H s₄.heap H' ∧ names S' = names S ∧ St i s₄.heap ∧ ∀ b ∈ wr, ¬ dom H' b
        | .brk => SP C env gs S H s Q .next s₄
        | .ret v => SP C env gs S H s Q (.ret v) s₄) NoE s₃) NoE s₂) NoE s₁) hx I' (jok _ _ _ hj) hst' fun v h' t hv hmid e => ?_) (fun r s₁ hr => ?_) noE
    · obtain ⟨I₁, F₁⟩ := touch I' F' e (hwr s' (.inl hst')) t
      refine W.go i x v _ _ hx hv hmid fun h'' t' hst'' e' => ?_
      obtain ⟨I₃, F₃⟩ := touch I₁ F₁ e' (hwr { s' with heap := h', toks := t } (.inr ⟨_, hmid⟩)) t'
      have k₃ : KpS env s.heap H h'' H' := (k'.ext e fun b hb => (hw b hb).1).ext e' fun b hb => (hw b hb).1
      have hv₃ : VR C.h₀ h'' x v := hv.ext e' fun a ha o ho => (hwr { s' with heap := h', toks := t } (.inr ⟨_, hmid⟩) a ha).2.2.2 o ho
      refine wpAny_mono (turn i x S' H' hx hj _ v I₃ F₃ (nf.of n') hv₃) (fun _ s₄ h₄ => ?_) noE
      first | (refine EP.elim h₄ fun S₄ H₄ I₄ F₄ k₄ hq => ?_; clear h₄) | (refine LP.elim h₄ fun S₄ H₄ I₄ F₄ k₄ hq => ?_; clear h₄) | obtain ⟨S₄, H₄, I₄, F₄, k₄, hq⟩ := h₄
      obtain ⟨n₄, w₄⟩ := hq
      refine wpAny_mono (w₄ s₄ I₄ F₄ ((nf.of n').of n₄)) (fun f s₅ h₅ => ?_) noE
      first | (refine EP.elim h₅ fun fl S₅ H₅ r₅ I₅ hq => ?_; clear h₅) | (refine LP.elim h₅ fun fl S₅ H₅ r₅ I₅ hq => ?_; clear h₅) | obtain ⟨fl, S₅, H₅, r₅, I₅, hq⟩ := h₅
      obtain ⟨F₅, k₅, n₅, q₅⟩ := hq
      have k45 : KpS env h'' H' s₅.heap H₅ := k₄.trans k₅
      have keepwr : ∀ b ∈ wr, ¬ dom H₅ b ∧ ∀ o, h''.get? b = some o → s₅.heap.get? b = some o := fun b hb => by
        obtain ⟨o, ho, _⟩ := W.obj (i + 1) h'' (.inl hst'') b hb
        obtain ⟨n6, o6, e6, r6⟩ := k45 b o ho (hd' b hb)
        refine ⟨n6, fun o' ho' => ?_⟩
        rw [ho] at ho'; cases ho'
        rw [← r6 (hno b hb)]; exact e6
      have hst5 : St (i + 1) s₅.heap := W.frame _ _ _ hst'' (k45.tupKeep I₃ F₃) fun b hb o ho => (keepwr b hb).2 o ho
      have again : J (i + 1) S₅ H₅ → ∃ m, m < xs.length + 1 - i ∧ ∃ i S' H', i ≤ xs.length ∧ m = xs.length + 1 - i ∧ J i S' H' ∧ Inv C H' s₅ ∧ Fm C env gs S' H' s₅.heap ∧ KpS env s.heap H s₅.heap H' ∧ names S' = names S ∧ St i s₅.heap ∧ ∀ b ∈ wr, ¬ dom H' b :=
        fun hj' => ⟨xs.length + 1 - (i + 1), by omega, i + 1, S₅, H₅, hlt, rfl, hj', I₅, F₅, k₃.trans k45, (n₅.trans n₄).trans n', hst5, fun b hb => (keepwr b hb).1⟩
      cases fl with
      | next =>
        have : f = .next := r₅
        subst this
        exact again q₅
      | cont =>
        have : f = .cont := r₅
        subst this
        exact again q₅
      | brk =>
        have : f = .brk := r₅
        subst this
        exact ⟨.next, S₅, H₅, rfl, I₅, F₅, k₃.trans k45, (n₅.trans n₄).trans n', q₅⟩
      | ret y =>
        obtain ⟨u, rfl, hu⟩ := r₅
        exact ⟨.ret y, S₅, H₅, ⟨u, rfl, hu⟩, I₅, F₅, k₃.trans k45, (n₅.trans n₄).trans n', q₅⟩
    · cases r with
      | none => exact hr.elim
      | some v =>
        exact wpAny_mono hr (fun _ _ h => wpAny_mono h (fun _ _ h => wpAny_mono h (fun f _ h => by cases f <;> exact h) noE) noE) noE

theorem WS.while {test : Expr} {body : List Stmt} {p : Pos} (I : Nat → Sg → Hp → Prop) (n : Nat) (h0 : I n S H)
    (turn : ∀ n S H, I n S H → WT C A env gs S H test fun b H' => if b = true then WSs C A env gs S H' body (LoopQ Q fun S' H'' => ∃ m, m < n ∧ I m S' H'') else Q .next S H') : WS C A env gs S H (.While test body [] p) Q := by
  intro s Iv F nf
  refine wpAny_While (codeAny_whileLoop (fun k s' => ∃ S' H', I k S' H' ∧ Inv C H' s' ∧ Fm C env gs S' H' s'.heap ∧ KpS env s.heap H s'.heap H' ∧ names S' = names S) ?_ n ⟨S, H, h0, Iv, F, KpS.refl, rfl⟩)
  rintro k s' ⟨S', H', hI, I', F', k', n'⟩
  refine wpAny_mono (turn k S' H' hI s' I' F') (fun b s₁ h₁ => ?_) noE
  first | (refine BP.elim h₁ fun H₁ I₁ k₁ q₁ => ?_; clear h₁) | obtain ⟨H₁, I₁, k₁, q₁⟩ := h₁
  cases b with
  | false => exact wpAny_execs_nil ⟨.next, S', H₁, rfl, I₁, F'.keep I' k₁, k'.trans k₁.toS, n', q₁⟩
  | true =>
    refine wpAny_mono (q₁ s₁ I₁ (F'.keep I' k₁) (nf.of n')) (fun f s₂ h₂ => ?_) noE
    first | (refine EP.elim h₂ fun fl S₂ H₂ r₂ I₂ hq => ?_; clear h₂) | (refine LP.elim h₂ fun fl S₂ H₂ r₂ I₂ hq => ?_; clear h₂) | obtain ⟨fl, S₂, H₂, r₂, I₂, hq⟩ := h₂
    obtain ⟨F₂, k₂, n₂, q₂⟩ := hq
    have kk := (k'.trans k₁.toS).trans k₂
    cases fl with
    | next =>
      have : f = .next := r₂
      subst this
      obtain ⟨m, hm, hI'⟩ := q₂
      exact ⟨m, hm, S₂, H₂, hI', I₂, F₂, kk, n₂.trans n'⟩
    | cont =>
      have : f = .cont := r₂
      subst this
      obtain ⟨m, hm, hI'⟩ := q₂
      exact ⟨m, hm, S₂, H₂, hI', I₂, F₂, kk, n₂.trans n'⟩
    | brk =>
      have : f = .brk := r₂
      subst this
      exact ⟨.next, S₂, H₂, rfl, I₂, F₂, kk, n₂.trans n', q₂⟩
    | ret y =>
      obtain ⟨u, rfl, hu⟩ := r₂
      exact ⟨.ret y, S₂, H₂, ⟨u, rfl, hu⟩, I₂, F₂, kk, n₂.trans n', q₂⟩
end
end Mine
namespace Mine
open PySem PySem.Calls PyProof.Rows

/-! entering a def -/
def scopeOk (sc : Scope) (ns gs : List Str) : Bool :=
  decide ns.Nodup && ns.all (fun x => !(x == ("__debug__" : Str)) && (sc.names.lookup x == some .local || sc.names.lookup x == some .cell)) &&
  gs.all (fun x => sc.names.lookup x == some .globalImplicit) && decide ((sc.names.filter (fun p => p.2 == .cell)).map (·.1)).Nodup &&
  sc.kind == .function && !sc.isCoroutine && !sc.isGenerator

theorem cellsFrom_fst : ∀ (names : List (Str × NameKind)) (n : Nat) (acc : List (Str × Addr)), (cellsFrom n names acc).map (·.1) = ((names.filter (fun p => p.2 == .cell)).map (·.1)).reverse ++ acc.map (·.1)
  | [], _, _ => by simp [cellsFrom]
  | (x, k) :: r, n, acc => by
    unfold cellsFrom
    by_cases hk : (k == .cell) = true
    · rw [if_pos hk, cellsFrom_fst r]
      simp [hk]
    · rw [if_neg hk, cellsFrom_fst r]
      simp [hk]
theorem mem_lookup {α : Type} : ∀ {l : List (Str × α)} {n : Str}, n ∈ l.map (·.1) → ∃ c, l.lookup n = some c
  | (k, v) :: r, n, h => by
    rw [List.lookup_cons]
    cases hb : n == k with
    | true => exact ⟨v, rfl⟩
    | false =>
      simp only [List.map_cons, List.mem_cons] at h
      rcases h with rfl | h
      · simp at hb
      · exact mem_lookup h
theorem fun_of_nodup {α : Type} : ∀ {l : List (Str × α)}, (l.map (·.1)).Nodup → ∀ {n : Str} {c c' : α}, (n, c) ∈ l → (n, c') ∈ l → c = c'
  | (k, v) :: r, h, n, c, c', h1, h2 => by
    simp only [List.map_cons, List.nodup_cons] at h
    rcases List.mem_cons.mp h1 with e1 | h1 <;> rcases List.mem_cons.mp h2 with e2 | h2
    · cases e1; cases e2; rfl
    · cases e1; exact absurd (List.mem_map_of_mem (f := (·.1)) h2) h.1
    · cases e2; exact absurd (List.mem_map_of_mem (f := (·.1)) h1) h.1
    · exact fun_of_nodup h.2 h1 h2

theorem envOk_of {sc : Scope} {ns gs : List Str} (h : scopeOk sc ns gs = true) {env : Env} {L : Addr} (e1 : env.scope = sc) (e2 : env.globals = mainGlobals) (e3 : env.builtins = builtinsNs) (e4 : env.cells = cellsFrom (L + 1) sc.names []) (e5 : env.locals = L)
    (ap : env.cells.Pairwise fun x y => x.2 ≠ y.2) (ab : ∀ n c, (n, c) ∈ env.cells → L < c) : EnvOk env ns gs := by
  simp only [scopeOk, Bool.and_eq_true, decide_eq_true_eq, List.all_eq_true, Bool.or_eq_true, beq_iff_eq, Bool.not_eq_true', beq_eq_false_iff_ne] at h
  obtain ⟨⟨⟨⟨⟨⟨h1, h2⟩, h3⟩, h4⟩, h5⟩, h6⟩, h7⟩ := h
  have hf := cellsFrom_fst sc.names (L + 1) []
  refine ⟨e1 ▸ h5, e2, e3, h1, fun x hx => by simpa using (h2 x hx).1, fun x hx => ?_, fun x hx => by unfold Env.kindOf; rw [e1]; exact h3 x hx, ap, fun n c c' a b => ?_, fun n c a => ?_⟩
  · unfold Env.kindOf
    rw [e1]
    rcases (h2 x hx).2 with h | h
    · exact .inl h
    · refine .inr ⟨.inl h, ?_⟩
      rw [e4]
      refine mem_lookup ?_
      rw [hf]
      simp only [List.map_nil, List.append_nil, List.mem_reverse]
      exact List.mem_map.mpr ⟨(x, .cell), List.mem_filter.mpr ⟨mem_of_lookup h, rfl⟩, rfl⟩
  · refine fun_of_nodup (l := env.cells) ?_ a b
    rw [e4, hf, List.map_nil, List.append_nil]
    exact ((List.reverse_perm _).nodup_iff).mpr h4
  · rw [e5]; exact Nat.ne_of_lt (ab n c a)

theorem bindL_off {k : Str → Option NameKind} : ∀ {ps : List Str} {vs : List Value} {m : Str → Option Value} {x : Str}, x ∉ ps → bindL k (ps.zip vs) m x = m x
  | [], vs, m, x, _ => by simp [bindL]
  | p :: ps, [], m, x, _ => by simp [bindL]
  | p :: ps, v :: vs, m, x, h => by
    simp only [List.mem_cons, not_or] at h
    simp only [List.zip_cons_cons, bindL]
    rw [bindL_off h.2]
    split
    · simp [h.1]
    · rfl
theorem bindC_off {k : Str → Option NameKind} : ∀ {ps : List Str} {vs : List Value} {m : Str → Option Value} {x : Str}, x ∉ ps → bindC k (ps.zip vs) m x = m x
  | [], vs, m, x, _ => by simp [bindC]
  | p :: ps, [], m, x, _ => by simp [bindC]
  | p :: ps, v :: vs, m, x, h => by
    simp only [List.mem_cons, not_or] at h
    simp only [List.zip_cons_cons, bindC]
    rw [bindC_off h.2]
    split
    · rfl
    · simp [h.1]
theorem bindL_at {k : Str → Option NameKind} : ∀ {ps : List Str} {vs : List Value} {m : Str → Option Value} {i : Nat} {x : Str} {v : Value}, ps.Nodup → ps[i]? = some x → vs[i]? = some v → k x = some .local → bindL k (ps.zip vs) m x = some v
  | [], _, _, i, _, _, _, h, _, _ => by simp at h
  | p :: ps, [], _, i, _, _, _, _, h, _ => by simp at h
  | p :: ps, u :: vs, m, i, x, v, nd, h1, h2, hk => by
    simp only [List.zip_cons_cons, bindL]
    have nd' := List.nodup_cons.mp nd
    cases i with
    | zero =>
      simp at h1 h2; subst h1; subst h2
      rw [bindL_off nd'.1]
      simp [hk]
    | succ i => simp at h1 h2; exact bindL_at nd'.2 h1 h2 hk
theorem bindC_at {k : Str → Option NameKind} : ∀ {ps : List Str} {vs : List Value} {m : Str → Option Value} {i : Nat} {x : Str} {v : Value}, ps.Nodup → ps[i]? = some x → vs[i]? = some v → k x ≠ some .local → bindC k (ps.zip vs) m x = some v
  | [], _, _, i, _, _, _, h, _, _ => by simp at h
  | p :: ps, [], _, i, _, _, _, _, h, _ => by simp at h
  | p :: ps, u :: vs, m, i, x, v, nd, h1, h2, hk => by
    simp only [List.zip_cons_cons, bindC]
    have nd' := List.nodup_cons.mp nd
    cases i with
    | zero =>
      simp at h1 h2; subst h1; subst h2
      rw [bindC_off nd'.1]
      simp [hk]
    | succ i => simp at h1 h2; exact bindC_at nd'.2 h1 h2 hk

def startS : List Str → List MV → List Str → Sg
  | p :: ps, x :: xs, os => (p, some x) :: startS ps xs os
  | _, _, os => os.map fun y => (y, none)
theorem startS_names : ∀ {ps : List Str} {xs : List MV} {os : List Str}, xs.length = ps.length → names (startS ps xs os) = ps ++ os
  | [], [], os, _ => by simp [startS, names, Function.comp_def]
  | p :: ps, x :: xs, os, h => by
    simp only [List.length_cons, Nat.add_right_cancel_iff] at h
    have := startS_names (os := os) h
    simp only [names] at this ⊢
    simp only [startS, List.map_cons, this, List.cons_append]
theorem nones_at : ∀ {os : List Str} {x : Str} {v : MV}, ¬ At (os.map fun y => (y, none)) x v
  | [], _, _, a => by cases a
  | o :: os, x, v, a => by
    simp only [List.map_cons] at a
    cases a with
    | there a => exact nones_at a
theorem startS_at : ∀ {ps : List Str} {xs : List MV} {os : List Str} {x : Str} {v : MV}, At (startS ps xs os) x v → ∃ i : Nat, ps[i]? = some x ∧ xs[i]? = some v
  | p :: ps, y :: xs, os, x, v, a => by
    unfold startS at a
    cases a with
    | here => exact ⟨0, rfl, rfl⟩
    | there a => obtain ⟨i, h1, h2⟩ := startS_at a; exact ⟨i + 1, by simpa using h1, by simpa using h2⟩
  | [], xs, os, x, v, a => by
    exfalso
    unfold startS at a
    exact nones_at a
  | _ :: _, [], os, x, v, a => by
    exfalso
    unfold startS at a
    exact nones_at a

structure EnvK (env : Env) (ns cs : List Str) : Prop where
  nofree : ∀ x ∈ ns, env.kindOf x ≠ some .free
  cell : ∀ x ∈ cs, env.kindOf x = some .cell
inductive Caps (S : Sg) (cs : List Str) : Sg → Prop
  | nil : Caps S cs []
  | cons {y v r} : At S y v → y ∈ cs → Caps S cs r → Caps S cs ((y, some v) :: r)
theorem Caps.at {S : Sg} {cs : List Str} {caps : Sg} (c : Caps S cs caps) : ∀ y v, At caps y v → At S y v := by
  induction c with
  | nil => intro y v a; cases a
  | cons h _ _ ih =>
    intro y v a
    cases a with
    | here => exact h
    | there a => exact ih y v a
theorem Caps.names {env : Env} {S : Sg} {ns cs : List Str} {caps : Sg} (c : Caps S cs caps) (K : EnvK env ns cs) : ∀ y ∈ Mine.names caps, ∃ v, At S y v ∧ env.kindOf y ≠ some .local := by
  induction c with
  | nil => intro y h; cases h
  | @cons z v r h hm _ ih =>
    intro y hy
    rcases List.mem_cons.mp hy with rfl | hy
    · exact ⟨v, h, by rw [K.cell _ hm]; decide⟩
    · exact ih y hy

def retOf : Fl → MV
  | .ret v => v
  | _ => .none
/-- what a body must reach -/
def Ret (Q : MV → Hp → Prop) : Fl → Sg → Hp → Prop := fun fl _ H => ∃ H', H'.Sublist H ∧ Q (retOf fl) H'

section
variable {C : Cx} {A : Around} {H : Hp} {n : Nat} {Q : MV → Hp → Prop}

theorem WF.intro {f name : Str} {params : Arguments} {body : List Stmt} {scope : Scope} (g : Fn C f name params body scope) (hA : AOk A (n + 1)) {xs : List MV} (ps os gs cs : List Str) (S : Sg)
    (hsc : (scopeOk scope (ps ++ os) gs && cs.all fun x => scope.names.lookup x == some .cell) = true) (hl : xs.length = ps.length)
    (hb : ∀ vs pm cd doc, vs.length = ps.length → bindArgs (docDef name params body scope pm cd doc) ⟨vs, []⟩ = pure (ps.zip vs)) (hS : startS ps xs os = S)
    (h : ∀ env, AOk (A.deeper env) n → EnvK env (ps ++ os) cs → WSs C (A.deeper env) env gs S H body (Ret Q)) : WF C A H f xs Q := by
  subst hS
  obtain ⟨hsc, hcs⟩ := Bool.and_eq_true_iff.mp hsc
  obtain ⟨a, o, pm, cd, doc, h1, h2, h3, h4⟩ := g.at'
  intro a' ha' s vs I r
  rw [h1] at ha'; cases ha'
  have hlen : vs.length = ps.length := r.length.trans hl
  have hsc' := hsc
  simp only [scopeOk, Bool.and_eq_true, decide_eq_true_eq, List.all_eq_true, Bool.or_eq_true, beq_iff_eq, Bool.not_eq_true', beq_eq_false_iff_ne] at hsc'
  obtain ⟨⟨⟨⟨⟨⟨nd, hv⟩, hgs⟩, hcn⟩, hk⟩, hco⟩, hgen⟩ := hsc'
  have hnd : ps.Nodup := (List.nodup_append.mp nd).1
  have hroom : A.depth < recursionLimit := by have := hA.depth; omega
  refine wpAny_call (codeAny_call_cells (fd := docDef name params body scope pm cd doc) (binds := ps.zip vs) hroom (I.base _ _ h2) h3 (C.hlim.keeps I.base) (h4.keeps I.base) rfl (hb vs pm cd doc hlen) rfl ?_ (fun s₁ X => ?_) hco hgen hk)
  · intro x hx
    have hxp : x.1 ∈ ps ++ os := List.mem_append_left _ (List.of_mem_zip (a := x.1) (b := x.2) hx).1
    rcases (hv x.1 hxp).2 with q | q
    · exact .inl q
    · refine .inr ⟨q, ?_⟩
      have : x.1 ∈ (cellsFrom (s.heap.objs.size + 1) scope.names []).map (·.1) := by
        rw [cellsFrom_fst]
        simp only [List.map_nil, List.append_nil, List.mem_reverse]
        exact List.mem_map.mpr ⟨(x.1, .cell), List.mem_filter.mpr ⟨mem_of_lookup q, rfl⟩, rfl⟩
      obtain ⟨c, hc⟩ := mem_lookup this
      show (List.lookup x.1 (cellsFrom (s.heap.objs.size + 1) scope.names [])).isSome = true
      rw [hc]; rfl
  · generalize henv : callEnvC (docDef name params body scope pm cd doc) s.heap.objs.size a = env at X ⊢
    have eL : env.locals = s.heap.objs.size := by rw [← henv]; rfl
    have eC : env.cells = cellsFrom (s.heap.objs.size + 1) scope.names [] := by rw [← henv]; rfl
    have ok : EnvOk env (ps ++ os) gs := envOk_of hsc (L := s.heap.objs.size) (by rw [← henv]; rfl) (by rw [← henv]; rfl) (by rw [← henv]; rfl) eC eL X.apart (eL ▸ X.above)
    have hk' : ∀ x, env.kindOf x = scope.names.lookup x := fun x => by rw [← henv]; rfl
    obtain ⟨⟨h', tk, hsame⟩, hns, hkeep, hfresh⟩ := X.toInCall
    subst hsame
    have hn := startS_names (os := os) hl
    have fresh : ∀ b, s.heap.objs.size ≤ b → ¬ dom H b ∧ C.h₀.get? b = none := fun b hb => ⟨fun d => Nat.lt_irrefl _ (Nat.lt_of_lt_of_le (I.lt d) hb), by
      cases e : C.h₀.get? b with
      | none => rfl
      | some o => exact absurd (Heap.lt_size (I.base _ _ e)) (Nat.not_lt.mpr hb)⟩
    have I₁ : Inv C H { s with heap := h', toks := tk } := I.grow hkeep tk
    have tkk : TupKeep s.heap h' := .of_keeps hkeep
    have F₁ : Fm C env gs (startS ps xs os) H h' := by
      refine ⟨hn ▸ ok, ⟨_, hns, fun x v at' kl => ?_⟩, (fresh _ (Nat.le_of_eq eL.symm)).1, (fresh _ (Nat.le_of_eq eL.symm)).2, fun nm c hc => ?_⟩
      · obtain ⟨i, p1, p2⟩ := startS_at at'
        obtain ⟨u, hu, hr⟩ := r.get p2
        exact ⟨u, bindL_at hnd p1 hu kl, hr.keep tkk⟩
      · have hab : s.heap.objs.size < c := eL ▸ X.above nm c hc
        have hcl : env.cells.lookup nm = some c := by
          obtain ⟨c', hc'⟩ := mem_lookup (List.mem_map_of_mem (f := (·.1)) hc)
          rw [hc', ok.cfun nm c' c (mem_of_lookup hc') hc]
        refine ⟨_, X.cell nm c hcl, (fresh c (Nat.le_of_lt hab)).1, (fresh c (Nat.le_of_lt hab)).2, fun v at' kl => ?_⟩
        obtain ⟨i, p1, p2⟩ := startS_at at'
        obtain ⟨u, hu, hr⟩ := r.get p2
        exact ⟨u, bindC_at hnd p1 hu kl, hr.keep tkk⟩
    have nf : NoFree env (startS ps xs os) := fun x hx q => by
      rw [hn] at hx
      rw [hk'] at q
      rcases (hv x hx).2 with w | w <;> (rw [w] at q; cases q)
    have ek : EnvK env (ps ++ os) cs := ⟨fun x hx => nf x (hn ▸ hx), fun x hx => by rw [hk']; simpa using List.all_eq_true.mp hcs x hx⟩
    refine wpAny_mono (h env (hA.deeper env) ek _ I₁ F₁ nf) (fun fl s' h' => ?_) noE
    obtain ⟨fl', S', H', rf, I', F', k', n', H'', hsub, q⟩ := h'
    have hkp : Kp s.heap H s'.heap H' := fun b o e nb => by
      obtain ⟨n1, o1, e1, r1⟩ := k' b o (hkeep b o e) nb
      have : ¬ Own env b := by
        rintro (w | ⟨nm, w⟩)
        · rw [w, eL] at e; exact absurd (Heap.lt_size e) (Nat.lt_irrefl _)
        · have : s.heap.objs.size < b := eL ▸ X.above nm b w
          exact absurd (Heap.lt_size e) (Nat.not_lt.mpr (Nat.le_of_lt this))
      rw [r1 this] at e1
      exact ⟨e1, n1⟩
    have fin : ∀ (u : Value), VR C.h₀ s'.heap (retOf fl') u → EP C H s Q u s' := fun u hu => ⟨retOf fl', H'', hu, I'.sub hsub, hkp.sub hsub, q⟩
    cases fl' with
    | next => have : fl = .next := rf; subst this; exact fin _ (by unfold retOf VR; rfl)
    | brk => have : fl = .brk := rf; subst this; exact fin _ (by unfold retOf VR; rfl)
    | cont => have : fl = .cont := rf; subst this; exact fin _ (by unfold retOf VR; rfl)
    | ret y => obtain ⟨u, rfl, hu⟩ := rf; exact fin _ hu
end
end Mine
namespace Mine
open PySem PySem.Calls PyProof.Rows

section
variable {C : Cx} {A : Around} {env : Env} {gs : List Str} {S : Sg} {H : Hp} {n : Nat}

theorem go_other {M : Model} {A : Around} {E : Value → Shared → Prop} {s : Shared} {target : Expr} {it : Addr} {v : Value} {o : Obj} {T : String} {Q : Unit → Shared → Prop} (ho : s.heap.get? it = some o) (hc : o.cls = .type T)
    (hT : (["enumerate", "zip", "dict_itemiterator", "dict_reverseitemiterator", "odict_iterator", "itertools.zip_longest", "itertools.pairwise"] : List String).contains T = false) (h : Q () s) :
    wpAny M A (letOwnedTupleGo target (.ref it) v) Q E s := by
  have key : wpAny M A (do
      let (.ref r, .ref a) := (Value.ref it, v) | return
      let o ← load r
      match o.cls, o.data with
      | .type n, .fields vs =>
        if ["enumerate", "zip", "dict_itemiterator", "dict_reverseitemiterator", "odict_iterator", "itertools.zip_longest", "itertools.pairwise"].contains n && vs[0]? == some (rawInt a) then
          rule "for.unpacks-the-owned-tuple"
          updateField r 0 .none
      | _, _ => pure ()) Q E s := by
    cases v with
    | ref a =>
      refine wpAny_bind (wpAny_load ho ?_)
      rw [hc]
      cases o.data with
      | fields vs =>
        simp only [hT, Bool.false_and, Bool.false_eq_true, if_false]
        exact wpAny_pure h
      | _ => exact wpAny_pure h
    | _ => exact wpAny_pure h
  unfold letOwnedTupleGo
  cases target with
  | Tuple => exact key
  | List => exact key
  | _ => exact wpAny_pure h

def ItOf (C : Cx) (A : Around) (H : Hp) (target : Expr) (x : MV) (K : List MV → (Hp → Prop) → Hp → Prop) : Prop :=
  ∀ s v, Inv C H s → VR C.h₀ s.heap x v → wpAny (Md C) A (pyIter v) (fun w s₂ =>
    ∃ it wr xs Ok St Mid H₂, w = .ref it ∧ Itr C A it wr target xs Ok St Mid ∧ St 0 s₂.heap ∧ Inv C H₂ s₂ ∧ Kp s.heap H s₂.heap H₂ ∧ (∀ b ∈ wr, (∀ o, s.heap.get? b = some o → dom H b) ∧ ¬ dom H₂ b) ∧ K xs Ok H₂) NoE s
theorem WI.of {iter target : Expr} {K : List MV → (Hp → Prop) → Hp → Prop} (h : WE C A env gs S H iter fun x H₁ => ItOf C A H₁ target x K) : WI C A env gs S H iter target K := by
  intro s I F
  refine wpAny_mono (h s I F) (fun v s₁ h₁ => ?_) noE
  first | (refine EP.elim h₁ fun x H₁ r₁ I₁ k₁ q₁ => ?_; clear h₁) | (refine LP.elim h₁ fun x H₁ r₁ I₁ k₁ q₁ => ?_; clear h₁) | obtain ⟨x, H₁, r₁, I₁, k₁, q₁⟩ := h₁
  refine wpAny_mono (q₁ s₁ v I₁ r₁) (fun w s₂ h₂ => ?_) noE
  first | (refine EP.elim h₂ fun it wr xs Ok St hq => ?_; clear h₂) | (refine LP.elim h₂ fun it wr xs Ok St hq => ?_; clear h₂) | obtain ⟨it, wr, xs, Ok, St, hq⟩ := h₂
  obtain ⟨Mid, H₂, e, W, hst, I₂, k₂, hw, q₂⟩ := hq
  refine ⟨it, wr, xs, Ok, St, Mid, H₂, e, W, hst, I₂, k₁.trans k₂, fun b hb => ⟨fun o eb => ?_, (hw b hb).2⟩, q₂⟩
  by_cases d : dom H b
  · exact d
  · have := k₁ b o eb d
    exact absurd ((hw b hb).1 o this.1) this.2

theorem Ext.of_extBut {a : Addr} {h h' : Heap} (e : Heap.ExtBut a h h') : Ext [a] h h' := fun b o n e' => e b o (fun q => n (by simp [q])) e'

theorem ItOf.list {target : Expr} {a : Addr} {xs : List MV} {K : List MV → (Hp → Prop) → Hp → Prop} (hA : AOk A n) (hm : (a, MO.list xs) ∈ H) (q : K xs (fun H => (a, MO.list xs) ∈ H) H) : ItOf C A H target (.ref a) K := by
  intro s v I r
  unfold VR at r; subst r
  obtain ⟨vs, m, ho, hr⟩ := I.objs _ hm
  have hl : s.heap.IsList a vs.toArray := ⟨_, ho, rfl, m, rfl⟩
  have hk : ∀ b o, s.heap.get? b = some o → (s.heap.push { cls := .type "list_iterator", data := .fields #[.ref a, .int 0 0] }).get? b = some o := fun b o e => Heap.get?_push_of_some _ e
  refine wpAny_pyIter_list hl ⟨s.heap.objs.size, [s.heap.objs.size], xs, _, fun i h => h.IsListIter s.heap.objs.size a i, fun i _ h => h.IsListIter s.heap.objs.size a (i + 1), H, rfl, ?_, ⟨_, Heap.get?_push_size _ rfl, rfl, rfl⟩, I.grow hk s.toks, Kp.of_keeps hk, ?_, q⟩
  · refine ⟨fun i h h' st _ hk => ?_, fun i h st b hb => ?_, fun i x H' s' Q hx I' hok st hQ => ?_, fun i x v s' Q hx hv st hQ => ?_, fun H' s' Q I' hok st hQ => ?_, ?plain, fun i s' Q st hQ => ?_⟩
    · obtain ⟨o, e, r⟩ := st; exact ⟨o, hk _ (by simp) _ e, r⟩
    · have hb : b = s.heap.objs.size := by simpa using hb
      subst hb
      rcases st with ⟨o, e, c, d⟩ | ⟨_, o, e, c, d⟩ <;> exact ⟨o, e, by simp [Imm, c]⟩
    · obtain ⟨vs', m', ho', hr'⟩ := I'.objs _ hok
      obtain ⟨v, hv, rv⟩ := hr'.get hx
      refine wpAny_pyNext_list_item st ⟨_, ho', rfl, m', rfl⟩ (x := v) (by simpa using hv) fun h' st' hs' => ?_
      exact hQ v h' s'.toks (rv.ext (Ext.of_extBut hs'.extBut) (fun b hb o e => by
        have hb : b = s.heap.objs.size := by simpa using hb
        subst hb
        obtain ⟨o', e', c, d⟩ := st
        rw [e] at e'; cases e'; simp [Imm, c])) st' (Ext.of_extBut hs'.extBut)
    · obtain ⟨o, e, c, d⟩ := id st
      exact go_other e c (by decide +kernel) (hQ s'.heap s'.toks st fun _ _ _ e => e)
    · obtain ⟨vs', m', ho', hr'⟩ := I'.objs _ hok
      refine wpAny_pyNext_list_end hA.handled st ⟨_, ho', rfl, m', rfl⟩ ?_ fun h' hx => hQ h' s'.toks (Ext.of_extBut hx)
      simp [hr'.length]
    case plain => exact fun _ _ _ _ _ _ st => st
    · exact wpAny_pyIter_listiter st hQ
  · intro b hb
    have hb : b = s.heap.objs.size := by simpa using hb
    subst hb
    exact ⟨fun o e => absurd (Heap.lt_size e) (Nat.lt_irrefl _), I.fresh⟩

theorem ItOf.tup {target : Expr} {xs : List MV} {K : List MV → (Hp → Prop) → Hp → Prop} (hA : AOk A n) (q : K xs (fun _ => True) H) : ItOf C A H target (.tup xs) K := by
  intro s v I r
  unfold VR at r
  obtain ⟨a, vs, rfl, hl, hr⟩ := r
  have hk : ∀ b o, s.heap.get? b = some o → (s.heap.push { cls := .type "tuple_iterator", data := .fields #[.ref a, .int 0 0] }).get? b = some o := fun b o e => Heap.get?_push_of_some _ e
  refine wpAny_pyIter_tuple hl ⟨s.heap.objs.size, [s.heap.objs.size], xs, _, fun i h => h.IsTupleIter s.heap.objs.size a i ∧ h.IsTuple a vs.toArray ∧ VRs C.h₀ h xs vs, fun i _ h => h.IsTupleIter s.heap.objs.size a (i + 1) ∧ h.IsTuple a vs.toArray ∧ VRs C.h₀ h xs vs, H, rfl, ?_,
    ⟨⟨_, Heap.get?_push_size _ rfl, rfl, rfl⟩, hl.push _, hr.keep (.of_keeps hk)⟩, I.grow hk s.toks, Kp.of_keeps hk, ?_, q⟩
  · have imm : ∀ {h : Heap} {i : Nat}, h.IsTupleIter s.heap.objs.size a i → ∀ b ∈ [s.heap.objs.size], ∀ o, h.get? b = some o → ¬ Imm o := fun st b hb o e => by
      have hb : b = s.heap.objs.size := by simpa using hb
      subst hb
      obtain ⟨o', e', c, d⟩ := st
      rw [e] at e'; cases e'; simp [Imm, c]
    have hne : ∀ {h : Heap} {i : Nat}, h.IsTupleIter s.heap.objs.size a i → h.IsTuple a vs.toArray → a ≠ s.heap.objs.size := fun st ht q => by
      obtain ⟨o', e', c, d⟩ := st
      obtain ⟨o, e, c', _⟩ := ht
      rw [q, e'] at e; cases e
      rw [c] at c'; simp at c'
    refine ⟨fun i h h' st tk hk => ?_, fun i h st b hb => ?_, fun i x H' s' Q hx I' hok st hQ => ?_, fun i x v s' Q hx hv st hQ => ?_, fun H' s' Q I' hok st hQ => ?_, ?plain, fun i s' Q st hQ => ?_⟩
    · obtain ⟨⟨o, e, r⟩, ⟨o2, e2, c2, m2, d2⟩, r2⟩ := st; exact ⟨⟨o, hk _ (by simp) _ e, r⟩, ⟨o2, tk _ _ e2 (.inl ⟨c2, _, m2, d2⟩), c2, m2, d2⟩, r2.keep tk⟩
    · have hb : b = s.heap.objs.size := by simpa using hb
      subst hb
      rcases st with ⟨⟨o, e, c, d⟩, _⟩ | ⟨_, ⟨o, e, c, d⟩, _⟩ <;> exact ⟨o, e, by simp [Imm, c]⟩
    · obtain ⟨v, hv, rv⟩ := st.2.2.get hx
      refine wpAny_pyNext_tuple_item st.1 st.2.1 (x := v) (by simpa using hv) fun h' st' hs' => ?_
      have ex : Ext [s.heap.objs.size] s'.heap h' := Ext.of_extBut hs'.extBut
      have tk : TupKeep s'.heap h' := fun b o e hm => ex b o (fun hb => imm st.1 b hb o e hm) e
      exact hQ v h' s'.toks (rv.keep tk) ⟨st', st.2.1.extBut hs'.extBut (hne st.1 st.2.1), st.2.2.keep tk⟩ ex
    · obtain ⟨⟨o, e, c, d⟩, _⟩ := id st
      exact go_other e c (by decide +kernel) (hQ s'.heap s'.toks st fun _ _ _ e => e)
    · refine wpAny_pyNext_tuple_end hA.handled st.1 st.2.1 ?_ fun h' hx => hQ h' s'.toks (Ext.of_extBut hx)
      simp [st.2.2.length]
    case plain => exact fun _ _ _ _ _ _ st => st
    · exact (Walks.tuple hA.handled s.heap.objs.size a (hne st.1 st.2.1) vs.toArray).self i s' Q NoE ⟨st.1, st.2.1⟩ hQ
  · intro b hb
    have hb : b = s.heap.objs.size := by simpa using hb
    subst hb
    exact ⟨fun o e => absurd (Heap.lt_size e) (Nat.lt_irrefl _), I.fresh⟩

def rangeL (lo hi : Int) : List MV := (List.range (hi - lo).toNat).map fun (k : Nat) => MV.int (lo + (k : Int))
theorem rangeL_length (lo hi : Int) : (rangeL lo hi).length = (hi - lo).toNat := by simp [rangeL]
theorem rangeL_get {lo hi : Int} {i : Nat} {x : MV} (h : (rangeL lo hi)[i]? = some x) : x = .int (lo + (i : Int)) ∧ lo + (i : Int) < hi := by
  have hlt : i < (hi - lo).toNat := by
    rcases Nat.lt_or_ge i (hi - lo).toNat with h' | h'
    · exact h'
    · rw [List.getElem?_eq_none (by rw [rangeL_length]; exact h')] at h; cases h
  refine ⟨?_, by omega⟩
  simp [rangeL, hlt] at h
  exact h.symm

theorem ItOf.range {target : Expr} {lo hi : Int} {K : List MV → (Hp → Prop) → Hp → Prop} (hA : AOk A n) (h1 : -(2 ^ 62) ≤ lo) (h2 : lo < 2 ^ 62) (h3 : -(2 ^ 62) ≤ hi) (h4 : hi < 2 ^ 62) (q : K (rangeL lo hi) (fun _ => True) H) : ItOf C A H target (.rng lo hi) K := by
  intro s v I r
  unfold VR at r
  obtain ⟨a, t, u, w, rfl, hl⟩ := r
  have hk : ∀ b o, s.heap.get? b = some o → (s.heap.push { cls := .type "range_iterator", data := .fields #[rawInt lo, rawInt (Builtin.Range.rangeSize lo hi 1), rawInt 1] }).get? b = some o := fun b o e => Heap.get?_push_of_some _ e
  have hsz : Builtin.Range.rangeSize lo hi 1 = (((hi - lo).toNat : Nat) : Int) := by
    unfold Builtin.Range.rangeSize
    simp only [show (1 : Int) > 0 from by decide, if_true]
    split
    · rw [Int.ediv_one]; omega
    · omega
  have W := Walks.range (prog := C.prog) (w := C.w) hA.handled s.heap.objs.size lo 1 (hi - lo).toNat
  refine wpAny_pyIter_range hl (small_one h1 h2 h3 h4) ⟨s.heap.objs.size, [s.heap.objs.size], rangeL lo hi, _, fun i h => IsRangeIter h s.heap.objs.size (lo + (i : Nat) * 1) (((hi - lo).toNat : Int) - (i : Nat)) 1, fun i _ h => IsRangeIter h s.heap.objs.size (lo + ((i + 1 : Nat) : Nat) * 1) (((hi - lo).toNat : Int) - ((i + 1 : Nat) : Nat)) 1, H, rfl, ?_, ?_, I.grow hk s.toks, Kp.of_keeps hk, ?_, q⟩
  · refine ⟨fun i h h' st _ hk => hk _ (by simp) _ st, fun i h st b hb => ?_, fun i x H' s' Q hx I' hok st hQ => ?_, fun i x v s' Q hx hv st hQ => ?_, fun H' s' Q I' hok st hQ => ?_, ?plain, fun i s' Q st hQ => ?_⟩
    · have hb : b = s.heap.objs.size := by simpa using hb
      subst hb
      rcases st with e | ⟨_, e⟩ <;> exact ⟨_, e, by simp [Imm]⟩
    · obtain ⟨rfl, hlt⟩ := rangeL_get hx
      refine W.item i s' Q NoE (by omega) st fun v h' tk hv st' hk' => ?_
      obtain ⟨tt, rfl⟩ := hv
      exact hQ _ h' tk (by unfold VR; exact ⟨tt, by rw [show lo + (i : Int) * 1 = lo + (i : Int) from by omega]⟩) st' hk'
    · exact go_other (T := "range_iterator") st rfl (by decide +kernel) (hQ s'.heap s'.toks st fun _ _ _ e => e)
    · rw [rangeL_length] at st
      exact W.done s' Q NoE st fun h' tk hk' => hQ h' tk hk'
    case plain => exact fun _ _ _ _ _ _ st => st
    · exact W.self i s' Q NoE st hQ
  · show IsRangeIter _ _ _ _ _
    rw [hsz]
    simpa using Heap.get?_push_size _ rfl
  · intro b hb
    have hb : b = s.heap.objs.size := by simpa using hb
    subst hb
    exact ⟨fun o e => absurd (Heap.lt_size e) (Nat.lt_irrefl _), I.fresh⟩

def enumL (xs : List MV) : List MV := xs.mapIdx fun i x => .tup [.int (i : Int), x]
theorem enumL_length (xs : List MV) : (enumL xs).length = xs.length := by simp [enumL]
theorem enumL_get {xs : List MV} {i : Nat} {y : MV} (h : (enumL xs)[i]? = some y) : ∃ x, xs[i]? = some x ∧ y = .tup [.int (i : Int), x] := by
  simp only [enumL, List.getElem?_mapIdx, Option.map_eq_some_iff] at h
  obtain ⟨x, h1, h2⟩ := h
  exact ⟨x, h1, h2.symm⟩

/-- for i, x in enumerate(xs) -/
theorem WI.enum {f : Str} {p pos tp : Pos} {e : Expr} {es : List Expr} {k : Nat} {K : List MV → (Hp → Prop) → Hp → Prop} (hA : AOk A n) (hx : f ∈ gs) (g : Gl C f (.type "enumerate"))
    (h : WE C A env gs S H e fun x H₁ => ∃ a xs, x = .ref a ∧ (a, MO.list xs) ∈ H₁ ∧ K (enumL xs) (fun H => (a, MO.list xs) ∈ H) H₁)
    (he : starEach [e] env = [(false, eval e env)] := by with_unfolding_all rfl) : WI C A env gs S H (.Call (.Name f p) [e] [] pos) (.Tuple es k tp) K := by
  intro s I F
  refine Call_ (wpAny_mono (WE.gl (Q := fun x H' => x = .raw (.type "enumerate") ∧ H' = H) hx g ⟨rfl, rfl⟩ s I F) (fun v s₁ h₁ => ?_) noE)
  first | (refine EP.elim h₁ fun x H₁ r₁ I₁ k₁ hq => ?_; clear h₁) | (refine LP.elim h₁ fun x H₁ r₁ I₁ k₁ hq => ?_; clear h₁) | obtain ⟨x, H₁, r₁, I₁, k₁, hq⟩ := h₁
  obtain ⟨rfl, rfl⟩ := hq
  unfold VR at r₁; subst r₁
  rw [show backTo pos (starEach [e] env) = [(false, eval e env)] from by rw [he]; rfl]
  refine PySem.callWith_type rfl (evalArgs_plain (spliced_cons (wpAny_mono (h s₁ I₁ (F.keep I k₁)) (fun v s₂ h₂ => spliced_nil ?_) noE)))
  first | (refine EP.elim h₂ fun x H₂ r₂ I₂ k₂ hq => ?_; clear h₂) | (refine LP.elim h₂ fun x H₂ r₂ I₂ k₂ hq => ?_; clear h₂) | obtain ⟨x, H₂, r₂, I₂, k₂, hq⟩ := h₂
  obtain ⟨a, xs, rfl, hm, q⟩ := hq
  unfold VR at r₂; subst r₂
  obtain ⟨vs, m, ho, hr⟩ := I₂.objs _ hm
  have hl : s₂.heap.IsList a vs.toArray := ⟨_, ho, rfl, m, rfl⟩
  refine call_enumerate_list hl fun h' he' hit hsz hk => ?_
  refine wpAny_pyIter_enum he' ?_
  have hei : s₂.heap.objs.size + 1 ≠ s₂.heap.objs.size := by omega
  refine ⟨s₂.heap.objs.size + 1, [s₂.heap.objs.size + 1, s₂.heap.objs.size], enumL xs, _, fun i h => (∃ old, IsEnum h (s₂.heap.objs.size + 1) s₂.heap.objs.size (i : Int) old) ∧ h.IsListIter s₂.heap.objs.size a i,
    fun i v h => (∃ item T, v = .ref T ∧ IsEnumOut h (s₂.heap.objs.size + 1) s₂.heap.objs.size ((i : Int) + 1) item T) ∧ h.IsListIter s₂.heap.objs.size a (i + 1), H₂, rfl, ?_, ⟨⟨_, he'⟩, hit⟩, I₂.grow hk s₂.toks, (k₁.trans k₂).trans (Kp.of_keeps hk), ?_, q⟩
  · have mem2 : ∀ {b : Addr}, b ∈ [s₂.heap.objs.size + 1, s₂.heap.objs.size] → b = s₂.heap.objs.size + 1 ∨ b = s₂.heap.objs.size := fun h => by simpa using h
    refine ⟨fun i h h' st _ hk => ?_, fun i h st b hb => ?_, fun i x H' s' Q hx I' hok st hQ => ?_, fun i x v s' Q hx hv st hQ => ?_, fun H' s' Q I' hok st hQ => ?_, ?plain, fun i s' Q st hQ => ?_⟩
    · obtain ⟨⟨old, e⟩, o, e2, r⟩ := st
      exact ⟨⟨old, hk _ (by simp) _ e⟩, o, hk _ (by simp) _ e2, r⟩
    · rcases mem2 hb with rfl | rfl
      · rcases st with ⟨⟨old, e⟩, _⟩ | ⟨_, ⟨it, T, _, e⟩, _⟩ <;> exact ⟨_, e, by simp [Imm]⟩
      · rcases st with ⟨_, o, e, c, d⟩ | ⟨_, _, o, e, c, d⟩ <;> exact ⟨o, e, by simp [Imm, c]⟩
    · obtain ⟨x', hx', rfl⟩ := enumL_get hx
      obtain ⟨vs', m', ho', hr'⟩ := I'.objs _ hok
      obtain ⟨v, hv, rv⟩ := hr'.get hx'
      obtain ⟨⟨old, e⟩, hit'⟩ := st
      refine wpAny_pyNext_enum_item e hit' ⟨_, ho', rfl, m', rfl⟩ (x := v) (by simpa using hv) hei fun h'' eo it'' ht'' hz'' hk'' => ?_
      have ex : Ext [s₂.heap.objs.size + 1, s₂.heap.objs.size] s'.heap h'' := fun b o hb e => hk'' b o (fun q => hb (by simp [q])) (fun q => hb (by simp [q])) e
      have tk : TupKeep s'.heap h'' := fun b o e' hm => ex b o (fun hb => by
        rcases mem2 hb with rfl | rfl
        · rw [e] at e'; cases e'; simp [Imm] at hm
        · obtain ⟨o2, e2, c2, d2⟩ := hit'
          rw [e2] at e'; cases e'; simp [Imm, c2] at hm) e'
      refine hQ _ h'' _ ?_ ⟨⟨v, _, rfl, eo⟩, it''⟩ ex
      unfold VR
      exact ⟨_, [.int i s'.toks, v], rfl, ⟨_, ht'', rfl, 0, rfl⟩, .cons (by unfold VR; exact ⟨_, rfl⟩) (.one (rv.keep tk))⟩
    · obtain ⟨⟨item, T, rfl, eo⟩, hit'⟩ := st
      refine wpAny_letOwnedTupleGo_enum eo fun h'' e' hs' => ?_
      refine hQ h'' s'.toks ⟨⟨item, ?_⟩, ?_⟩ (fun b o hb e => hs'.extBut b o (fun q => hb (by simp [q])) e)
      · have : ((i + 1 : Nat) : Int) = (i : Int) + 1 := by omega
        rw [this]; exact e'
      · exact hit'.extBut hs'.extBut (Nat.ne_of_lt (Nat.lt_succ_self _))
    · obtain ⟨⟨old, e⟩, hit'⟩ := st
      obtain ⟨vs', m', ho', hr'⟩ := I'.objs _ hok
      rw [enumL_length] at e hit'
      refine wpAny_pyNext_enum_end hA.handled e hit' ⟨_, ho', rfl, m', rfl⟩ ?_ fun h' hx => hQ h' s'.toks (fun b o hb e => hx b o (fun q => hb (by simp [q])) e)
      simp [hr'.length]
    case plain => exact fun _ _ h => nomatch h
    · obtain ⟨⟨old, e⟩, _⟩ := st
      exact wpAny_pyIter_enum e hQ
  · have hge : ∀ b ∈ [s₂.heap.objs.size + 1, s₂.heap.objs.size], ¬ b < s₂.heap.objs.size := fun b hb h => by
      rcases List.mem_cons.mp hb with rfl | hb
      · exact absurd h (Nat.not_lt.mpr (Nat.le_succ _))
      · rw [List.mem_singleton.mp hb] at h; exact Nat.lt_irrefl _ h
    intro b hb
    have hlt : ∀ o, s.heap.get? b = some o → dom H₁ b := fun o e => by
      by_cases d : dom H₁ b
      · exact d
      · have := (k₁.trans k₂) b o e d
        have := Heap.lt_size this.1
        exact absurd this (hge b hb)
    exact ⟨hlt, fun d => hge b hb (I₂.lt d)⟩
end
end Mine
namespace Mine
open PySem PySem.Calls PyProof.Rows

inductive Upd : Hp → Addr → MO → Hp → Prop
  | here {a o r o'} : Upd ((a, o) :: r) a o' ((a, o') :: r)
  | there {p r a o' r'} : Upd r a o' r' → Upd (p :: r) a o' (p :: r')
theorem Upd.fst {H H' : Hp} {a : Addr} {o : MO} (u : Upd H a o H') : H'.map (·.1) = H.map (·.1) := by
  induction u with
  | here => rfl
  | there _ ih => simp only [List.map_cons, ih]
theorem Upd.mem {H H' : Hp} {a : Addr} {o : MO} (u : Upd H a o H') : a ∈ H.map (·.1) := by
  induction u with
  | here => exact List.mem_cons_self
  | there _ ih => exact List.mem_cons_of_mem _ ih
theorem Upd.inv {H H' : Hp} {a : Addr} {o : MO} (u : Upd H a o H') (nd : (H.map (·.1)).Nodup) : ∀ p ∈ H', p = (a, o) ∨ (p ∈ H ∧ p.1 ≠ a) := by
  induction u with
  | @here a o r o' =>
    intro p hp
    have hn := (List.nodup_cons.mp nd).1
    rcases List.mem_cons.mp hp with rfl | hp
    · exact .inl rfl
    · refine .inr ⟨List.mem_cons_of_mem _ hp, fun q => hn ?_⟩
      have := List.mem_map_of_mem (f := (·.1)) hp
      rw [q] at this; exact this
  | @there q r a o' r' u' ih =>
    intro p hp
    have hn := List.nodup_cons.mp nd
    rcases List.mem_cons.mp hp with rfl | hp
    · refine .inr ⟨List.mem_cons_self, fun e => hn.1 ?_⟩
      have := u'.mem
      rw [← e] at this; exact this
    · rcases ih hn.2 p hp with h | h
      · exact .inl h
      · exact .inr ⟨List.mem_cons_of_mem _ h.1, h.2⟩
section
variable {C : Cx} {A : Around} {env : Env} {gs : List Str} {S : Sg} {H : Hp} {n : Nat} {Q : MV → Hp → Prop}

theorem Inv.upd {s : Shared} {h' : Heap} {a : Addr} {m mo : MO} {H' : Hp} (I : Inv C H s) (hm : (a, m) ∈ H) (u : Upd H a mo H') (hx : Heap.ExtBut a s.heap h') (hor : OR C.h₀ h' a mo) (t : Nat) :
    Inv C H' { s with heap := h', toks := t } ∧ Kp s.heap H h' H' := by
  have hd : dom H a := List.mem_map_of_mem (f := (·.1)) hm
  have tk : TupKeep s.heap h' := fun b o e hi => hx b o (fun q => I.noTup (q ▸ e) hi (q ▸ hd)) e
  have hdom : ∀ b, dom H' b ↔ dom H b := fun b => by unfold dom; rw [u.fst]
  refine ⟨⟨fun b o e => hx b o (fun q => ?_) (I.base b o e), fun p hp => ?_, fun p hp => ?_, u.fst ▸ I.nodup, I.gens, I.os⟩, fun b o e nb => ⟨hx b o (fun q => nb (q ▸ hd)) e, fun d => nb ((hdom b).mp d)⟩⟩
  · have := I.new _ hm
    rw [q] at e; rw [e] at this; cases this
  · rcases u.inv I.nodup p hp with rfl | ⟨h1, h2⟩
    · exact hor
    · exact (I.objs p h1).keep tk fun ob e => hx _ _ h2 e
  · rcases u.inv I.nodup p hp with rfl | ⟨h1, h2⟩
    · have := I.new _ hm; exact this
    · exact I.new p h1

/-! methods of lists -/
theorem WE.meth1 {o e : Expr} {name : Str} {id : String} {apos pos : Pos} {rest : List Expr} (slot : Slot "list" name id) (hty : typeOf (.builtin id) = pure (.type "method_descriptor"))
    (h : WE C A env gs S H o fun x H₁ => ∃ a xs, x = .ref a ∧ (a, MO.list xs) ∈ H₁ ∧ WEs C A env gs S H₁ (e :: rest) fun ys H₂ => WC C A H₂ (.builtin id) (.ref a :: ys) Q)
    (hbase : attributeBase o name env (eval o env) = eval o env := by with_unfolding_all rfl) (he : starEach (e :: rest) env = (false, eval e env) :: starEach rest env := by with_unfolding_all rfl) (hplain : (backTo pos (starEach rest env)).any (·.1) = false := by with_unfolding_all rfl)
    (hfew : ((backTo pos (starEach (e :: rest) env)).all (fun x => !x.1) && (backToKw pos (keywordEach [] env)).all (fun x => x.1.isSome)
      && decide ((e :: rest).length + ([] : List Keyword).length + (if ([] : List Keyword).isEmpty then 0 else 1) < 30)) = true := by with_unfolding_all rfl) (hline : (apos.endLine == pos.line) = true := by with_unfolding_all rfl) :
    WE C A env gs S H (.Call (.Attribute o name apos) (e :: rest) [] pos) Q := by
  intro s I F
  refine wpAny_Call_method_lateS hbase hfew hline (wpAny_mono (h s I F) (fun v s₁ h₁ => ?_) noE)
  first | (refine EP.elim h₁ fun x H₁ r₁ I₁ k₁ hq => ?_; clear h₁) | (refine LP.elim h₁ fun x H₁ r₁ I₁ k₁ hq => ?_; clear h₁) | obtain ⟨x, H₁, r₁, I₁, k₁, hq⟩ := h₁
  obtain ⟨a, xs, rfl, hm, h₁⟩ := hq
  unfold VR at r₁; subst r₁
  obtain ⟨vs, m, ho, hr⟩ := I₁.objs _ hm
  refine ⟨"list", id, PySem.F.plainAttrs_list, slot, hty, ⟨_, ho, rfl⟩, fun b q => ?_, ?_⟩
  · cases q; exact ⟨_, ho, rfl⟩
  have hh := h₁ s₁ pos I₁ (F.keep I k₁)
  rw [he] at hh ⊢
  refine callWith_builtin (by show (false || (backTo pos (starEach rest env)).any (·.1)) = false; rw [hplain]; rfl) (evalArgs_plain (wpAny_mono hh (fun us s₂ h₂ => ?_) noE))
  first | (refine EP.elim h₂ fun ys H₂ r₂ I₂ k₂ q₂ => ?_; clear h₂) | (refine LP.elim h₂ fun ys H₂ r₂ I₂ k₂ q₂ => ?_; clear h₂) | obtain ⟨ys, H₂, r₂, I₂, k₂, q₂⟩ := h₂
  exact wpAny_mono (q₂ s₂ (.ref a :: us) I₂ (.cons (by unfold VR; rfl) r₂)) (fun _ _ h => h.from (k₁.trans k₂)) noE
theorem WE.meth0 {o : Expr} {name : Str} {id : String} {apos pos : Pos} (slot : Slot "list" name id) (hty : typeOf (.builtin id) = pure (.type "method_descriptor"))
    (h : WE C A env gs S H o fun x H₁ => ∃ a xs, x = .ref a ∧ (a, MO.list xs) ∈ H₁ ∧ WC C A H₁ (.builtin id) [.ref a] Q)
    (hbase : attributeBase o name env (eval o env) = eval o env := by with_unfolding_all rfl) (hline : (apos.endLine == pos.line) = true := by with_unfolding_all rfl) :
    WE C A env gs S H (.Call (.Attribute o name apos) [] [] pos) Q := by
  intro s I F
  refine wpAny_Call_method_lateS hbase rfl hline (wpAny_mono (h s I F) (fun v s₁ h₁ => ?_) noE)
  first | (refine EP.elim h₁ fun x H₁ r₁ I₁ k₁ hq => ?_; clear h₁) | (refine LP.elim h₁ fun x H₁ r₁ I₁ k₁ hq => ?_; clear h₁) | obtain ⟨x, H₁, r₁, I₁, k₁, hq⟩ := h₁
  obtain ⟨a, xs, rfl, hm, h₁⟩ := hq
  unfold VR at r₁; subst r₁
  obtain ⟨vs, m, ho, hr⟩ := I₁.objs _ hm
  refine ⟨"list", id, PySem.F.plainAttrs_list, slot, hty, ⟨_, ho, rfl⟩, fun b q => ?_, ?_⟩
  · cases q; exact ⟨_, ho, rfl⟩
  refine callWith_builtin rfl (PySem.evalArgs_none ?_)
  exact wpAny_mono (h₁ s₁ [.ref a] I₁ (.one (by unfold VR; rfl))) (fun _ _ h => h.from k₁) noE

theorem WC.append {a : Addr} {xs : List MV} {x : MV} {H' : Hp} (hm : (a, MO.list xs) ∈ H) (u : Upd H a (.list (xs ++ [x])) H') (hsz : xs.length ≤ sizeLine) (q : Q .none H') : WC C A H (.builtin "list.append") [.ref a, x] Q := .of2 fun s v w I r₁ r₂ => by
  unfold VR at r₁; subst r₁
  obtain ⟨vs, m, ho, hr⟩ := I.objs _ hm
  refine wpAny_list_append_plain (items := vs.toArray) ⟨m, ho⟩ (fun h' hl hs => ?_) (by rw [List.size_toArray, hr.length]; exact hsz)
  obtain ⟨m', hl⟩ := hl
  have tk : TupKeep s.heap h' := fun b o e hi => hs.extBut b o (fun q => I.noTup e hi (by rw [q]; exact List.mem_map_of_mem (f := (·.1)) hm)) e
  obtain ⟨I', k⟩ := I.upd hm u hs.extBut ⟨vs ++ [w], m', by rw [hl]; simp, (hr.append (.one r₂)).keep tk⟩ s.toks
  exact ⟨_, H', by unfold VR; rfl, I', k, q⟩
/-- xs.append(e) as a statement's expression -/
theorem WE.append {o e : Expr} {apos pos : Pos} (h : WE C A env gs S H o fun x H₁ => ∃ a xs, x = .ref a ∧ (a, MO.list xs) ∈ H₁ ∧ WE C A env gs S H₁ e fun y H₂ => ∃ ys H₃, (a, MO.list ys) ∈ H₂ ∧ Upd H₂ a (.list (ys ++ [y])) H₃ ∧ ys.length ≤ sizeLine ∧ Q .none H₃)
    (hbase : attributeBase o ("append" : Str) env (eval o env) = eval o env := by with_unfolding_all rfl) (he : starEach [e] env = [(false, eval e env)] := by with_unfolding_all rfl)
    (hline : (apos.endLine == pos.line) = true := by with_unfolding_all rfl) :
    WE C A env gs S H (.Call (.Attribute o "append" apos) [e] [] pos) Q := by
  refine WE.meth1 (id := "list.append") slot_list_append PySem.F.type_list_append (h.mono fun x H₁ h₁ => ?_) hbase he (by rfl) (by rw [he]; rfl) hline
  obtain ⟨a, xs, rfl, hm, h₂⟩ := h₁
  refine ⟨a, xs, rfl, hm, WEs.cons (h₂.mono fun y H₂ h₃ => WEs.nil ?_) he⟩
  first | (refine EP.elim h₃ fun ys H₃ h4 h5 h6 h7 => ?_; clear h₃) | (refine LP.elim h₃ fun ys H₃ h4 h5 h6 h7 => ?_; clear h₃) | obtain ⟨ys, H₃, h4, h5, h6, h7⟩ := h₃
  exact WC.append h4 h5 h6 h7
end
end Mine
namespace Mine
open PySem PySem.Calls PyProof.Rows

def compOk (sc : Scope) (x : Str) (ys gs : List Str) : Bool :=
  sc.kind == .function && sc.names.lookup x == some .local && decide (x :: ys).Nodup && (x :: ys).all (fun y => !(y == ("__debug__" : Str))) && ys.all (fun y => sc.names.lookup y == some .free) &&
  gs.all (fun g => sc.names.lookup g == some .globalImplicit) && sc.names.all (fun p => p.2 != .cell) && sc.names.all (fun p => p.2 != .local || sc.names.lookup p.1 == some .local) &&
  sc.names.all (fun p => p.2 != .free || ys.contains p.1) && decide ((sc.names.filter (fun p => p.2 == .free)).map (·.1)).Nodup

def clOf (cells : List (Str × Addr)) : List (Str × NameKind) → List (Str × Addr) → List (Str × Addr)
  | [], acc => acc
  | (n, k) :: r, acc => if k == .free then clOf cells r ((n, (cells.lookup n).getD 0) :: acc) else clOf cells r acc
theorem clOf_fst (cells : List (Str × Addr)) : ∀ (names : List (Str × NameKind)) (acc : List (Str × Addr)), (clOf cells names acc).map (·.1) = ((names.filter (fun p => p.2 == .free)).map (·.1)).reverse ++ acc.map (·.1)
  | [], _ => by simp [clOf]
  | (x, k) :: r, acc => by
    unfold clOf
    by_cases hk : (k == .free) = true
    · rw [if_pos hk, clOf_fst cells r]
      simp [hk]
    · rw [if_neg hk, clOf_fst cells r]
      simp [hk]
theorem clOf_mem (cells : List (Str × Addr)) : ∀ (names : List (Str × NameKind)) (acc : List (Str × Addr)), (∀ p ∈ names, p.2 = .free → ∃ c, cells.lookup p.1 = some c) → (∀ p ∈ acc, p ∈ cells) → ∀ p ∈ clOf cells names acc, p ∈ cells
  | [], _, _, h, p, hp => h p hp
  | (x, k) :: r, acc, h1, h2, p, hp => by
    unfold clOf at hp
    split at hp
    · rename_i hk
      refine clOf_mem cells r _ (fun q hq => h1 q (List.mem_cons_of_mem _ hq)) (fun q hq => ?_) p hp
      rcases List.mem_cons.mp hq with rfl | hq
      · obtain ⟨c, hc⟩ := h1 (x, k) List.mem_cons_self (by simpa using hk)
        have hc' : cells.lookup x = some c := hc
        rw [hc']; exact mem_of_lookup hc'
      · exact h2 q hq
    · exact clOf_mem cells r acc (fun q hq => h1 q (List.mem_cons_of_mem _ hq)) h2 p hp
theorem closure_is {env : Env} : ∀ (names : List (Str × NameKind)) (acc : List (Str × Addr)) (f : Str × NameKind → List (Str × Addr) → Sem (ForInStep (List (Str × Addr)))),
    (∀ n k cs, f (n, k) cs = if k == .free then (do let a ← cellOf env n; pure (.yield ((n, a) :: cs))) else pure (.yield cs)) → (∀ p ∈ names, p.2 = .free → ∃ c, env.cells.lookup p.1 = some c) →
    forIn names acc f = pure (clOf env.cells names acc)
  | [], acc, f, _, _ => by simp [clOf]
  | (n, k) :: r, acc, f, hf, h => by
    have ih := fun acc' => closure_is r acc' f hf fun p hp => h p (List.mem_cons_of_mem _ hp)
    rw [List.forIn_cons, hf]
    by_cases hk : (k == .free) = true
    · obtain ⟨c, hc⟩ := h (n, k) List.mem_cons_self (by simpa using hk)
      have hc' : env.cells.lookup n = some c := hc
      rw [if_pos hk]
      have : cellOf env n = pure c := by unfold cellOf; rw [hc']
      rw [this]
      show forIn r ((n, c) :: acc) f = _
      rw [ih]
      simp only [clOf, hk, if_true, hc', Option.getD_some]
    · rw [if_neg hk]
      show forIn r acc f = _
      rw [ih]
      simp only [clOf, hk]
      rfl
theorem closureFor_is {env : Env} {scope : Scope} (h : ∀ p ∈ scope.names, p.2 = .free → ∃ c, env.cells.lookup p.1 = some c) : closureFor scope env = pure (clOf env.cells scope.names []) := by
  unfold closureFor
  have := closure_is scope.names [] (fun (x : Str × NameKind) cs => if x.2 == .free then (do let a ← cellOf env x.1; pure (.yield ((x.1, a) :: cs))) else pure (.yield cs)) (fun n k cs => rfl) h
  refine Eq.trans (congrArg (fun t => t >>= fun r => pure r) ?_) (congrArg (fun t => t >>= fun r => pure r) this)
  congr 1

theorem lookup_relabel {env : Env} : ∀ {names : List (Str × NameKind)} {x : Str},
    (names.map fun (n, k) => if (k == NameKind.free && env.scope.kind == .function && env.kindOf n == some .cell) then (n, NameKind.cell) else (n, k)).lookup x =
      (names.lookup x).map fun k => if (k == NameKind.free && env.scope.kind == .function && env.kindOf x == some .cell) then .cell else k
  | [], _ => rfl
  | (n, k) :: r, x => by
    have ih := @lookup_relabel env r x
    show List.lookup x ((if (k == NameKind.free && env.scope.kind == .function && env.kindOf n == some .cell) = true then (n, NameKind.cell) else (n, k)) :: _) = _
    cases hx : x == n with
    | true =>
      obtain rfl := beq_iff_eq.mp hx
      by_cases hc : (k == NameKind.free && env.scope.kind == .function && env.kindOf x == some .cell) = true
      · rw [if_pos hc]; simp only [List.lookup_cons, beq_self_eq_true, Option.map_some]; rw [if_pos hc]
      · rw [if_neg hc]; simp only [List.lookup_cons, beq_self_eq_true, Option.map_some]; rw [if_neg hc]
    | false =>
      by_cases hc : (k == NameKind.free && env.scope.kind == .function && env.kindOf n == some .cell) = true
      · rw [if_pos hc]; simp only [List.lookup_cons, hx]; exact ih
      · rw [if_neg hc]; simp only [List.lookup_cons, hx]; exact ih

/-- tests of a comprehension: none or one -/
def CT (C : Cx) (A : Around) (env : Env) (gs : List Str) (S : Sg) (H : Hp) (ifs : List Expr) (K : Bool → Hp → Prop) : Prop :=
  match ifs with
  | [] => K true H
  | [c] => WT C A env gs S H c K
  | _ => False

section
variable {C : Cx} {A : Around} {env : Env} {gs gsc : List Str} {S : Sg} {H : Hp} {n : Nat}

theorem compEnv_ok {s : Shared} {scope : Scope} {x : Str} {caps : Sg} (F : Fm C env gs S H s.heap) (nf : NoFree env S) (hc : compOk scope x (names caps) gsc = true) (hcap : ∀ y ∈ names caps, ∃ v, At S y v ∧ env.kindOf y ≠ some .local)
    {L : Addr} (hL : s.heap.objs.size ≤ L) : (∀ p ∈ scope.names, p.2 = .free → ∃ c, env.cells.lookup p.1 = some c) ∧ EnvOk (compEnvC scope (clOf env.cells scope.names []) L env) (x :: names caps) gsc ∧ ∀ p ∈ clOf env.cells scope.names [], p ∈ env.cells := by
  simp only [compOk, Bool.and_eq_true, decide_eq_true_eq, List.all_eq_true, Bool.or_eq_true, beq_iff_eq, Bool.not_eq_true', bne_iff_ne, ne_eq] at hc
  obtain ⟨⟨⟨⟨⟨⟨⟨⟨⟨h1, h2⟩, h3⟩, h4⟩, h5⟩, h6⟩, h7⟩, h8⟩, h9⟩, h10⟩ := hc
  have kc : ∀ y ∈ names caps, env.kindOf y = some .cell ∧ ∃ c, env.cells.lookup y = some c := fun y hy => by
    obtain ⟨v, a, hk⟩ := hcap y hy
    rcases F.ok.vars y a.mem with h | ⟨h | h, c⟩
    · exact absurd h hk
    · exact ⟨h, c⟩
    · exact absurd h.1 (nf y a.mem)
  have hcl : ∀ p ∈ scope.names, p.2 = .free → ∃ c, env.cells.lookup p.1 = some c := fun p hp hf => by
    rcases h9 p hp with h | h
    · exact absurd hf h
    · exact (kc p.1 (by simpa using h)).2
  have hmem := clOf_mem env.cells scope.names [] hcl (by simp)
  have hfst := clOf_fst env.cells scope.names []
  refine ⟨hcl, ⟨h1, F.ok.glob, F.ok.blt, h3, fun y hy => by simpa using h4 y hy, fun y hy => ?_, fun y hy => ?_, ?_, fun nm c c' a b => ?_, fun nm c a => ?_⟩, hmem⟩
  · show (relabel scope env).names.lookup y = _ ∨ (((relabel scope env).names.lookup y = _ ∨ _) ∧ _)
    unfold relabel
    rw [lookup_relabel]
    rcases List.mem_cons.mp hy with rfl | hy
    · exact .inl (by rw [h2]; rfl)
    · refine .inr ⟨.inl ?_, ?_⟩
      · rw [h5 y hy]
        simp [F.ok.kind, (kc y hy).1]
      · refine mem_lookup ?_
        rw [show (compEnvC scope (clOf env.cells scope.names []) L env).cells = clOf env.cells scope.names [] from rfl, hfst]
        simp only [List.map_nil, List.append_nil, List.mem_reverse]
        exact List.mem_map.mpr ⟨(y, .free), List.mem_filter.mpr ⟨mem_of_lookup (h5 y hy), rfl⟩, rfl⟩
  · show (relabel scope env).names.lookup y = _
    unfold relabel
    rw [lookup_relabel, h6 y hy]
    rfl
  · have nd : ((clOf env.cells scope.names []).map (·.1)).Nodup := by
      rw [hfst, List.map_nil, List.append_nil]
      exact ((List.reverse_perm _).nodup_iff).mpr h10
    show (clOf env.cells scope.names []).Pairwise _
    refine List.Pairwise.imp_of_mem (R := fun a b => a.1 ≠ b.1) (fun {a b} ha hb hab q => hab ?_) (List.pairwise_map.mp nd)
    have hb' := hmem b hb
    rw [show b = (b.1, b.2) from rfl, ← q] at hb'
    exact name_of_addr F.ok.apart (hmem a ha) hb'
  · exact F.ok.cfun nm c c' (hmem _ a) (hmem _ b)
  · obtain ⟨vo, ⟨o, ho, _⟩, _⟩ := F.cell nm c (hmem _ a)
    exact Ne.symm (Nat.ne_of_lt (Nat.lt_of_lt_of_le (Heap.lt_size ho) hL))

def compKK (wr : List Addr) (h₂ : Heap) (H₂ : Hp) (h' : Heap) (H' : Hp) : Prop := ∀ b o, h₂.get? b = some o → ¬ dom H₂ b → b ∉ wr → h'.get? b = some o ∧ ¬ dom H' b

theorem Fm.keepW {h h' : Heap} {H' : Hp} (F : Fm C env gs S H h) (tk : TupKeep h h') (k : ∀ b o, Own env b → h.get? b = some o → ¬ dom H b → h'.get? b = some o ∧ ¬ dom H' b) : Fm C env gs S H' h' := by
  obtain ⟨ok, ⟨mr, hn, hv⟩, nl, nl0, hc⟩ := F
  obtain ⟨oL, es, ep, hL, r⟩ := hn
  refine ⟨ok, ⟨mr, ⟨oL, es, ep, (k _ _ (.inl rfl) hL nl).1, r⟩, fun x v a e => ?_⟩, (k _ _ (.inl rfl) hL nl).2, nl0, fun n c e => ?_⟩
  · obtain ⟨u, h1, h2⟩ := hv x v a e; exact ⟨u, h1, h2.keep tk⟩
  · obtain ⟨vo, ⟨oc, ho, hd⟩, nd, n0, hv⟩ := hc n c e
    refine ⟨vo, ⟨oc, (k _ _ (.inr ⟨n, e⟩) ho nd).1, hd⟩, (k _ _ (.inr ⟨n, e⟩) ho nd).2, n0, fun v a e => ?_⟩
    obtain ⟨u, h1, h2⟩ := hv v a e; exact ⟨u, h1, h2.keep tk⟩

set_option maxHeartbeats 1000000 in
theorem comp_main {s : Shared} {elt iter : Expr} {x : Str} {px pos p0 : Pos} {ifs : List Expr} {scope : Scope} {use : Option (Value → Sem Unit)} {Q : Value → Shared → Prop} (caps : Sg)
    (I : Inv C H s) (F : Fm C env gs S H s.heap) (nf : NoFree env S)
    (hc : compOk scope x (names caps) gsc = true) (hcap : ∀ y v, At caps y v → At S y v) (hcapn : ∀ y ∈ names caps, ∃ v, At S y v ∧ env.kindOf y ≠ some .local)
    (h : WI C A env gs S H iter (.Name x px) fun xs Ok H₁ => xs.length ≤ sizeLine ∧ ∃ J : Nat → List MV → Hp → Prop, J 0 [] H₁ ∧ (∀ i ys H, J i ys H → Ok H ∧ ys.length ≤ i) ∧
      (∀ i v ys H cenv, xs[i]? = some v → J i ys H → CT C A cenv gsc ((x, some v) :: caps) H ifs fun b H₂ => if b = true then WE C A cenv gsc ((x, some v) :: caps) H₂ elt fun y H₃ => J (i + 1) (ys ++ [y]) H₃ else J (i + 1) ys H₂) ∧
      (∀ D L ys H' s', J xs.length ys H' → ¬ dom H' D → ¬ dom ((D, MO.list ys) :: H') L → Inv C ((D, .list ys) :: H') s' → Fm C env gs S ((D, .list ys) :: H') s'.heap → Kp s.heap H s'.heap ((D, .list ys) :: H') → (∃ m, s'.heap.Ns L m) →
        ¬ Own env L → C.h₀.get? L = none → (∀ b o, s.heap.get? b = some o → ¬ dom H b → b ≠ L) → compPost (Md C) A NoE use Q (.ref D) L (.ok .next) s'))
    (hs : ∀ x, foldedSetIterable iter env x = pure x) : wpAny (Md C) A (comprehension (.ListComp elt [⟨.Name x px, iter, ifs, 0⟩] scope pos) scope env p0 (newList []) false (eval iter env) use) Q NoE s := by
  have hc' := hc
  simp only [compOk, Bool.and_eq_true, decide_eq_true_eq, List.all_eq_true, Bool.or_eq_true, beq_iff_eq, Bool.not_eq_true', bne_iff_ne, ne_eq] at hc'
  obtain ⟨⟨⟨⟨⟨⟨⟨⟨⟨c1, c2⟩, c3⟩, c4⟩, c5⟩, c6⟩, c7⟩, c8⟩, c9⟩, c10⟩ := hc'
  have hclos := (compEnv_ok F nf hc hcapn (Nat.le_refl _)).1
  refine wpAny_comprehension_free rfl hs (closureFor_is hclos) c1 (fun y hy hl => ?_) (wpAny_mono (h s I F) (fun xv s₁ h₁ => wpAny_mono h₁ (fun w s₂ h₂ => ?_) noE) noE)
  · rcases c8 y hy with q | q
    · exact absurd hl q
    · exact q
  first | (refine EP.elim h₂ fun it wr xs Ok St hq => ?_; clear h₂) | (refine LP.elim h₂ fun it wr xs Ok St hq => ?_; clear h₂) | obtain ⟨it, wr, xs, Ok, St, hq⟩ := h₂
  obtain ⟨Mid, H₂, rfl, W, hst, I₂, k₂, hw, hlen, J, j0, jok, turn, fin⟩ := hq
  have F₂ := F.keep I k₂
  have hb0 : ∀ b ∈ wr, C.h₀.get? b = none := fun b hb => by
    cases e : C.h₀.get? b with
    | none => rfl
    | some o =>
      have d := (hw b hb).1 o (I.base _ _ e)
      obtain ⟨p, hp, rfl⟩ := List.mem_map.mp d
      rw [I.new p hp] at e; cases e
  have hno : ∀ b ∈ wr, ¬ Own env b := fun b hb => notOwn F (hw b hb).1
  have hwlt : ∀ b ∈ wr, b < s₂.heap.objs.size := fun b hb => by obtain ⟨o, e, _⟩ := W.obj 0 _ (.inl hst) b hb; exact Heap.lt_size e
  refine wpAny_newObj_type (wpAny_newFunctionEnv c7 (by intro y hy; simp at hy) (fun h₁ hns₁ hsb₁ => ?_) c1)
  dsimp only at hns₁ hsb₁ ⊢
  generalize hH2 : s₂.heap.push { cls := .type "list", dict := none, data := .seq ([] : List Value).toArray } = G at hns₁ hsb₁ ⊢
  have hGs : G.objs.size = s₂.heap.objs.size + 1 := by rw [← hH2, Heap.size_push]
  have hacc0 : G.get? s₂.heap.objs.size = some { cls := .type "list", dict := none, data := .seq ([] : List Value).toArray } := by rw [← hH2]; exact Heap.get?_push_size _ rfl
  have old : ∀ b o, s₂.heap.get? b = some o → h₁.get? b = some o := fun b o e => hsb₁.extBut b o (by rw [hGs]; exact Nat.ne_of_lt (Nat.lt_succ_of_lt (Heap.lt_size e))) (Heap.get?_push_of_some _ (hH2 ▸ Heap.get?_push_of_some _ e))
  have hDle : s₂.heap.objs.size ≤ s₂.heap.objs.size := Nat.le_refl _
  generalize hD : s₂.heap.objs.size = D at hGs hacc0 hwlt hDle ⊢
  have hDL : D ≠ G.objs.size := by rw [hGs]; exact Nat.ne_of_lt (Nat.lt_succ_self _)
  have hLD : D ≤ G.objs.size := by rw [hGs]; exact Nat.le_succ _
  have hacc : h₁.PlainList D #[] := ⟨_, hsb₁.extBut _ _ hDL (Heap.get?_push_of_some _ hacc0)⟩
  generalize hLq : G.objs.size = L at hns₁ hsb₁ hDL hLD ⊢
  have fresh : ∀ a, D ≤ a → s₂.heap.get? a = none := fun a ha => by
    cases e : s₂.heap.get? a with
    | none => rfl
    | some o' => exact absurd (Heap.lt_size e) (Nat.not_lt.mpr (hD ▸ ha))
  have nd₂ : ∀ a, D ≤ a → ¬ dom H₂ a := fun a ha d => absurd (I₂.lt d) (Nat.not_lt.mpr (hD ▸ ha))
  have n0 : ∀ a, D ≤ a → C.h₀.get? a = none := fun a ha => by
    cases e : C.h₀.get? a with
    | none => rfl
    | some o => have := I₂.base _ _ e; rw [fresh a ha] at this; cases this
  have nOwn : ∀ a, D ≤ a → ¬ Own env a := fun a ha => notOwn F₂ fun o e => by rw [fresh a ha] at e; cases e
  have nwr : ∀ a, D ≤ a → a ∉ wr := fun a ha hb => absurd (hwlt a hb) (Nat.not_lt.mpr ha)
  obtain ⟨_, ok, hmem⟩ := compEnv_ok F₂ nf hc hcapn (L := L) (hD ▸ hLD)
  generalize hcenv : compEnvC scope (clOf env.cells scope.names []) L env = cenv at ok
  have eL : cenv.locals = L := by rw [← hcenv]; rfl
  have eC : cenv.cells = clOf env.cells scope.names [] := by rw [← hcenv]; rfl
  have ownC : ∀ b, Own cenv b → b = L ∨ Own env b := fun b hb => by
    rcases hb with q | ⟨nm, q⟩
    · exact .inl (q.trans eL)
    · rw [eC] at q; exact .inr (.inr ⟨nm, hmem _ q⟩)
  have hxl : cenv.kindOf x = some .local := by
    rw [← hcenv]
    show (relabel scope env).names.lookup x = _
    unfold relabel; rw [lookup_relabel, c2]; rfl
  have hxf : cenv.kindOf x ≠ some .free := by rw [hxl]; decide
  have kcell : ∀ y ∈ names caps, cenv.kindOf y ≠ some .local := fun y hy => by
    rw [← hcenv]
    show (relabel scope env).names.lookup y ≠ _
    unfold relabel; rw [lookup_relabel, c5 y hy]
    simp only [Option.map_some]
    split <;> simp
  have F₁ : Fm C cenv gsc ((x, none) :: caps) H₂ h₁ := by
    refine ⟨ok, ⟨_, eL ▸ hns₁, fun y v a kl => ?_⟩, eL ▸ nd₂ L hLD, eL ▸ n0 L hLD, fun nm c q => ?_⟩
    · cases a with
      | there a => exact absurd kl (kcell y a.mem)
    · rw [eC] at q
      obtain ⟨vo, ⟨oc, ho, hd⟩, ndc, n0c, hv⟩ := F₂.cell nm c (hmem _ q)
      refine ⟨vo, ⟨oc, old _ _ ho, hd⟩, ndc, n0c, fun v a kl => ?_⟩
      cases a with
      | there a =>
        obtain ⟨v', _, hk⟩ := hcapn nm a.mem
        obtain ⟨u, h1, h2⟩ := hv v (hcap _ _ a) hk
        exact ⟨u, h1, h2.keep (.of_keeps old)⟩
  have I₁ : Inv C H₂ { s₂ with heap := h₁, toks := s₂.toks + ([] : List (Str × Value)).length } := I₂.grow old _
  have hst₁ : St 0 h₁ := W.frame _ _ _ hst (.of_keeps old) fun b _ o e => old b o e
  have tk2 : ∀ {h' : Heap} {H' : Hp}, compKK wr s₂.heap H₂ h' H' → TupKeep s₂.heap h' := fun kk a o e hm => (kk a o e (I₂.noTup e hm) (fun hb => by
    obtain ⟨o', e', hi⟩ := W.obj 0 _ (.inl hst) a hb
    rw [e] at e'; cases e'; exact hi hm)).1
  have loop : ∀ s₃ : Shared, s₃ = { s₂ with heap := h₁, toks := s₂.toks + ([] : List (Str × Value)).length } →
      codeAny (Md C) A (.compLoop (.ListComp elt [⟨.Name x px, iter, ifs, 0⟩] scope pos) 0 (.ref it) (.ref D) cenv) (compPost (Md C) A NoE use Q (.ref D) L) s₃ := by
    rintro s₃ rfl
    refine codeAny_compLoop_tests (fun k s' => ∃ i H' ys vs o, i ≤ xs.length ∧ k = xs.length + 1 - i ∧ J i ys H' ∧ Inv C H' s' ∧ Fm C cenv gsc ((x, o) :: caps) H' s'.heap ∧ St i s'.heap ∧ (∀ b ∈ wr, ¬ dom H' b) ∧
      s'.heap.PlainList D vs ∧ VRs C.h₀ s'.heap ys vs.toList ∧ ¬ dom H' D ∧ compKK wr s₂.heap H₂ s'.heap H') ?_ (xs.length + 1)
      ⟨0, H₂, [], #[], none, Nat.zero_le _, rfl, j0, I₁, F₁, hst₁, fun b hb => (hw b hb).2, hacc, VRs.nil, nd₂ D hDle, fun b o e nb _ => ⟨old b o e, nb⟩⟩
    rintro k s' ⟨i, H', ys, vs, o, hi, rfl, hj, I', F', hst', hd', hpl, hvr, hdD, kk⟩
    have hwr : ∀ (s'' : Shared), (St i s''.heap ∨ ∃ v, Mid i v s''.heap) → ∀ b ∈ wr, ¬ dom H' b ∧ C.h₀.get? b = none ∧ ¬ Own cenv b ∧ ∀ o, s''.heap.get? b = some o → ¬ Imm o := fun s'' hs b hb =>
      ⟨hd' b hb, hb0 b hb, fun q => (ownC b q).elim (fun q => nwr L hLD (q ▸ hb)) (hno b hb), fun o e => by obtain ⟨o', e', hm⟩ := W.obj i _ hs b hb; rw [e] at e'; cases e'; exact hm⟩
    have hDc : ¬ Own cenv D := fun q => (ownC D q).elim hDL (nOwn D hDle)
    cases hx : xs[i]? with
    | none =>
      have hl : i = xs.length := by
        rcases Nat.lt_or_ge i xs.length with h | h
        · rw [List.getElem?_eq_getElem h] at hx; cases hx
        · omega
      refine wpAny_mono (W.done H' s' (fun r s₁ => match r with | none => compPost (Md C) A NoE use Q (.ref D) L (.ok .next) s₁ | some _ => False) I' (jok _ _ _ hj).1 (hl ▸ hst') fun h' t e => ?_) (fun r s₁ hr => ?_) noE
      · obtain ⟨I'', F''⟩ := touch I' F' e (hwr s' (.inl hst')) t
        obtain ⟨m', ho⟩ := hpl
        have hoD := e D _ (nwr D hDle) ho
        have kk' : compKK wr s₂.heap H₂ h' H' := fun b o e1 n1 n2 => ⟨e b o n2 (kk b o e1 n1 n2).1, (kk b o e1 n1 n2).2⟩
        have tk' : TupKeep s'.heap h' := fun a o e1 hm => e a o (fun hb => (hwr s' (.inl hst') a hb).2.2.2 o e1 hm) e1
        have Fo : Fm C env gs S ((D, .list ys) :: H') h' := F₂.keepW (tk2 kk') fun b o hw' e1 n1 => by
          have := kk' b o e1 n1 (fun hb => hno b hb hw')
          refine ⟨this.1, fun d => ?_⟩
          rcases List.mem_cons.mp d with q | d
          · rw [q] at e1; rw [fresh D hDle] at e1; cases e1
          · exact this.2 d
        have Ia : Inv C ((D, .list ys) :: H') { s' with heap := h', toks := t } := by
          refine ⟨I''.base, fun p hp => ?_, fun p hp => ?_, List.nodup_cons.mpr ⟨hdD, I''.nodup⟩, I''.gens, I''.os⟩
          · rcases List.mem_cons.mp hp with rfl | hp
            · exact ⟨vs.toList, m', by simpa using hoD, hvr.keep tk'⟩
            · exact I''.objs p hp
          · rcases List.mem_cons.mp hp with rfl | hp
            · exact n0 D hDle
            · exact I''.new p hp
        have hLns : ∃ m, h'.Ns L m := by obtain ⟨mr, hn, _⟩ := F''.ns; exact ⟨mr, eL ▸ hn⟩
        have hkp : Kp s.heap H h' ((D, .list ys) :: H') := fun b o e1 n1 => by
          have h2 := k₂ b o e1 n1
          have h3 := kk' b o h2.1 h2.2 (fun hb => n1 ((hw b hb).1 o e1))
          refine ⟨h3.1, fun d => ?_⟩
          rcases List.mem_cons.mp d with q | d
          · have := h2.1; rw [q, fresh D hDle] at this; cases this
          · exact h3.2 d
        refine fin D L ys H' _ (hl ▸ hj) hdD (fun d => ?_) Ia Fo hkp hLns (nOwn L hLD) (n0 L hLD) (fun b o e1 n1 q => ?_)
        · rcases List.mem_cons.mp d with q | d
          · exact hDL q.symm
          · exact F''.nl (eL ▸ d)
        · have := (k₂ b o e1 n1).1; rw [q, fresh L hLD] at this; cases this
      · cases r with
        | none => exact hr
        | some v => exact hr.elim
    | some v =>
      have hlt : i < xs.length := by
        rcases Nat.lt_or_ge i xs.length with h | h
        · exact h
        · rw [List.getElem?_eq_none h] at hx; cases hx
      refine wpAny_mono (W.next i v H' s' (fun r s₁ => match r with | none => False | some u => VR C.h₀ s₁.heap v u ∧ Inv C H' s₁ ∧ Fm C cenv gsc ((x, o) :: caps) H' s₁.heap ∧ St (i + 1) s₁.heap ∧ s₁.heap.PlainList D vs ∧ VRs C.h₀ s₁.heap ys vs.toList ∧ compKK wr s₂.heap H₂ s₁.heap H') hx I' (jok _ _ _ hj).1 hst' fun u h' t hv hmid e => ?_) (fun r s₁ hr => ?_) noE
      · obtain ⟨I'', F''⟩ := touch I' F' e (hwr s' (.inl hst')) t
        obtain ⟨m', ho⟩ := hpl
        have tk' : TupKeep s'.heap h' := fun a o e1 hm => e a o (fun hb => (hwr s' (.inl hst') a hb).2.2.2 o e1 hm) e1
        exact ⟨hv, I'', F'', W.plain x px rfl i u h' hmid, ⟨m', e D _ (nwr D hDle) ho⟩, hvr.keep tk', fun b o e1 n1 n2 => ⟨e b o n2 (kk b o e1 n1 n2).1, (kk b o e1 n1 n2).2⟩⟩
      · cases r with
        | none => exact hr.elim
        | some u =>
          obtain ⟨hv, Ia, Fa, sta, pla, vra, kka⟩ := hr
          refine wpAny_assign_Name (store Ia Fa hxf .here hv fun s₃ I₃ F₃ _ t₃ x₃ => ?_)
          have x₃ := x₃ hxl
          rw [eL] at x₃
          obtain ⟨m₃, ho₃⟩ := pla
          have st₃ : St (i + 1) s₃.heap := W.frame _ _ _ sta t₃ fun b hb o e1 => x₃ b o (fun q => nwr L hLD (q ▸ hb)) e1
          have pl₃ := x₃ D _ hDL ho₃
          have vr₃ := vra.keep t₃
          have kk₃ : compKK wr s₂.heap H₂ s₃.heap H' := fun b o e1 n1 n2 => ⟨x₃ b o (fun q => by rw [q, fresh L hLD] at e1; cases e1) (kka b o e1 n1 n2).1, (kka b o e1 n1 n2).2⟩
          -- what is behind the tests
          have rest : ∀ (b : Bool) (s₄ : Shared) (H₄ : Hp), Inv C H₄ s₄ → Kp s₃.heap H' s₄.heap H₄ → (if b = true then WE C A cenv gsc ((x, some v) :: caps) H₄ elt fun y H₃ => J (i + 1) (ys ++ [y]) H₃ else J (i + 1) ys H₄) →
              (if b = true then wpAny (Md C) A (eval elt cenv) (fun x_1 s₄ => wpAny (Md C) A (call (.builtin "list.append") [.ref D, x_1]) (fun _ s₅ => ∃ m, m < xs.length + 1 - i ∧ ∃ i H' ys vs o, i ≤ xs.length ∧ m = xs.length + 1 - i ∧ J i ys H' ∧ Inv C H' s₅ ∧ Fm C cenv gsc ((x, o) :: caps) H' s₅.heap ∧ St i s₅.heap ∧ (∀ b ∈ wr, ¬ dom H' b) ∧
                s₅.heap.PlainList D vs ∧ VRs C.h₀ s₅.heap ys vs.toList ∧ ¬ dom H' D ∧ compKK wr s₂.heap H₂ s₅.heap H') NoE s₄) NoE s₄
              else ∃ m, m < xs.length + 1 - i ∧ ∃ i H' ys vs o, i ≤ xs.length ∧ m = xs.length + 1 - i ∧ J i ys H' ∧ Inv C H' s₄ ∧ Fm C cenv gsc ((x, o) :: caps) H' s₄.heap ∧ St i s₄.heap ∧ (∀ b ∈ wr, ¬ dom H' b) ∧
                s₄.heap.PlainList D vs ∧ VRs C.h₀ s₄.heap ys vs.toList ∧ ¬ dom H' D ∧ compKK wr s₂.heap H₂ s₄.heap H') := by
            intro b s₄ H₄ I₄ k₄ hq
            have F₄ := F₃.keep I₃ k₄
            have wr₄ : ∀ b ∈ wr, ¬ dom H₄ b ∧ ∀ o, s₃.heap.get? b = some o → s₄.heap.get? b = some o := fun b hb => by
              obtain ⟨o, e1, _⟩ := W.obj (i + 1) _ (.inl st₃) b hb
              exact ⟨(k₄ b o e1 (hd' b hb)).2, fun o' e' => (k₄ b o' e' (hd' b hb)).1⟩
            have st₄ : St (i + 1) s₄.heap := W.frame _ _ _ st₃ (I₃.tupKeep k₄) fun b hb o e1 => (wr₄ b hb).2 o e1
            have D₄ := k₄ D _ pl₃ hdD
            have vr₄ := vr₃.keep (I₃.tupKeep k₄)
            have kk₄ : compKK wr s₂.heap H₂ s₄.heap H₄ := fun b o e1 n1 n2 => let h := kk₃ b o e1 n1 n2; k₄ b o h.1 h.2
            cases b with
            | false => exact ⟨xs.length + 1 - (i + 1), by omega, i + 1, H₄, ys, vs, _, hlt, rfl, hq, I₄, F₄, st₄, fun b hb => (wr₄ b hb).1, ⟨m₃, D₄.1⟩, vr₄, D₄.2, kk₄⟩
            | true =>
              refine wpAny_mono (hq s₄ I₄ F₄) (fun y s₅ h₅ => ?_) noE
              first | (refine EP.elim h₅ fun my H₅ r₅ I₅ k₅ j₅ => ?_; clear h₅) | (refine LP.elim h₅ fun my H₅ r₅ I₅ k₅ j₅ => ?_; clear h₅) | obtain ⟨my, H₅, r₅, I₅, k₅, j₅⟩ := h₅
              have F₅ := F₄.keep I₄ k₅
              have wr₅ : ∀ b ∈ wr, ¬ dom H₅ b ∧ ∀ o, s₄.heap.get? b = some o → s₅.heap.get? b = some o := fun b hb => by
                obtain ⟨o, e1, _⟩ := W.obj (i + 1) _ (.inl st₄) b hb
                exact ⟨(k₅ b o e1 (wr₄ b hb).1).2, fun o' e' => (k₅ b o' e' (wr₄ b hb).1).1⟩
              have st₅ : St (i + 1) s₅.heap := W.frame _ _ _ st₄ (I₄.tupKeep k₅) fun b hb o e1 => (wr₅ b hb).2 o e1
              have D₅ := k₅ D _ D₄.1 D₄.2
              have vr₅ := vr₄.keep (I₄.tupKeep k₅)
              have kk₅ : compKK wr s₂.heap H₂ s₅.heap H₅ := fun b o e1 n1 n2 => let h := kk₄ b o e1 n1 n2; k₅ b o h.1 h.2
              refine wpAny_list_append_plain (items := vs) ⟨m₃, D₅.1⟩ (fun h₆ hl₆ hs₆ => ?_) ?_
              · have ex : Ext [D] s₅.heap h₆ := Ext.of_extBut hs₆.extBut
                have hDw : ∀ b ∈ [D], ¬ dom H₅ b ∧ C.h₀.get? b = none ∧ ¬ Own cenv b ∧ ∀ o, s₅.heap.get? b = some o → ¬ Imm o := fun b hb => by
                  obtain rfl := List.mem_singleton.mp hb
                  exact ⟨D₅.2, n0 _ hDle, hDc, fun o e1 => by rw [D₅.1] at e1; cases e1; simp [Imm]⟩
                obtain ⟨I₆, F₆⟩ := touch I₅ F₅ ex hDw s₅.toks
                have tk₆ : TupKeep s₅.heap h₆ := fun a o e1 hm => ex a o (fun hb => (hDw a hb).2.2.2 o e1 hm) e1
                refine ⟨xs.length + 1 - (i + 1), by omega, i + 1, H₅, ys ++ [my], vs.push y, _, hlt, rfl, j₅, I₆, F₆, W.frame _ _ _ st₅ tk₆ fun b hb o e1 => ex b o (fun q => nwr D hDle (List.mem_singleton.mp q ▸ hb)) e1, fun b hb => (wr₅ b hb).1, hl₆, ?_, D₅.2, fun b o e1 n1 n2 => ?_⟩
                · rw [Array.toList_push]; exact (vr₅.append (.one r₅)).keep tk₆
                · have h := kk₅ b o e1 n1 n2
                  exact ⟨ex b o (fun q => by rw [List.mem_singleton.mp q, fresh D hDle] at e1; cases e1) h.1, h.2⟩
              · have h1 := vr₅.length
                have h2 := (jok _ _ _ hj).2
                have h3 : vs.toList.length = vs.size := by simp
                omega
          have ht := turn i v ys H' cenv hx hj
          have done : ∀ (b : Bool) (s₄ : Shared), (∃ H₄, Inv C H₄ s₄ ∧ Kp s₃.heap H' s₄.heap H₄ ∧ (if b = true then WE C A cenv gsc ((x, some v) :: caps) H₄ elt fun y H₃ => J (i + 1) (ys ++ [y]) H₃ else J (i + 1) ys H₄)) → _ := fun b s₄ ⟨H₄, I₄, k₄, q₄⟩ => rest b s₄ H₄ I₄ k₄ q₄
          match ifs, ht with
          | [], ht =>
            refine wpAny_tests_nil ?_
            have := done true s₃ ⟨H', I₃, Kp.refl _ _, ht⟩
            simp only [if_true] at this ⊢
            exact wpAny_mono this (fun _ _ h => wpAny_mono h (fun _ _ h => h) noE) noE
          | [c], ht =>
            refine wpAny_tests_one (wpAny_mono (ht s₃ I₃ F₃) (fun b s₄ hb => ?_) noE)
            have := done b s₄ hb
            cases b with
            | false => exact this
            | true =>
              simp only [if_true] at this ⊢
              exact wpAny_mono this (fun _ _ h => wpAny_mono h (fun _ _ h => h) noE) noE
          | _ :: _ :: _, ht => exact ht.elim
  have he : ({ newEnv scope L env.globals (clOf env.cells scope.names []) env.qual none .none (some env) 0 with scope := relabel scope env } : Env) = cenv := by rw [← hcenv]; rfl
  have lp := loop _ rfl
  rw [← he] at lp
  exact codeAny_compStart_list lp (W.self 0 _ _ hst₁ lp |> fun h => wpAny_mono h (fun _ _ h => h) noE)
end
end Mine
namespace Mine
open PySem PySem.Calls PyProof.Rows

section
variable {C : Cx} {A : Around} {env : Env} {gs gsc : List Str} {S : Sg} {H : Hp} {n : Nat}

/-- what a comprehension must show -/
def CompJ (C : Cx) (A : Around) (gsc : List Str) (caps : Sg) (x : Str) (ifs : List Expr) (elt : Expr) (K : List MV → Hp → Prop) : List MV → (Hp → Prop) → Hp → Prop := fun xs Ok H₁ =>
  xs.length ≤ sizeLine ∧ ∃ J : Nat → List MV → Hp → Prop, J 0 [] H₁ ∧ (∀ i ys H, J i ys H → Ok H ∧ ys.length ≤ i) ∧
    (∀ i v ys H cenv, xs[i]? = some v → J i ys H → CT C A cenv gsc ((x, some v) :: caps) H ifs fun b H₂ => if b = true then WE C A cenv gsc ((x, some v) :: caps) H₂ elt fun y H₃ => J (i + 1) (ys ++ [y]) H₃ else J (i + 1) ys H₂) ∧
    (∀ ys H', J xs.length ys H' → K ys H')

theorem WI.mono {iter target : Expr} {K K' : List MV → (Hp → Prop) → Hp → Prop} (h : WI C A env gs S H iter target K) (m : ∀ xs Ok H, K xs Ok H → K' xs Ok H) : WI C A env gs S H iter target K' := fun s I F =>
  wpAny_mono (h s I F) (fun _ _ h => wpAny_mono h (fun _ _ ⟨it, wr, xs, Ok, St, Mid, H₂, a, b, c, d, e, f, g⟩ => ⟨it, wr, xs, Ok, St, Mid, H₂, a, b, c, d, e, f, m _ _ _ g⟩) noE) noE

theorem WE.comp {elt iter : Expr} {x : Str} {px pos : Pos} {ifs : List Expr} {scope : Scope} {Q : MV → Hp → Prop} {caps : Sg} {ns cs ys : List Str} (gsc : List Str) (K : EnvK env ns cs) (cp : Caps S cs caps) (hc : compOk scope x ys gsc = true)
    (h : WI C A env gs S H iter (.Name x px) (CompJ C A gsc caps x ifs elt fun ys H' => ∀ D, ¬ dom H' D → Q (.ref D) ((D, .list ys) :: H')))
    (hy : names caps = ys := by with_unfolding_all rfl) (hn : names S = ns := by with_unfolding_all rfl) (hs : ∀ x, foldedSetIterable iter env x = pure x := by intro _; with_unfolding_all rfl) : WE C A env gs S H (.ListComp elt [⟨.Name x px, iter, ifs, 0⟩] scope pos) Q := by
  intro s I F
  rw [eval_ListComp]
  subst hy hn
  refine comp_main caps I F K.nofree hc cp.at (cp.names K) (h.mono fun xs Ok H₁ hj => ?_) hs
  obtain ⟨hl, J, j0, jok, turn, fin⟩ := hj
  refine ⟨hl, J, j0, jok, turn, fun D L ys H' s' hJ hD hL I' F' k' ns' no' n0' ne' => ?_⟩
  obtain ⟨m, hn⟩ := ns'
  refine ⟨m, hn, fun h' hs' => ?_⟩
  have hw : ∀ b ∈ [L], ¬ dom ((D, MO.list ys) :: H') b ∧ C.h₀.get? b = Option.none ∧ ¬ Own env b ∧ ∀ o, s'.heap.get? b = some o → ¬ Imm o := fun b hb => by
    obtain rfl := List.mem_singleton.mp hb
    refine ⟨hL, n0', no', fun o e hm => ?_⟩
    obtain ⟨oL, es, ep, hL', hd, _⟩ := hn
    rw [hL'] at e; cases e
    rcases hm with ⟨_, _, _, hd'⟩ | ⟨_, _, hd'⟩ <;> (rw [hd] at hd'; cases hd')
  obtain ⟨I'', F''⟩ := touch I' F' (Ext.of_extBut hs'.extBut) hw s'.toks
  exact ⟨_, _, by unfold VR; rfl, I'', fun b o e nb => ⟨hs'.extBut b o (ne' b o e nb) (k' b o e nb).1, (k' b o e nb).2⟩, fin ys H' hJ D hD⟩

/-- y = [ .. ] on one line: the store is made ahead of letting the names go -/
theorem WS.assignComp {elt iter : Expr} {x y : Str} {px py pos p : Pos} {ifs : List Expr} {scope : Scope} {Q : Fl → Sg → Hp → Prop} {caps : Sg} {ns cs ys : List Str} (gsc : List Str) (K : EnvK env ns cs) (cp : Caps S cs caps) (hc : compOk scope x ys gsc = true)
    (h : WI C A env gs S H iter (.Name x px) (CompJ C A gsc caps x ifs elt fun ys H' => ∀ D, ¬ dom H' D → ∃ S', Put S y (.ref D) S' ∧ Q .next S' ((D, .list ys) :: H')))
    (hy : names caps = ys := by with_unfolding_all rfl) (hn : names S = ns := by with_unfolding_all rfl) (hs : ∀ x, foldedSetIterable iter env x = pure x := by intro _; with_unfolding_all rfl) : WS C A env gs S H (.Assign [.Name y py] (.ListComp elt [⟨.Name x px, iter, ifs, 0⟩] scope pos) p) Q := by
  subst hy hn
  intro s I F nf
  by_cases hsw : (env.blockKind == .function && env.kindOf y == some .local && py.line == (Expr.ListComp elt [⟨.Name x px, iter, ifs, 0⟩] scope pos).pos.line
      && !(scope.names.any fun (n, k) => n == y && (k == .local || k == .cell))) = true
  · rw [exec_Assign_Name_used _ _ _ _ (by
      show (pure _ : Sem Bool) = pure true
      rw [hsw])]
    refine wpAny_bind (wpAny_standAt (wpAny_bind ?_))
    show wpAny _ A (do let _ ← comprehension (.ListComp elt [⟨.Name x px, iter, ifs, 0⟩] scope pos) scope env _ (newList []) false (eval iter env) (some (PySem.assign (.Name y py) env))) _ _ s
    refine wpAny_bind (wpAny_mono (Q := fun _ s' => SP C env gs S H s Q .next s') (comp_main caps I F nf hc cp.at (cp.names K) (h.mono fun xs Ok H₁ hj => ?_) hs) (fun _ s' hq => wpAny_pure (wpAny_pure hq)) noE)
    obtain ⟨hl, J, j0, jok, turn, fin⟩ := hj
    refine ⟨hl, J, j0, jok, turn, fun D L ys H' s' hJ hD hL I' F' k' ns' no' n0' ne' => ?_⟩
    obtain ⟨S', pt, q⟩ := fin ys H' hJ D hD
    show wpAny _ A (PySem.assign (.Name y py) env (.ref D)) _ _ _
    refine wpAny_assign_Name (store I' F' (nf y pt.mem) pt (by unfold VR; rfl) fun s₂ I₂ F₂ k₂ t₂ _ => ?_)
    obtain ⟨m, oL, es, ep, hL', hd, r⟩ := ns'
    obtain ⟨nd2, o2, e2, r2⟩ := k₂ L oL hL' hL
    have : o2 = oL := r2 no'
    subst this
    refine ⟨m, ⟨_, es, ep, e2, hd, r⟩, fun h' hs' => ?_⟩
    have hw : ∀ b ∈ [L], ¬ dom ((D, MO.list ys) :: H') b ∧ C.h₀.get? b = none ∧ ¬ Own env b ∧ ∀ o, s₂.heap.get? b = some o → ¬ Imm o := fun b hb => by
      obtain rfl := List.mem_singleton.mp hb
      refine ⟨hL, n0', no', fun o e hm => ?_⟩
      rw [e2] at e; cases e
      rcases hm with ⟨_, _, _, hd'⟩ | ⟨_, _, hd'⟩ <;> (rw [hd] at hd'; cases hd')
    obtain ⟨I'', F''⟩ := touch I₂ F₂ (Ext.of_extBut hs'.extBut) hw s₂.toks
    refine ⟨.next, S', _, rfl, I'', F'', ?_, pt.names, q⟩
    intro b o e nb
    obtain ⟨n3, o3, e3, r3⟩ := (k'.toS.trans k₂) b o e nb
    exact ⟨n3, o3, hs'.extBut b o3 (ne' b o e nb) e3, r3⟩
  · have hsw' : swapsWith (.ListComp elt [⟨.Name x px, iter, ifs, 0⟩] scope pos) (some (.Name y py)) p.line env = pure false := by
      show (pure _ : Sem Bool) = pure false
      simp only [Bool.not_eq_true] at hsw
      rw [hsw]
    refine wpAny_Assign_Name (wpAny_mono (WE.comp (gs := gs) gsc K cp hc (Q := fun v H' => ∃ S', Put S y v S' ∧ Q .next S' H') (h.mono fun xs Ok H₁ hj => ?_) rfl rfl hs s I F) (fun v s₁ h₁ => ?_) noE) hsw'
    · obtain ⟨hl, J, j0, jok, turn, fin⟩ := hj
      exact ⟨hl, J, j0, jok, turn, fin⟩
    · obtain ⟨z, H₁, r, I₁, k₁, S', pt, q₁⟩ := h₁
      exact store I₁ (F.keep I k₁) (nf y pt.mem) pt r fun s' I' F' k' _ _ => ⟨.next, S', H₁, rfl, I', F', k₁.toS.trans k', pt.names, q₁⟩
end
end Mine
namespace Mine
open PySem PySem.W PySem.Calls PyProof.Rows

abbrev mkCx (prog : Program) (w : World) (s₁ : Shared) {p : Program} {loose : List Str} {mean : ExcName → Option Value} {mg mb : Str → Option Value} (T : Top p loose mean mg mb s₁.heap) : Cx :=
  ⟨prog, w, s₁.heap, s₁.gens, s₁.os, mg, mb, T.g, T.b, T.builtins, T.nolimit⟩
section
variable {prog : Program} {w : World} {s₁ : Shared} {p : Program} {loose : List Str} {mean : ExcName → Option Value} {mg mb : Str → Option Value} (T : Top p loose mean mg mb s₁.heap)
theorem start_inv : Inv (mkCx prog w s₁ T) [] s₁ := ⟨fun _ _ e => e, (fun _ h => nomatch h), (fun _ h => nomatch h), List.nodup_nil, rfl, rfl⟩
theorem fn_of {d : DefRec} (hd : d ∈ recsOf p) (hdbg : (d.name == ("__debug__" : Str)) = false) : Fn (mkCx prog w s₁ T) d.name d.name d.params d.body d.scope :=
  ⟨hdbg, let ⟨a, o, pm, code, doc, h1, h2, h3, h4⟩ := T.fn d hd; ⟨a, o, pm, code, doc, h1, h2, h3, h4⟩⟩
def offAll (p : Program) (loose : List Str) (x : Str) : Bool := !startupNames.contains x && !loose.contains x && !((recsOf p).map (·.name)).contains x && !((litsOf p).map (·.1)).contains x && !((clssOf p loose).map (·.name)).contains x && !(x == ("__name__" : Str)) && !(x == ("__debug__" : Str))
theorem gl_of {x : Str} {v : Value} (h : offAll p loose x = true) (hv : bootBuiltins x = some v) : Gl (mkCx prog w s₁ T) x v := by
  simp only [offAll, Bool.and_eq_true, Bool.not_eq_true', List.contains_eq_mem, decide_eq_false_iff_not, beq_eq_false_iff_ne] at h
  obtain ⟨⟨⟨⟨⟨⟨h1, h2⟩, h3⟩, h4⟩, h5⟩, h6⟩, h7⟩ := h
  exact ⟨by simpa using h7, .inr ⟨T.free x h1 h2 h3 h4 h5, hv, h6⟩⟩
include T in
theorem const_of {x : Str} {i : Int} (h : valOf p x = some (.int i)) : ∃ t, mg x = some (.int i t) := by
  obtain ⟨v, h1, h2⟩ := T.const x _ h
  have := h2 s₁.heap
  cases this with
  | int i t => exact ⟨t, h1⟩
end
theorem WE.gint {C : Cx} {A : Around} {env : Env} {gs : List Str} {S : Sg} {H : Hp} {Q : MV → Hp → Prop} {x : Str} {p : Pos} {i : Int} (hx : x ∈ gs) (hd : (x == ("__debug__" : Str)) = false) (hv : ∃ t, C.mg x = some (.int i t)) (q : Q (.int i) H) : WE C A env gs S H (.Name x p) Q := by
  obtain ⟨t, hv⟩ := hv
  intro s I F
  refine Name_function_global F.ok.kind (F.ok.gl x hx) (loadGlobal_global (env := env) (mg := C.mg) ?_ hv (EP.here I ?_ q)) hd
  · rw [F.ok.glob]; exact C.hg.keeps I.base
  · unfold VR; exact ⟨t, rfl⟩

theorem aok_caller : AOk callerA 200 := ⟨rfl, by decide, by decide⟩

theorem law_end {l : OpenLaw} {w : World} {s₁ : Shared} {p : Program} {loose : List Str} {mean : ExcName → Option Value} {mg mb : Str → Option Value} {T : Top p loose mean mg mb s₁.heap} {fa a : Addr} {vs : List Value} {ns : List Int} {cl : Str → Option Addr} {mean' : ExcName → Option Value} {args : List WData}
    (hl : s₁.heap.IsList a vs.toArray) (hi : IntsAre vs ns) (hg : s₁.gens = #[]) (hm : mg l.name = some (.ref fa)) (h : WF (mkCx l.prog w s₁ T) callerA [] l.name [.fl ns] fun v _ => v = .bool true) :
    wpAny (model l.row.prog w) callerA (call (.ref fa) [.ref a]) (fun v s' => GoodWG l.row.claim cl mean' args s₁ (.ok (.ret v)) s') (fun e s' => GoodWG l.row.claim cl mean' args s₁ (.error e) s') s₁ := by
  refine wpAny_mono (h fa hm s₁ [.ref a] (start_inv T) (.one (by unfold VR; exact ⟨a, vs, rfl, hl, hi⟩))) (fun v s' hv => ?_) noE
  obtain ⟨x, H', r, I, k, rfl⟩ := hv
  unfold VR at r; subst r
  refine GoodW.toG ⟨.inl ⟨.bool true, .bool true, [], rfl, fun cls => ?_, .bool true, ?_, unshared_nil⟩, I.base, I.os, I.gens.trans hg⟩
  · exact raisesW_false (r := l.row.toRowW) (fun ct h => nomatch h) cls
  · exact postW_of (r := l.row.toRowW) (X := (true == true)) rfl (show WTm.value [] (.eq .res (.lit (.bool true))) _ = _ from w_eq_bool (w_res rfl) w_lit) rfl
end Mine
namespace Mine
open PySem PySem.W PySem.Calls PyProof.Rows

section
variable {C : Cx} {A : Around} {env : Env} {gs : List Str} {S : Sg} {H : Hp} {n : Nat} {Q : MV → Hp → Prop}

/-! ints, by the signs that omega knows -/
theorem W2.modS {a b : Int} (hb : 0 < b) (q : Q (.int (a % b)) H) : W2 C A H (binaryOp .Mod) (.int a) (.int b) Q :=
  W2.mod (by omega) (by rw [Int.fmod_eq_emod_of_nonneg _ (by omega)]; exact q)
theorem W2.divS {a b : Int} (hb : 0 < b) (hp : b < 1073741824) (q : Q (.int (a / b)) H) : W2 C A H (binaryOp .FloorDiv) (.int a) (.int b) Q :=
  W2.div (by omega) (PyProof.noPylong_small (by omega)) (by rw [Int.fdiv_eq_ediv_of_nonneg _ (by omega)]; exact q)
def Bd (i : Int) : Prop := Builtin.Int.intBits i ≤ 2 ^ 22
theorem bd_le {i j : Int} (h : Bd i) (hj : j.natAbs ≤ i.natAbs) : Bd j := by
  unfold Bd Builtin.Int.intBits at *
  split
  · exact Nat.zero_le _
  · rename_i hj0
    have hj1 : j ≠ 0 := by simpa using hj0
    have hi1 : ¬ ((i == 0) = true) := by simp; omega
    rw [if_neg hi1] at h
    have : j.natAbs.log2 ≤ i.natAbs.log2 := by
      rw [Nat.le_log2 (by omega)]
      exact Nat.le_trans (Nat.log2_self_le (by omega)) hj
    omega
theorem natAbs_ediv_le {i b : Int} (hb : 0 < b) : (i / b).natAbs ≤ i.natAbs := by
  have h1 := Int.mul_ediv_add_emod i b
  have h2 := Int.emod_nonneg i (by omega : b ≠ 0)
  have h3 := Int.emod_lt_of_pos i hb
  rcases Int.lt_trichotomy (i / b) 0 with h | h | h
  · have : b * (i / b) ≤ 1 * (i / b) := by
      apply Int.mul_le_mul_of_nonpos_right (by omega) (by omega)
    by_cases hi : i < 0
    · have h4 : b * (i / b) ≥ i - (b - 1) := by omega
      -- q ≥ i: since b q > i - b, and q ≤ -1
      have h5 : i ≤ i / b := by
        rcases (by omega : i / b < i ∨ i ≤ i / b) with h6 | h6
        · exfalso
          have h7 : b * (i / b) ≤ b * (i - 1) := Int.mul_le_mul_of_nonneg_left (by omega) (by omega)
          have h8 : b * (i - 1) = b * i - b := by rw [Int.mul_sub, Int.mul_one]
          have h9 : b * i ≤ 1 * i := Int.mul_le_mul_of_nonpos_right (by omega) (by omega)
          omega
        · exact h6
      omega
    · exfalso
      have := Int.ediv_nonneg (by omega : 0 ≤ i) (by omega : 0 ≤ b)
      omega
  · rw [h]; simp
  · have h4 : 1 * (i / b) ≤ b * (i / b) := Int.mul_le_mul_of_nonneg_right (by omega) (by omega)
    omega
theorem Bd.div {i b : Int} (h : Bd i) (hb : 0 < b) : Bd (i / b) := bd_le h (natAbs_ediv_le hb)
theorem Bd.small {i : Int} (h1 : -(2 ^ 64) < i) (h2 : i < 2 ^ 64) : Bd i := Nat.le_trans (intBits_le_64 h1 h2) (by decide)
theorem W2.mulR {a b : Int} (h1 : -(2 ^ 64) < b) (h2 : b < 2 ^ 64) (q : Q (.int (a * b)) H) : W2 C A H (binaryOp .Mult) (.int a) (.int b) Q := W2.mul (.of_right (intBits_le_64 h1 h2)) q
theorem W2.mulB {a b : Int} (h1 : Bd a) (h2 : Builtin.Int.intBits b ≤ 1000) (q : Q (.int (a * b)) H) : W2 C A H (binaryOp .Mult) (.int a) (.int b) Q := W2.mul (by
  unfold IntMulOk
  have : Builtin.Int.intTooBig (Builtin.Int.intBits a + Builtin.Int.intBits b) = false := by
    unfold Builtin.Int.intTooBig bitsLine
    unfold Bd at h1
    simp
    omega
  rw [this]; simp) q
theorem W2.powL {a b r : Int} (hn : 0 ≤ b) (hsz : (Builtin.Int.intBits a : Int) * b ≤ 2 ^ 27) (hr : a ^ b.toNat = r) (q : Q (.int r) H) : W2 C A H (binaryOp .Pow) (.int a) (.int b) Q := W2.pow hn hsz (hr ▸ q)

/-! slices -/
def WO (C : Cx) (A : Around) (env : Env) (gs : List Str) (S : Sg) (H : Hp) (o : Option Expr) (K : Option Int → Hp → Prop) : Prop :=
  match o with
  | none => K none H
  | some e => WE C A env gs S H e fun v H' => ∃ i, v = .int i ∧ 0 ≤ i ∧ K (some i) H'
theorem WO.none {K : Option Int → Hp → Prop} (h : K Option.none H) : WO C A env gs S H Option.none K := h
theorem WO.some {e : Expr} {K : Option Int → Hp → Prop} (h : WE C A env gs S H e fun v H' => ∃ i, v = .int i ∧ 0 ≤ i ∧ K (Option.some i) H') : WO C A env gs S H (Option.some e) K := h
def sliceL {α : Type} (lo hi : Option Int) (xs : List α) : List α :=
  match lo, hi with
  | none, none => xs
  | some a, none => xs.drop a.toNat
  | none, some b => xs.take b.toNat
  | some a, some b => (xs.drop a.toNat).take (b.toNat - a.toNat)
theorem sliceL_map {α β : Type} (f : α → β) (lo hi : Option Int) (xs : List α) : sliceL lo hi (xs.map f) = (sliceL lo hi xs).map f := by
  cases lo <;> cases hi <;> simp [sliceL, List.map_take, List.map_drop]
theorem sliceL_length_le {α : Type} (lo hi : Option Int) (xs : List α) : (sliceL lo hi xs).length ≤ xs.length := by
  cases lo <;> cases hi <;> simp [sliceL] <;> omega
theorem slicePick_sliceL (vs : List Value) (lo hi : Option Int) (h1 : ∀ a, lo = some a → 0 ≤ a) (h2 : ∀ a, hi = some a → 0 ≤ a) : slicePick vs.toArray lo hi none = (sliceL lo hi vs).toArray := by
  rw [slicePick_plain]
  have cl : ∀ a : Int, 0 ≤ a → clipAt vs.length a = min a.toNat vs.length := fun a ha => by
    have := clipAt_nat vs.length a.toNat
    rwa [Int.toNat_of_nonneg ha] at this
  cases lo with
  | none =>
    cases hi with
    | none => simp [sliceL]
    | some b =>
      simp only [Option.elim, sliceL, List.size_toArray, List.drop_zero, Nat.sub_zero, cl b (h2 b rfl)]
      congr 1
      rcases Nat.le_total b.toNat vs.length with h | h
      · rw [Nat.min_eq_left h]
      · rw [Nat.min_eq_right h, List.take_of_length_le (Nat.le_refl _), List.take_of_length_le h]
  | some a =>
    cases hi with
    | none =>
      simp only [Option.elim, sliceL, List.size_toArray, cl a (h1 a rfl)]
      congr 1
      rcases Nat.le_total a.toNat vs.length with h | h
      · rw [Nat.min_eq_left h, List.take_of_length_le (by simp)]
      · rw [Nat.min_eq_right h, List.drop_of_length_le (Nat.le_refl _), List.drop_of_length_le h]; simp
    | some b =>
      simp only [Option.elim, sliceL, List.size_toArray, cl a (h1 a rfl), cl b (h2 b rfl)]
      congr 1
      rcases Nat.le_total a.toNat vs.length with h | h
      · rw [Nat.min_eq_left h]
        rcases Nat.le_total b.toNat vs.length with h' | h'
        · rw [Nat.min_eq_left h']
        · rw [Nat.min_eq_right h', List.take_of_length_le (by simp), List.take_of_length_le (by simp; omega)]
      · rw [Nat.min_eq_right h, List.drop_of_length_le (Nat.le_refl _), List.drop_of_length_le h]; simp
theorem VRs.slice {b h : Heap} {xs : List MV} {vs : List Value} (r : VRs b h xs vs) (lo hi : Option Int) : VRs b h (sliceL lo hi xs) (sliceL lo hi vs) := by
  cases lo <;> cases hi <;> simp only [sliceL]
  · exact r
  · exact r.take _
  · exact r.drop _
  · exact (r.drop _).take _
theorem intsVR {b h : Heap} {vs : List Value} {ns : List Int} (hi : IntsAre vs ns) : VRs b h (ns.map .int) vs := by
  induction hi with
  | nil => exact .nil
  | cons nn t _ ih => exact .cons (by unfold VR; exact ⟨t, rfl⟩) ih
theorem WE.slice {value : Expr} {lower upper : Option Expr} {p pos : Pos}
    (h : WE C A env gs S H value fun x H₁ => WO C A env gs S H₁ lower fun lo H₂ => WO C A env gs S H₂ upper fun hi H₃ => ∃ xs, ((∃ a, x = .ref a ∧ (a, MO.list xs) ∈ H₃) ∨ ∃ ns, x = .fl ns ∧ xs = ns.map .int) ∧ xs.length ≤ sizeLine ∧ ∀ D, ¬ dom H₃ D → Q (.ref D) ((D, .list (sliceL lo hi xs)) :: H₃))
    (ht : ∀ o r, letTemporaryGo value o r = pure () := by intro _ _; with_unfolding_all rfl) : WE C A env gs S H (.Subscript value (.Slice lower upper Option.none p) pos) Q := by
  intro s I F
  have part : ∀ {o : Option Expr} {s₁ : Shared} {H₁ : Hp} {K : Option Int → Hp → Prop}, Inv C H₁ s₁ → Fm C env gs S H₁ s₁.heap → WO C A env gs S H₁ o K →
      wpAny (Md C) A (evalPart o env) (fun v s₂ => ∃ i H₂, IsPart v i ∧ (∀ a, i = Option.some a → 0 ≤ a) ∧ Inv C H₂ s₂ ∧ Kp s₁.heap H₁ s₂.heap H₂ ∧ K i H₂) NoE s₁ := by
    intro o s₁ H₁ K I₁ F₁ hk
    cases o with
    | none => rw [evalPart_none]; exact wpAny_pure ⟨Option.none, H₁, .none, (fun a h => nomatch h), I₁, Kp.refl _ _, hk⟩
    | some e =>
      refine wpAny_mono (show wpAny (Md C) A (eval e env) _ NoE s₁ from hk s₁ I₁ F₁) (fun v s₂ h₂ => ?_) noE
      first | (refine EP.elim h₂ fun x H₂ r I₂ k₂ hq => ?_; clear h₂) | (refine LP.elim h₂ fun x H₂ r I₂ k₂ hq => ?_; clear h₂) | obtain ⟨x, H₂, r, I₂, k₂, hq⟩ := h₂
      obtain ⟨i, rfl, hi, q⟩ := hq
      unfold VR at r; obtain ⟨t, rfl⟩ := r
      exact ⟨Option.some i, H₂, .int i t, (fun a h => by cases h; exact hi), I₂, k₂, q⟩
  refine wpAny_Subscript_list_slice (wpAny_mono (h s I F) (fun o s₁ h₁ => ?_) noE) ht
  first | (refine EP.elim h₁ fun x H₁ r₁ I₁ k₁ h₁ => ?_) | (refine LP.elim h₁ fun x H₁ r₁ I₁ k₁ h₁ => ?_) | obtain ⟨x, H₁, r₁, I₁, k₁, h₁⟩ := h₁
  have F₁ := F.keep I k₁
  refine wpAny_mono (part I₁ F₁ h₁) (fun vl s₂ h₂ => ?_) noE
  first | (refine EP.elim h₂ fun lo H₂ pl hlo I₂ hq => ?_; clear h₂) | (refine LP.elim h₂ fun lo H₂ pl hlo I₂ hq => ?_; clear h₂) | obtain ⟨lo, H₂, pl, hlo, I₂, hq⟩ := h₂
  obtain ⟨k₂, h₂⟩ := hq
  have F₂ := F₁.keep I₁ k₂
  refine wpAny_mono (part I₂ F₂ h₂) (fun vu s₃ h₃ => ?_) noE
  first | (refine EP.elim h₃ fun hi H₃ pu hhi I₃ hq => ?_; clear h₃) | (refine LP.elim h₃ fun hi H₃ pu hhi I₃ hq => ?_; clear h₃) | obtain ⟨hi, H₃, pu, hhi, I₃, hq⟩ := h₃
  obtain ⟨k₃, xs, hx, hsz, q⟩ := hq
  have main : ∀ (a : Addr) (vs : List Value), s₃.heap.IsList a vs.toArray → VRs C.h₀ s₃.heap xs vs → o = .ref a → ∃ l items lo hi, o = .ref l ∧ s₃.heap.IsList l items ∧ items.size ≤ sizeLine ∧ IsPart vl lo ∧ IsPart vu hi ∧
      EP C H s Q (.ref (s₃.heap.objs.size + 1)) { s₃ with heap := (s₃.heap.push { cls := .type "slice", data := .fields #[vl, vu, .none] }).push { cls := .type "list", data := .seq (slicePick items lo hi Option.none) } } := by
    intro a vs hl hr ho
    refine ⟨a, vs.toArray, lo, hi, ho, hl, by rw [List.size_toArray, hr.length]; exact hsz, pl, pu, ?_⟩
    rw [slicePick_sliceL vs lo hi hlo hhi]
    have hk : ∀ b o, s₃.heap.get? b = Option.some o → ((s₃.heap.push { cls := .type "slice", data := .fields #[vl, vu, .none] }).push { cls := .type "list", data := .seq (sliceL lo hi vs).toArray }).get? b = Option.some o := fun b o e => Heap.get?_push_of_some _ (Heap.get?_push_of_some _ e)
    have hsz1 : (s₃.heap.push { cls := .type "slice", data := .fields #[vl, vu, .none] }).objs.size = s₃.heap.objs.size + 1 := Heap.size_push ..
    have hnew := Heap.get?_push_size (s₃.heap.push { cls := .type "slice", data := .fields #[vl, vu, .none] }) (o := { cls := .type "list", data := .seq (sliceL lo hi vs).toArray }) rfl
    rw [hsz1] at hnew
    have hna : s₃.heap.get? (s₃.heap.objs.size + 1) = Option.none := by
      cases e : s₃.heap.get? (s₃.heap.objs.size + 1) with
      | none => rfl
      | some o => exact absurd (Heap.lt_size e) (Nat.not_lt.mpr (Nat.le_succ _))
    obtain ⟨I', k, nd⟩ := I₃.add (mo := .list (sliceL lo hi xs)) hk hna ⟨sliceL lo hi vs, 0, hnew, (hr.slice lo hi).keep (.of_keeps hk)⟩ s₃.toks
    exact ⟨_, _, by unfold VR; rfl, I', ((k₁.trans k₂).trans k₃).trans k, q _ nd⟩
  have r₃ := (r₁.keep (I₁.tupKeep k₂)).keep (I₂.tupKeep k₃)
  rcases hx with ⟨a, rfl, hm⟩ | ⟨ns, rfl, rfl⟩
  · unfold VR at r₃
    obtain ⟨vs, m, ho, hr⟩ := I₃.objs _ hm
    exact main a vs ⟨_, ho, rfl, m, rfl⟩ hr r₃
  · unfold VR at r₃
    obtain ⟨a, vs, ho, ⟨ob, hb, hc, m, hd⟩, hi'⟩ := r₃
    exact main a vs ⟨ob, I₃.base _ _ hb, hc, m, hd⟩ (intsVR hi') ho

/-! lists joined, changed -/
theorem W2.addL {a b : Addr} {xs ys : List MV} (h1 : (a, MO.list xs) ∈ H) (h2 : (b, MO.list ys) ∈ H) (hsz : xs.length + ys.length ≤ sizeLine) (q : ∀ D, ¬ dom H D → Q (.ref D) ((D, .list (xs ++ ys)) :: H)) : W2 C A H (binaryOp .Add) (.ref a) (.ref b) Q := by
  intro s u v I r₁ r₂
  unfold VR at r₁ r₂; subst r₁; subst r₂
  obtain ⟨vs, m, ho, hr⟩ := I.objs _ h1
  obtain ⟨ws, m2, ho2, hr2⟩ := I.objs _ h2
  have e : vs.toArray ++ ws.toArray = (vs ++ ws).toArray := by simp
  refine concat_meets ⟨_, ho, rfl⟩ ⟨_, ho2, rfl⟩ noFill_list_add seq_list_add PySem.F.slot_list_add PySem.F.entry_list_add (PySem.F.args_list_add_2 _ _) (list_addW a b vs.toArray ws.toArray m m2 none none #[] #[] (by simp [hr.length, hr2.length]; exact hsz)) ⟨ho, ho2, ?_⟩
  rw [e]
  exact EP.newList I (hr.append hr2) q
/-! data of ints -/
theorem dps_ints (g : List Int) : Dps H (g.map .int) (g.map .int) := by
  induction g with
  | nil => exact .nil
  | cons a g ih => exact .cons (.int a) ih
theorem canLay_ints (g : List Int) : PyData.canLayAll0 (g.map .int) = true := by
  induction g with
  | nil => rfl
  | cons a g ih => simp [PyData.canLayAll0, PyData.canLay0, ih]
theorem any_ints (g : List Int) (k : Int) : ((g.map PyData.int).any fun y => PyData.eqv y (.int k)) = decide (k ∈ g) := by
  induction g with
  | nil => rfl
  | cons a g ih =>
    rw [List.map_cons, List.any_cons, ih]
    simp only [PyData.eqv, List.mem_cons]
    by_cases h : a = k
    · subst h; simp
    · have h' : ¬ k = a := fun e => h e.symm
      simp [h, h']
theorem shaped_int (k : Int) : SeqAt.shaped (.int k) = true := rfl
theorem W2.inI {k : Int} {g : List Int} (hA : AOk A n) (q : Q (.bool (decide (k ∈ g))) H) : W2 C A H (compareOp .In) (.int k) (.tup (g.map .int)) Q :=
  W2.inT hA (.int k) (dps_ints g) (shaped_int k) (canLay_ints g) (by rw [any_ints]; exact q)
theorem W2.notInI {k : Int} {g : List Int} (hA : AOk A n) (q : Q (.bool (!decide (k ∈ g))) H) : W2 C A H (compareOp .NotIn) (.int k) (.tup (g.map .int)) Q :=
  W2.notInT hA (.int k) (dps_ints g) (shaped_int k) (canLay_ints g) (by rw [any_ints]; exact q)
theorem W2.notInIL {k : Int} {a : Addr} {g : List Int} (hA : AOk A n) (hm : (a, MO.list (g.map .int)) ∈ H) (q : Q (.bool (!decide (k ∈ g))) H) : W2 C A H (compareOp .NotIn) (.int k) (.ref a) Q :=
  W2.notInL hA hm (.int k) (dps_ints g) (shaped_int k) (canLay_ints g) (by rw [any_ints]; exact q)
theorem W2.neSame {x y : MV} {d : PyData} (hA : AOk A n) (hx : Dp H x d) (hy : Dp H y d) (sx : SeqAt.shaped d = true) (q : Q (.bool false) H) : W2 C A H (compareOp .NotEq) x y Q :=
  W2.neD hA hx hy sx sx (by rw [SeqAt.eqv_refl d (SeqAt.canLay_of_shaped sx)]; exact q)
theorem eqvAll_ints : ∀ (g h : List Int), PyData.eqvAll (g.map .int) (h.map .int) = decide (g = h)
  | [], [] => rfl
  | [], _ :: _ => rfl
  | _ :: _, [] => rfl
  | a :: g, b :: h => by
    simp only [List.map_cons, PyData.eqvAll, PyData.eqv, eqvAll_ints g h, List.cons.injEq]
    by_cases h1 : a = b <;> simp [h1]
theorem depth_ints (g : List Int) : PyData.depthAll (g.map .int) = 0 := by
  induction g with
  | nil => rfl
  | cons a g ih => simp [PyData.depthAll, PyData.depth, ih]
theorem shaped_listI (g : List Int) : SeqAt.shaped (.list (g.map .int)) = true := by
  simp [SeqAt.shaped, PyData.canLay0, canLay_ints, PyData.depth, depth_ints]
/-! roads: triples of ints -/
abbrev Rd := Int × Int × Int
abbrev rdV (r : Rd) : MV := .tup [.int r.1, .int r.2.1, .int r.2.2]
end
/-! the ways of a test -/
section
variable {P Q : Prop}
theorem if_t {inst : Decidable (true = true)} (h : P) : @ite Prop (true = true) inst P Q := by rw [if_pos rfl]; exact h
theorem if_f {inst : Decidable (false = true)} (h : Q) : @ite Prop (false = true) inst P Q := by rw [if_neg Bool.false_ne_true]; exact h
theorem if_nt {inst : Decidable ((!true) = true)} (h : Q) : @ite Prop ((!true) = true) inst P Q := by rw [if_neg (show ¬ ((!true) = true) from Bool.false_ne_true)]; exact h
theorem if_nf {inst : Decidable ((!false) = true)} (h : P) : @ite Prop ((!false) = true) inst P Q := by rw [if_pos (show (!false) = true from rfl)]; exact h
theorem if_b {b : Bool} {inst : Decidable (b = true)} (h1 : b = true → P) (h2 : b = false → Q) : @ite Prop (b = true) inst P Q := by
  cases b with
  | true => rw [if_pos rfl]; exact h1 rfl
  | false => rw [if_neg Bool.false_ne_true]; exact h2 rfl
theorem if_d {p : Prop} [Decidable p] {inst : Decidable (decide p = true)} (h1 : p → P) (h2 : ¬ p → Q) : @ite Prop (decide p = true) inst P Q :=
  if_b (fun h => h1 (of_decide_eq_true h)) fun h => h2 (of_decide_eq_false h)
theorem if_nd {p : Prop} [Decidable p] {inst : Decidable ((!decide p) = true)} (h1 : ¬ p → P) (h2 : p → Q) : @ite Prop ((!decide p) = true) inst P Q :=
  if_b (fun h => h1 (by simpa using h)) fun h => h2 (by simpa using h)
theorem if_eq {a b : Int} {inst : Decidable ((a == b) = true)} (h1 : a = b → P) (h2 : ¬ a = b → Q) : @ite Prop ((a == b) = true) inst P Q :=
  if_b (fun h => h1 (by simpa using h)) fun h => h2 (by simpa using h)
theorem if_ne {a b : Int} {inst : Decidable ((a != b) = true)} (h1 : ¬ a = b → P) (h2 : a = b → Q) : @ite Prop ((a != b) = true) inst P Q :=
  if_b (fun h => h1 (by simpa using h)) fun h => h2 (by simpa using h)
end
section
variable {C : Cx} {A : Around} {env : Env} {gs : List Str} {S : Sg} {H : Hp} {n : Nat}
theorem ct_nil {K : Bool → Hp → Prop} (h : K true H) : CT C A env gs S H [] K := h
theorem ct_one {c : Expr} {K : Bool → Hp → Prop} (h : WT C A env gs S H c K) : CT C A env gs S H [c] K := h
theorem comp_intro {gsc : List Str} {caps : Sg} {x : Str} {ifs : List Expr} {elt : Expr} {K : List MV → Hp → Prop} {xs : List MV} {Ok : Hp → Prop} {H₁ : Hp} (J : Nat → List MV → Hp → Prop) (hl : xs.length ≤ sizeLine) (h0 : J 0 [] H₁)
    (hok : ∀ i ys H, J i ys H → Ok H ∧ ys.length ≤ i)
    (turn : ∀ i v ys H cenv, xs[i]? = some v → J i ys H → CT C A cenv gsc ((x, some v) :: caps) H ifs fun b H₂ => if b = true then WE C A cenv gsc ((x, some v) :: caps) H₂ elt fun y H₃ => J (i + 1) (ys ++ [y]) H₃ else J (i + 1) ys H₂)
    (fin : ∀ ys H', J xs.length ys H' → K ys H') : CompJ C A gsc caps x ifs elt K xs Ok H₁ := ⟨hl, J, h0, hok, turn, fin⟩
theorem for_intro {Q : Fl → Sg → Hp → Prop} {target : Expr} {body : List Stmt} {xs : List MV} {Ok : Hp → Prop} {H₁ : Hp} (I : Nat → Sg → Hp → Prop) (h0 : I 0 S H₁) (hok : ∀ i S H, I i S H → Ok H)
    (turn : ∀ i x S H, xs[i]? = some x → I i S H → WA C A env gs S H target x fun S₁ H₁ => WSs C A env gs S₁ H₁ body (LoopQ Q (I (i + 1)))) (fin : ∀ S H, I xs.length S H → Q .next S H) :
    ∃ I : Nat → Sg → Hp → Prop, I 0 S H₁ ∧ (∀ i S H, I i S H → Ok H) ∧
      (∀ i x S H, xs[i]? = some x → I i S H → WA C A env gs S H target x fun S₁ H₁ => WSs C A env gs S₁ H₁ body (LoopQ Q (I (i + 1)))) ∧ ∀ S H, I xs.length S H → Q .next S H := ⟨I, h0, hok, turn, fin⟩
theorem get_lt {α : Type} {l : List α} {i : Nat} {x : α} (h : l[i]? = some x) : i < l.length := by
  rcases Nat.lt_or_ge i l.length with h' | h'
  · exact h'
  · rw [List.getElem?_eq_none h'] at h; cases h
end
end Mine
namespace Mine
open PySem PySem.W PySem.Calls PyProof.Rows
section
variable {C : Cx} {A : Around} {env : Env} {gs : List Str} {S : Sg} {H : Hp} {n : Nat} {Q : MV → Hp → Prop}

/-! pairs of a set and a price -/
abbrev Pr := List Int × Int
abbrev prV (p : Pr) : MV := .tup [.tup (p.1.map .int), .int p.2]
end
end Mine
namespace Mine
open PySem PySem.W PySem.Calls PyProof.Rows

/-! dicts whose keys are ints -/
abbrev ik (kvs : List (Int × MV)) : List (MV × MV) := kvs.map fun p => (.int p.1, p.2)
def KV (b h : Heap) : List (Int × MV) → List (Int × Value) → Prop
  | [], l => l = []
  | p :: ps, l => ∃ v r, l = (p.1, v) :: r ∧ VR b h p.2 v ∧ KV b h ps r
def getK (kvs : List (Int × MV)) (k : Int) : Option MV := (kvs.find? fun p => p.1 = k).map (·.2)
def putK (kvs : List (Int × MV)) (k : Int) (x : MV) : List (Int × MV) := if kvs.any (fun p => p.1 = k) then kvs.map (fun p => if p.1 = k then (p.1, x) else p) else kvs ++ [(k, x)]
theorem putK_new {kvs : List (Int × MV)} {k : Int} (x : MV) (h : k ∉ kvs.map (·.1)) : putK kvs k x = kvs ++ [(k, x)] := by
  unfold putK
  rw [if_neg]
  intro h'
  obtain ⟨p, hp, he⟩ := List.any_eq_true.mp h'
  exact h (List.mem_map.mpr ⟨p, hp, of_decide_eq_true he⟩)
theorem KV.fst {b h : Heap} : ∀ {kvs : List (Int × MV)} {l : List (Int × Value)}, KV b h kvs l → l.map (·.1) = kvs.map (·.1)
  | [], _, r => by unfold KV at r; subst r; rfl
  | p :: ps, _, r => by
    unfold KV at r
    obtain ⟨v, t, rfl, _, h2⟩ := r
    simp only [List.map_cons, KV.fst h2]
theorem KV.keep {b h h' : Heap} (k : TupKeep h h') : ∀ {kvs : List (Int × MV)} {l : List (Int × Value)}, KV b h kvs l → KV b h' kvs l
  | [], _, r => r
  | p :: ps, _, r => by
    unfold KV at r ⊢
    obtain ⟨v, t, rfl, h1, h2⟩ := r
    exact ⟨v, t, rfl, h1.keep k, h2.keep k⟩
theorem KV.get {b h : Heap} {k : Int} : ∀ {kvs : List (Int × MV)} {l : List (Int × Value)}, KV b h kvs l → ∀ {x : MV}, getK kvs k = some x → ∃ v, valueAt l k = some v ∧ VR b h x v
  | [], _, r, x, hx => by simp [getK] at hx
  | p :: ps, _, r, x, hx => by
    unfold KV at r
    obtain ⟨v, t, rfl, h1, h2⟩ := r
    by_cases hp : p.1 = k
    · simp only [getK, List.find?_cons, hp, decide_true, Option.map_some, Option.some.injEq] at hx
      subst hx
      exact ⟨v, by simp [valueAt, hp], h1⟩
    · have hx' : getK ps k = some x := by simpa [getK, List.find?_cons, hp] using hx
      obtain ⟨u, hu, hv⟩ := KV.get h2 hx'
      exact ⟨u, by simpa [valueAt, List.find?_cons, hp] using hu, hv⟩
theorem valueAt_some {l : List (Int × Value)} {k : Int} : (valueAt l k).isSome = decide (k ∈ l.map (·.1)) := by
  induction l with
  | nil => rfl
  | cons p l ih =>
    by_cases hp : p.1 = k
    · simp [valueAt, hp]
    · have hp' : ¬ k = p.1 := fun e => hp e.symm
      have : valueAt (p :: l) k = valueAt l k := by simp [valueAt, List.find?_cons, hp]
      rw [this, ih]
      simp [hp']
theorem KV.append {b h : Heap} {k : Int} {x : MV} {v : Value} (rx : VR b h x v) : ∀ {kvs : List (Int × MV)} {l : List (Int × Value)}, KV b h kvs l → KV b h (kvs ++ [(k, x)]) (l ++ [(k, v)])
  | [], _, r => by
    unfold KV at r; subst r
    exact ⟨v, [], rfl, rx, rfl⟩
  | p :: ps, _, r => by
    unfold KV at r
    obtain ⟨u, t, rfl, h1, h2⟩ := r
    exact ⟨u, _, rfl, h1, KV.append rx h2⟩
theorem KV.mapPut {b h : Heap} {k : Int} {x : MV} {v : Value} (rx : VR b h x v) : ∀ {kvs : List (Int × MV)} {l : List (Int × Value)}, KV b h kvs l →
    KV b h (kvs.map (fun p => if p.1 = k then (p.1, x) else p)) (l.map fun kv => if kv.1 = k then (kv.1, v) else kv)
  | [], _, r => by unfold KV at r; subst r; rfl
  | p :: ps, _, r => by
    unfold KV at r
    obtain ⟨u, t, rfl, h1, h2⟩ := r
    have ih := KV.mapPut (k := k) rx h2
    by_cases hp : p.1 = k
    · simp only [List.map_cons, hp, if_true]
      exact ⟨v, _, rfl, rx, ih⟩
    · simp only [List.map_cons, hp, if_false]
      exact ⟨u, _, rfl, h1, ih⟩
theorem KV.put {b h : Heap} {k : Int} {x : MV} {v : Value} {kvs : List (Int × MV)} {l : List (Int × Value)} (r : KV b h kvs l) (rx : VR b h x v) : KV b h (putK kvs k x) (stored l k v) := by
  have e : (l.any fun kv => decide (kv.1 = k)) = kvs.any fun p => decide (p.1 = k) := by
    have h1 : (l.any fun kv => decide (kv.1 = k)) = (l.map (·.1)).any fun i => decide (i = k) := by rw [List.any_map]; rfl
    have h2 : (kvs.any fun kv => decide (kv.1 = k)) = (kvs.map (·.1)).any fun i => decide (i = k) := by rw [List.any_map]; rfl
    rw [h1, h2, r.fst]
  unfold putK stored
  rw [e]
  split
  · exact r.mapPut rx
  · exact r.append rx

section
variable {C : Cx} {A : Around} {env : Env} {gs : List Str} {S : Sg} {H : Hp} {n : Nat} {Q : MV → Hp → Prop}

theorem drs_kv {b h : Heap} {prog : Program} {w : World} : ∀ {kvs : List (Int × MV)} {ds : List DictEntry}, DRs b h (ik kvs) ds →
    ∃ l, KV b h kvs l ∧ Pairs (intKind prog w) ds l ∧ ∀ e ∈ ds, ∃ k, (intKind prog w).is k e.key = true ∧ e.hash = (intKind prog w).hash k
  | [], ds, r => by unfold ik DRs at r; simp at r; subst r; exact ⟨[], rfl, .nil, fun e he => nomatch he⟩
  | p :: ps, ds, r => by
    simp only [ik, List.map_cons, DRs] at r
    obtain ⟨d, t, rfl, h1, h2, h3, h4⟩ := r
    obtain ⟨l, hl, hp, hk⟩ := drs_kv (prog := prog) (w := w) h4
    unfold VR at h1
    obtain ⟨tk, h1⟩ := h1
    have his : (intKind prog w).is p.1 d.key = true := by rw [h1]; simp [intKind, Value.isInt]
    refine ⟨(p.1, d.val) :: l, ⟨d.val, l, rfl, h2, hl⟩, .cons his rfl hp, fun e he => ?_⟩
    rcases List.mem_cons.mp he with rfl | he
    · exact ⟨p.1, his, h3⟩
    · exact hk e he
theorem kv_drs {b h : Heap} {prog : Program} {w : World} : ∀ {kvs : List (Int × MV)} {l : List (Int × Value)} {ds : List DictEntry}, KV b h kvs l → Pairs (intKind prog w) ds l → (∀ e ∈ ds, ∃ k, (intKind prog w).is k e.key = true ∧ e.hash = (intKind prog w).hash k) → DRs b h (ik kvs) ds
  | [], l, ds, r, hp, hk => by
    unfold KV at r; subst r
    cases hp; rfl
  | p :: ps, l, ds, r, hp, hk => by
    unfold KV at r
    obtain ⟨v, t, rfl, h1, h2⟩ := r
    cases hp with
    | @cons e kv es kvs' hi hv hps =>
      simp only [ik, List.map_cons, DRs]
      obtain ⟨k', hk1, hk2⟩ := hk e List.mem_cons_self
      have : k' = p.1 := (intKind prog w).inj _ _ _ hk1 hi
      subst this
      refine ⟨e, es, rfl, ?_, by rw [hv]; exact h1, hk2, kv_drs h2 hps fun e' he' => hk e' (List.mem_cons_of_mem _ he')⟩
      unfold VR
      have hi' : Value.isInt p.1 e.key = true := hi
      cases hke : e.key with
      | int i t => rw [hke] at hi'; simp [Value.isInt] at hi'; exact ⟨t, by rw [hi']⟩
      | _ => rw [hke] at hi'; simp [Value.isInt] at hi'

theorem Inv.dictOf {s : Shared} {d : Addr} {kvs : List (Int × MV)} (I : Inv C H s) (hm : (d, MO.dict (ik kvs)) ∈ H) (nd : (kvs.map (·.1)).Nodup) :
    (d == sysModules) = false ∧ ∃ l, s.heap.DictOf (intKind C.prog C.w) d l ∧ KV C.h₀ s.heap kvs l := by
  obtain ⟨hs, ds, m, ho, hr⟩ := I.objs _ hm
  obtain ⟨l, hl, hp, hk⟩ := drs_kv (prog := C.prog) (w := C.w) hr
  exact ⟨hs, l, ⟨_, ds.toArray, m, ho, ⟨rfl, rfl, rfl⟩, rfl, fun e he => hk e (by simpa using he), by simpa using hp, by rw [hl.fst]; exact nd⟩, hl⟩
theorem OR.ofDict {b h : Heap} {d : Addr} {kvs : List (Int × MV)} {l : List (Int × Value)} {prog : Program} {w : World} (hs : (d == sysModules) = false) (hd : h.DictOf (intKind prog w) d l) (hl : KV b h kvs l) : OR b h d (.dict (ik kvs)) := by
  obtain ⟨⟨cls, di, da, sl⟩, es, ep, ho, ⟨h1, h2, h3⟩, hda, hk, hp, nd⟩ := hd
  simp only at h1 h2 h3 hda
  subst h1 h2 h3 hda
  exact ⟨hs, es.toList, ep, by rw [ho], kv_drs hl hp fun e he => hk e (by simpa using he)⟩

theorem Inv.notMods {s : Shared} (I : Inv C H s) : (s.heap.objs.size == sysModules) = false := by
  obtain ⟨mc, ⟨o, es, ep, ho, _⟩, _⟩ := C.hlim
  have h := Heap.lt_size (I.base _ _ ho)
  have h2 : (2 : Nat) < s.heap.objs.size := h
  have : s.heap.objs.size ≠ (1 : Nat) := by omega
  exact beq_false_of_ne this
theorem WE.dict0 {p : Pos} (q : ∀ D, ¬ dom H D → Q (.ref D) ((D, .dict []) :: H)) : WE C A env gs S H (.Dict [] [] p) Q := by
  intro s I F
  refine wpAny_Dict_empty ?_
  have hk : ∀ b o, s.heap.get? b = some o → (s.heap.push { cls := .type "dict", data := .dict #[] }).get? b = some o := fun b o e => Heap.get?_push_of_some _ e
  obtain ⟨I', k, nd⟩ := I.add (mo := .dict []) hk get_size ⟨I.notMods, [], 0, Heap.get?_push_size _ rfl, rfl⟩ s.toks
  exact ⟨_, _, by unfold VR; rfl, I', k, q _ nd⟩
theorem W2.inK {k : Int} {d : Addr} {kvs : List (Int × MV)} (hm : (d, MO.dict (ik kvs)) ∈ H) (nd : (kvs.map (·.1)).Nodup) (q : Q (.bool (decide (k ∈ kvs.map (·.1)))) H) : W2 C A H (compareOp .In) (.int k) (.ref d) Q := by
  intro s u v I r₁ r₂
  unfold VR at r₁ r₂
  obtain ⟨t, rfl⟩ := r₁
  subst r₂
  obtain ⟨hs, l, hd, hl⟩ := I.dictOf hm nd
  refine wpAny_in_of (knd := intKind C.prog C.w) (k := k) (by simp [intKind, Value.isInt]) hs hd.mapOf ?_
  rw [valueAt_some, hl.fst]
  exact EP.same I (by unfold VR; rfl) q
theorem W2.notInK {k : Int} {d : Addr} {kvs : List (Int × MV)} (hm : (d, MO.dict (ik kvs)) ∈ H) (nd : (kvs.map (·.1)).Nodup) (q : Q (.bool (!decide (k ∈ kvs.map (·.1)))) H) : W2 C A H (compareOp .NotIn) (.int k) (.ref d) Q := by
  intro s u v I r₁ r₂
  unfold VR at r₁ r₂
  obtain ⟨t, rfl⟩ := r₁
  subst r₂
  obtain ⟨hs, l, hd, hl⟩ := I.dictOf hm nd
  refine wpAny_notIn_of (knd := intKind C.prog C.w) (k := k) (by simp [intKind, Value.isInt]) hs hd.mapOf ?_
  rw [valueAt_some, hl.fst]
  exact EP.same I (by unfold VR; rfl) q
theorem W2.itemK {value slice : Expr} {k : Int} {d : Addr} {kvs : List (Int × MV)} {x : MV} (hm : (d, MO.dict (ik kvs)) ∈ H) (nd : (kvs.map (·.1)).Nodup) (hx : getK kvs k = some x) (q : Q x H)
    (hs : plainSlice slice := by intro _ _; with_unfolding_all rfl) : W2 C A H (subscriptTail value slice) (.ref d) (.int k) Q := by
  intro s u v I r₁ r₂
  unfold VR at r₁ r₂
  subst r₁
  obtain ⟨t, rfl⟩ := r₂
  obtain ⟨_, l, hd, hl⟩ := I.dictOf hm nd
  obtain ⟨y, hy, ry⟩ := hl.get hx
  exact tail_any hd.typeIs slot_dict_getitem.lookup (wpAny_getItem_of (knd := intKind C.prog C.w) (k := k) (by simp [intKind, Value.isInt]) hd.mapOf hy (EP.same I ry q)) (hs _ _)
theorem W3.setK {k : Int} {d : Addr} {kvs : List (Int × MV)} {x : MV} {H' : Hp} {K : Hp → Prop} (hm : (d, MO.dict (ik kvs)) ∈ H) (nd : (kvs.map (·.1)).Nodup) (hsz : kvs.length ≤ sizeLine) (u : Upd H d (.dict (ik (putK kvs k x))) H') (q : K H') :
    W3 C A H (.ref d) (.int k) x K := by
  intro s a b c I r₁ r₂ r₃
  unfold VR at r₁ r₂
  subst r₁
  obtain ⟨t, rfl⟩ := r₂
  obtain ⟨hs, l, hd, hl⟩ := I.dictOf hm nd
  refine wpAny_setItem_pairs (knd := intKind C.prog C.w) (k := k) (by simp [intKind, Value.isInt]) hd (fun h' hd' hsb => ?_) (by
    have := hl.fst
    have h2 := congrArg List.length this
    simp at h2; rw [h2]; exact hsz)
  have tk : TupKeep s.heap h' := fun b o e hi => hsb.extBut b o (fun q => I.noTup e hi (by rw [q]; exact List.mem_map_of_mem (f := (·.1)) hm)) e
  obtain ⟨I', k'⟩ := I.upd hm u hsb.extBut (OR.ofDict hs hd' ((hl.keep tk).put (r₃.keep tk))) (s.toks + 1)
  exact ⟨H', I', k', q⟩

theorem VRs.ofGet {b h : Heap} : ∀ {xs : List MV} {vs : List Value}, vs.length = xs.length → (∀ (j : Nat) (v : Value) (x : MV), vs[j]? = some v → xs[j]? = some x → VR b h x v) → VRs b h xs vs
  | [], [], _, _ => VRs.nil
  | x :: xs, v :: vs, hl, hh => .cons (hh 0 v x rfl rfl) (VRs.ofGet (by simpa using hl) fun j u y hu hy => hh (j + 1) u y (by simpa using hu) (by simpa using hy))
/-- list(d) -/
theorem WC.listK {d : Addr} {kvs : List (Int × MV)} (hA : AOk A n) (hm : (d, MO.dict (ik kvs)) ∈ H) (nd : (kvs.map (·.1)).Nodup) (hsz : kvs.length ≤ sizeLine) (q : ∀ b, ¬ dom H b → Q (.ref b) ((b, .list ((kvs.map (·.1)).map .int)) :: H)) : WC C A H (.type "list") [.ref d] Q := .of1 fun s v I r => by
  unfold VR at r; subst r
  obtain ⟨hs, l, hd, hl⟩ := I.dictOf hm nd
  obtain ⟨ep, hat⟩ := hd.dictAt
  have hlen : l.length = kvs.length := by have := congrArg List.length hl.fst; simpa using this
  refine kdl_call (kdl_dict (knd := intKind C.prog C.w) (kvs := l) (ep := ep) hs) hA.handled hat (by rw [hlen]; exact hsz) fun h' tk acc' c' hk hD hacc => ?_
  obtain ⟨I', k, nd'⟩ := I.add (mo := .list ((kvs.map (·.1)).map .int)) hk get_size ⟨acc'.toList, c', by simpa using hD, VRs.ofGet (by simp [hacc.1, hlen]) fun j u x hu hx => by
    obtain ⟨kk, y, hy, hi⟩ := hacc.2 j u (by rw [← Array.getElem?_toList]; exact hu)
    rw [← hl.fst] at hx
    rw [List.getElem?_map, List.getElem?_map, hy] at hx
    simp at hx
    subst hx
    unfold VR
    have hi' : Value.isInt kk u = true := hi
    cases u with
    | int i t => simp [Value.isInt] at hi'; exact ⟨t, by rw [hi']⟩
    | _ => simp [Value.isInt] at hi'⟩ tk
  exact ⟨_, _, by unfold VR; rfl, I', k, q _ nd'⟩

theorem intsAre_of {b h : Heap} : ∀ {g : List Int} {vs : List Value}, VRs b h (g.map .int) vs → IntsAre vs g
  | [], _, r => by have := r.inv0; subst this; exact .nil
  | i :: g, _, r => by
    obtain ⟨v, t, rfl, h1, h2⟩ := r.inv
    unfold VR at h1; obtain ⟨tk, rfl⟩ := h1
    exact .cons _ _ (intsAre_of h2)
/-- sorted(l) -/
theorem WC.sortedL {a : Addr} {g : List Int} (hm : (a, MO.list (g.map .int)) ∈ H) (h64 : g.length < 64) (q : ∀ (b : Addr) (g' : List Int), ¬ dom H b → g'.Perm g → g'.Pairwise (· ≤ ·) → Q (.ref b) ((b, .list (g'.map .int)) :: H)) : WC C A H (.builtin "sorted") [.ref a] Q := .of1 fun s v I r => by
  unfold VR at r; subst r
  obtain ⟨vs, m, ho, hr⟩ := I.objs _ hm
  have hi := intsAre_of hr
  have hl : vs.length = g.length := by rw [hr.length]; simp
  refine sorted_ints (l := a) (vs := vs) ⟨_, ho, rfl, m, rfl⟩ hi (by omega) fun out g' h1 h2 h3 => ?_
  obtain ⟨e, hat⟩ := sortedAll_at s.heap vs out
  have hk : ∀ b o, s.heap.get? b = some o → (sortedAll s.heap vs out).get? b = some o := fun b o e => sortedAll_old e
  have hna : s.heap.get? (s.heap.objs.size + 1) = Option.none := by
    cases e : s.heap.get? (s.heap.objs.size + 1) with
    | none => rfl
    | some o => exact absurd (Heap.lt_size e) (Nat.not_lt.mpr (Nat.le_succ _))
  obtain ⟨I', k, nd'⟩ := I.add (mo := .list (g'.map .int)) hk hna ⟨out.toList, e, by simpa [seqObj] using hat, intsVR h1⟩ s.toks
  exact ⟨_, _, by unfold VR; rfl, I', k, q _ _ nd' h2 h3⟩
end
end Mine
namespace Mine
open PySem PySem.W PySem.Calls PyProof.Rows

section
variable {C : Cx} {A : Around} {env : Env} {gs : List Str} {S : Sg} {H : Hp} {n : Nat} {Q : MV → Hp → Prop}

/-! an item of a list set -/
theorem setItem_at {prog : Program} {w : World} {E : Value → Shared → Prop} {s : Shared} {l : Addr} {vs : List Value} {m : Nat} {k : Int} {t : Tok} {v : Value} {Q : Unit → Shared → Prop} (ho : s.heap.get? l = some { cls := .type "list", data := .seq vs.toArray m })
    (h0 : 0 ≤ k) (hfit : k < 2 ^ 63) (hn : k < vs.length)
    (hQ : ∀ h' m', h'.get? l = some { cls := .type "list", data := .seq (vs.set k.toNat v).toArray m' } → Heap.SameBut l s.heap h' → Q () { s with heap := h' }) :
    wpAny (model prog w) A (setItem (.ref l) (.int k t) v) Q E s := by
  have hl : s.heap.IsList l vs.toArray := ⟨_, ho, rfl, m, rfl⟩
  have hd : ({ cls := .type "list", data := .seq vs.toArray m } : Obj).data = .seq vs.toArray m := rfl
  unfold setItem
  try with_reducible refine wpAny_holding ?_
  first | refine wpAny_bind (wpAny_pure ?_) | skip
  refine wpAny_bind (wpAny_sequenceKey hl.typeIs (by decide) ?_)
  refine wpAny_bind (wpAny_callSpecial?_slot (name := Str.ofString "__setitem__") hl.typeIs slot_list_setitem
    (wpAny_call_entry slot_list_setitem hl.typeIs entry_list_setitem ?_ (args_list_setitem _ _ _)))
  show wpAny _ _ (Builtin.List.listSubscript? (.int k t) >>= _) _ _ s
  refine wpAny_bind (wpAny_listSubscript_int (fitsIndex_of h0 hfit) ?_)
  clear hfit
  obtain ⟨j, rfl⟩ := Int.eq_ofNat_of_zero_le h0
  have hj : j < vs.toArray.size := by simp; omega
  have hx' : vs.toArray[j]? = some vs.toArray[j] := Array.getElem?_eq_getElem hj
  show wpAny _ _ ((seqItemAt l j >>= fun r => pure (r.map (j, ·))) >>= _) _ _ s
  refine wpAny_bind (wpAny_bind (wpAny_seqItemAt ho hd (wpAny_pure ?_)))
  rw [hx']
  show wpAny _ _ (setSeqItemAt l j v >>= _) _ _ s
  have hfin : (s.heap.update l (Obj.mapSeq (·.setIfInBounds j v))).get? l = some { cls := .type "list", data := .seq (vs.set j v).toArray m } := by
    rw [Heap.get?_update_self _ ho (by simp [Obj.mapSeq, Obj.isFreed])]
    simp [Obj.mapSeq]
  have hQ' := hQ _ m hfin (Heap.SameBut.update ..)
  refine wpAny_bind (wpAny_setSeqItemAt ho hd ?_)
  first
    | exact wpAny_bind (wpAny_pure (wpAny_pure ⟨.none, rfl, wpAny_pure hQ'⟩))
    | exact wpAny_pure ⟨.none, rfl, wpAny_pure hQ'⟩
theorem W3.setL {k : Int} {a : Addr} {xs : List MV} {x : MV} {H' : Hp} {K : Hp → Prop} (hm : (a, MO.list xs) ∈ H) (h0 : 0 ≤ k) (hk : k < xs.length) (hfit : k < 2 ^ 63) (u : Upd H a (.list (xs.set k.toNat x)) H') (q : K H') :
    W3 C A H (.ref a) (.int k) x K := by
  intro s a' b c I r₁ r₂ r₃
  unfold VR at r₁ r₂
  subst r₁
  obtain ⟨t, rfl⟩ := r₂
  obtain ⟨vs, m, ho, hr⟩ := I.objs _ hm
  refine setItem_at ho h0 hfit (by rw [hr.length]; exact hk) fun h' m' hn hsb => ?_
  have tk : TupKeep s.heap h' := fun b o e hi => hsb.extBut b o (fun q => I.noTup e hi (by rw [q]; exact List.mem_map_of_mem (f := (·.1)) hm)) e
  obtain ⟨I', k'⟩ := I.upd hm u hsb.extBut ⟨_, m', hn, (hr.set r₃).keep tk⟩ s.toks
  exact ⟨H', I', k', q⟩

/-! isinstance -/
inductive Isi (H : Hp) : MV → String → Bool → Prop
  | ii {i} : Isi H (.int i) "int" true
  | ib {i} : Isi H (.int i) "bool" false
  | bi {b} : Isi H (.bool b) "int" true
  | bb {b} : Isi H (.bool b) "bool" true
  | ni : Isi H .none "int" false
  | nb : Isi H .none "bool" false
  | si {x} : Isi H (.str x) "int" false
  | sb {x} : Isi H (.str x) "bool" false
  | ti {l} : Isi H (.tup l) "int" false
  | tb {l} : Isi H (.tup l) "bool" false
  | tt {l} : Isi H (.tup l) "tuple" true
  | li {a xs} : (a, MO.list xs) ∈ H → Isi H (.ref a) "int" false
  | lb {a xs} : (a, MO.list xs) ∈ H → Isi H (.ref a) "bool" false
  | ll {a xs} : (a, MO.list xs) ∈ H → Isi H (.ref a) "list" true
  | di {a es} : (a, MO.dict es) ∈ H → Isi H (.ref a) "int" false
  | db {a es} : (a, MO.dict es) ∈ H → Isi H (.ref a) "bool" false
theorem WC.isi {x : MV} {T : String} {b : Bool} (h : Isi H x T b) (q : Q (.bool b) H) : WC C A H (.builtin "isinstance") [x, .raw (.type T)] Q := by
  cases h with
  | ii => exact WC.isiII q
  | ib => exact WC.isiIB q
  | bi => exact WC.isiBI q
  | bb => exact WC.isiBB q
  | tt => exact WC.isiTT q
  | ll hm => exact WC.isiLL hm q
  | ni =>
      refine WC.of2 fun s u v I r₁ r₂ => ?_
      unfold VR at r₁ r₂; subst r₁; subst r₂
      exact IsiPair.NoneType_int (EP.same I (by unfold VR; rfl) q)
  | nb =>
      refine WC.of2 fun s u v I r₁ r₂ => ?_
      unfold VR at r₁ r₂; subst r₁; subst r₂
      exact IsiPair.NoneType_bool (EP.same I (by unfold VR; rfl) q)
  | si =>
      refine WC.of2 fun s u v I r₁ r₂ => ?_
      unfold VR at r₁ r₂; obtain ⟨t, rfl⟩ := r₁; subst r₂
      exact IsiPair.str_int (EP.same I (by unfold VR; rfl) q)
  | sb =>
      refine WC.of2 fun s u v I r₁ r₂ => ?_
      unfold VR at r₁ r₂; obtain ⟨t, rfl⟩ := r₁; subst r₂
      exact IsiPair.str_bool (EP.same I (by unfold VR; rfl) q)
  | ti =>
      refine WC.of2 fun s u v I r₁ r₂ => ?_
      unfold VR at r₁ r₂; obtain ⟨a, vs, rfl, ⟨o, ho, hc, n, hd⟩, hr⟩ := r₁; subst r₂
      exact IsiPair.tuple_int ho hc (EP.same I (by unfold VR; rfl) q)
  | tb =>
      refine WC.of2 fun s u v I r₁ r₂ => ?_
      unfold VR at r₁ r₂; obtain ⟨a, vs, rfl, ⟨o, ho, hc, n, hd⟩, hr⟩ := r₁; subst r₂
      exact IsiPair.tuple_bool ho hc (EP.same I (by unfold VR; rfl) q)
  | li hm =>
      refine WC.of2 fun s u v I r₁ r₂ => ?_
      unfold VR at r₁ r₂; subst r₁; subst r₂
      obtain ⟨vs, n, ho, hr⟩ := I.objs _ hm
      exact IsiPair.list_int ho rfl (EP.same I (by unfold VR; rfl) q)
  | lb hm =>
      refine WC.of2 fun s u v I r₁ r₂ => ?_
      unfold VR at r₁ r₂; subst r₁; subst r₂
      obtain ⟨vs, n, ho, hr⟩ := I.objs _ hm
      exact IsiPair.list_bool ho rfl (EP.same I (by unfold VR; rfl) q)
  | di hm =>
      refine WC.of2 fun s u v I r₁ r₂ => ?_
      unfold VR at r₁ r₂; subst r₁; subst r₂
      obtain ⟨_, vs, n, ho, hr⟩ := I.objs _ hm
      exact IsiPair.dict_int ho rfl (EP.same I (by unfold VR; rfl) q)
  | db hm =>
      refine WC.of2 fun s u v I r₁ r₂ => ?_
      unfold VR at r₁ r₂; subst r₁; subst r₂
      obtain ⟨_, vs, n, ho, hr⟩ := I.objs _ hm
      exact IsiPair.dict_bool ho rfl (EP.same I (by unfold VR; rfl) q)
/-- isinstance(e, T) -/
theorem WE.isi {e : Expr} {t : Str} {T : String} {p p2 pos : Pos} (hx : Str.ofString "isinstance" ∈ gs) (g : Gl C "isinstance" (.builtin "isinstance")) (ht : t ∈ gs) (gt : Gl C t (.type T))
    (h : WE C A env gs S H e fun x H' => ∃ b, Isi H' x T b ∧ Q (.bool b) H') (he : starEach [e, .Name t p2] env = [(false, eval e env), (false, eval (.Name t p2) env)] := by with_unfolding_all rfl) :
    WE C A env gs S H (.Call (.Name "isinstance" p) [e, .Name t p2] [] pos) Q := by
  refine WE.callB hx g (WEs.cons (h.mono fun x H' h' => ?_) ?_) ?_ ?_
  · obtain ⟨b, hi, q⟩ := h'
    exact WEs.cons (WE.gl ht gt (WEs.nil (WC.isi hi q)))
  · rw [he]; rfl
  · rw [he]; rfl
  · rfl
inductive Len (H : Hp) : MV → Nat → Prop
  | list {a xs} : (a, MO.list xs) ∈ H → Len H (.ref a) xs.length
  | tup {l} : Len H (.tup l) l.length
  | fl {l} : Len H (.fl l) l.length
/-- len(e) -/
theorem WE.len {e : Expr} {p pos : Pos} (hx : Str.ofString "len" ∈ gs) (g : Gl C "len" (.builtin "len"))
    (h : WE C A env gs S H e fun x H' => ∃ k, Len H' x k ∧ k < 2 ^ 62 ∧ Q (.int k) H') (he : starEach [e] env = [(false, eval e env)] := by with_unfolding_all rfl) :
    WE C A env gs S H (.Call (.Name "len" p) [e] [] pos) Q := by
  refine WE.callB hx g (WEs.cons (h.mono fun x H' h' => WEs.nil ?_) ?_) ?_ ?_
  · obtain ⟨k, hi, hk, q⟩ := h'
    cases hi with
    | list hm => exact WC.lenL hm hk q
    | tup => exact WC.lenT hk q
    | fl => exact WC.lenF hk q
  · rw [he]; rfl
  · rw [he]; rfl
  · rfl

theorem Len.listM {α : Type} {a : Addr} {f : α → MV} {l : List α} (h : (a, MO.list (l.map f)) ∈ H) : Len H (.ref a) l.length := by
  have := Len.list h
  rwa [List.length_map] at this
theorem W2.itemM {α : Type} {value slice : Expr} {a : Addr} {f : α → MV} {l : List α} {k : Int} {x : α} (hm : (a, MO.list (l.map f)) ∈ H) (h0 : 0 ≤ k) (hx : l[k.toNat]? = some x) (hhi : k < 2 ^ 63) (q : Q (f x) H) (hs : plainSlice slice := by intro _ _; with_unfolding_all rfl) :
    W2 C A H (subscriptTail value slice) (.ref a) (.int k) Q := W2.itemL hm h0 (by rw [List.getElem?_map, hx]; rfl) hhi q hs

/-! is None -/
def isNone : MV → Bool
  | .none => true
  | _ => false
def noRaw : MV → Bool
  | .raw _ => false
  | _ => true
theorem plain_none {b h : Heap} {x : MV} {v : Value} (hx : noRaw x = true) (r : VR b h x v) : plainIs v .none = true ∧ (v == Value.none) = isNone x := by
  cases x with
  | none => unfold VR at r; subst r; exact ⟨rfl, rfl⟩
  | bool b => unfold VR at r; subst r; exact ⟨rfl, rfl⟩
  | int i => unfold VR at r; obtain ⟨t, rfl⟩ := r; exact ⟨rfl, rfl⟩
  | str i => unfold VR at r; obtain ⟨t, rfl⟩ := r; exact ⟨rfl, rfl⟩
  | tup l => unfold VR at r; obtain ⟨a, vs, rfl, _⟩ := r; exact ⟨rfl, rfl⟩
  | ref a => unfold VR at r; subst r; exact ⟨rfl, rfl⟩
  | fl l => unfold VR at r; obtain ⟨a, vs, rfl, _⟩ := r; exact ⟨rfl, rfl⟩
  | rng i j => unfold VR at r; obtain ⟨a, t, u, w, rfl, _⟩ := r; exact ⟨rfl, rfl⟩
  | raw v => cases hx
theorem W2.isNone {x : MV} (hx : noRaw x = true) (q : Q (.bool (isNone x)) H) : W2 C A H (compareOp .Is) x .none Q := by
  intro s u v I r₁ r₂
  obtain ⟨h1, h2⟩ := plain_none hx r₁
  unfold VR at r₂; subst r₂
  exact wpAny_is_plain h1 (by rw [h2]; exact EP.here I (by unfold VR; rfl) q)
theorem W2.isNotNone {x : MV} (hx : noRaw x = true) (q : Q (.bool (!Mine.isNone x)) H) : W2 C A H (compareOp .IsNot) x .none Q := by
  intro s u v I r₁ r₂
  obtain ⟨h1, h2⟩ := plain_none hx r₁
  unfold VR at r₂; subst r₂
  exact wpAny_isNot_plain h1 (by rw [h2]; exact EP.here I (by unfold VR; rfl) q)
end
end Mine
namespace Mine
open PySem PySem.W PySem.Calls PyProof.Rows

/-! equal things of any kind, where the parts are the same -/
section
variable {C : Cx} {env : Env} {gs : List Str} {S : Sg} {H : Hp} {Q : MV → Hp → Prop}
variable {A : Around} {n : Nat}
end
end Mine
namespace Mine
open PySem PySem.W PySem.Calls PyProof.Rows
section
variable {C : Cx} {A : Around} {env : Env} {gs : List Str} {S : Sg} {H : Hp} {n : Nat} {Q : MV → Hp → Prop}
theorem WC.sumL {a : Addr} {g : List Int} (hA : AOk A n) (hm : (a, MO.list (g.map .int)) ∈ H) (q : Q (.int g.sum) H) : WC C A H (.builtin "sum") [.ref a] Q := .of1 fun s v I r => by
  unfold VR at r; subst r
  obtain ⟨vs, m, ho, hr⟩ := I.objs _ hm
  have hi := intsAre_of hr
  have hl : s.heap.IsList a vs.toArray := ⟨_, ho, rfl, m, rfl⟩
  obtain ⟨xs, hx⟩ := hi.allInts.items
  have hl' : s.heap.IsList a (intItems xs) := hx ▸ hl
  refine sum_intListG hA.handled hl' fun h' tk t' hk => ?_
  have e1 : g = xs.toList.map (·.1) := by
    rw [← nums_intItems, ← hx]
    exact (show numsOf vs.toArray.toList = g from hi.numsOf).symm
  have e2 : preSum (numAt xs) xs.size = g.sum := by
    rw [preSum_eq, List.take_of_length_le (by simp), e1]
  rw [e2]
  exact EP.grown (t := tk) I hk (by unfold VR; exact ⟨_, rfl⟩) q
end
end Mine
set_option maxRecDepth 100000
namespace Mine
open PySem PySem.W PySem.Calls PyProof.Rows
section
variable {C : Cx} {A : Around} {env : Env} {gs : List Str} {S : Sg} {H : Hp} {n : Nat} {Q : MV → Hp → Prop}

/-! the larger and the smaller of two ints -/
/-! list.pop -/
theorem VRs.eraseIdx {b h : Heap} : ∀ {xs : List MV} {vs : List Value}, VRs b h xs vs → ∀ i, VRs b h (xs.eraseIdx i) (vs.eraseIdx i)
  | [], _, r, i => by unfold VRs at r; subst r; exact VRs.nil
  | y :: xs, _, r, i => by
    obtain ⟨u, t, rfl, h1, h2⟩ := r.inv
    cases i with
    | zero => exact h2
    | succ i => exact .cons h1 (VRs.eraseIdx h2 i)
theorem pop_core {s : Shared} {a : Addr} {xs : List MV} {x : MV} {H' : Hp} {j : Nat} (I : Inv C H s) (hm : (a, MO.list xs) ∈ H) (hj : xs[j]? = some x) (u : Upd H a (.list (xs.eraseIdx j)) H') (q : Q x H') {vs : List Value} {m : Nat} (ho : s.heap.get? a = some { cls := .type "list", data := .seq vs.toArray m }) (hr : VRs C.h₀ s.heap xs vs) {y : Value} (hy : vs[j]? = some y) :
    EP C H s Q y { s with heap := s.heap.update a (Obj.mapSeq fun xs => xs.eraseIdxIfInBounds j) } := by
  have hs : Heap.SameBut a s.heap (s.heap.update a (Obj.mapSeq fun x => x.eraseIdxIfInBounds j)) := Heap.SameBut.update ..
  have tk : TupKeep s.heap (s.heap.update a (Obj.mapSeq fun x => x.eraseIdxIfInBounds j)) := fun b o e hi => hs.extBut b o (fun q => I.noTup e hi (by rw [q]; exact List.mem_map_of_mem (f := (·.1)) hm)) e
  have hjl : j < vs.length := get_lt hy
  obtain ⟨m', hnew⟩ : ∃ m', (s.heap.update a (Obj.mapSeq fun x => x.eraseIdxIfInBounds j)).get? a = some { cls := .type "list", data := .seq (vs.eraseIdx j).toArray m' } := by
    have := Heap.get?_update_self (Obj.mapSeq fun x => x.eraseIdxIfInBounds j) ho (by simp [Obj.mapSeq, Obj.isFreed])
    rw [this]
    exact ⟨_, by simp [Obj.mapSeq]; rfl⟩
  obtain ⟨I', k⟩ := I.upd hm u hs.extBut ⟨vs.eraseIdx j, m', hnew, (hr.eraseIdx j).keep tk⟩ s.toks
  obtain ⟨v, hv, rv⟩ := hr.get hj
  rw [hy] at hv; cases hv
  exact ⟨x, H', rv.keep tk, I', k, q⟩
theorem WC.popLast {a : Addr} {xs : List MV} {x : MV} {H' : Hp} (hm : (a, MO.list xs) ∈ H) (hx : xs[xs.length - 1]? = some x) (hsz : xs.length ≤ sizeLine) (u : Upd H a (.list (xs.eraseIdx (xs.length - 1))) H') (q : Q x H') : WC C A H (.builtin "list.pop") [.ref a] Q := .of1 fun s v I r₁ => by
  unfold VR at r₁; subst r₁
  obtain ⟨vs, m, ho, hr⟩ := I.objs _ hm
  obtain ⟨y, hy, _⟩ := hr.get hx
  have e : vs.toArray.size - 1 = xs.length - 1 := by rw [List.size_toArray, hr.length]
  refine call_meets PySem.F.slot_list_pop ⟨_, ho, rfl⟩ PySem.F.entry_list_pop (PySem.F.args_list_pop_1 _) (PySem.MeetsSeq.list_pop_last a vs.toArray m y (by rw [e]; simpa using hy) (by rw [List.size_toArray, hr.length]; exact hsz)) ⟨ho, ?_⟩
  rw [e]
  exact pop_core I hm hx u q ho hr hy
theorem WE.popLast {o : Expr} {apos pos : Pos} (h : WE C A env gs S H o fun x H₁ => ∃ a xs y H₂, x = .ref a ∧ (a, MO.list xs) ∈ H₁ ∧ xs[xs.length - 1]? = some y ∧ xs.length ≤ sizeLine ∧ Upd H₁ a (.list (xs.eraseIdx (xs.length - 1))) H₂ ∧ Q y H₂)
    (hbase : attributeBase o ("pop" : Str) env (eval o env) = eval o env := by with_unfolding_all rfl)
    (hline : (apos.endLine == pos.line) = true := by with_unfolding_all rfl) :
    WE C A env gs S H (.Call (.Attribute o "pop" apos) [] [] pos) Q := by
  refine WE.meth0 (id := "list.pop") PySem.F.slot_list_pop PySem.F.type_list_pop (h.mono fun x H₁ h₁ => ?_) hbase hline
  obtain ⟨a, xs, y, H₂, rfl, hm, h1, h2, h3, h4⟩ := h₁
  exact ⟨a, xs, rfl, hm, WC.popLast hm h1 h2 h3 h4⟩

/-! sorted(t, reverse=True) of a tuple of ints -/
end
end Mine
set_option maxRecDepth 100000
namespace Mine
open PySem PySem.W PySem.Calls PyProof.Rows
section
variable {C : Cx} {A : Around} {env : Env} {gs : List Str} {S : Sg} {H : Hp} {n : Nat} {Q : MV → Hp → Prop}

/-! min of a list of ints -/
theorem WC.minL {a : Addr} {g : List Int} (hA : AOk A n) (hm : (a, MO.list (g.map .int)) ∈ H) (hne : 0 < g.length) (q : ∀ v, v ∈ g → (∀ x ∈ g, v ≤ x) → Q (.int v) H) : WC C A H (.builtin "min") [.ref a] Q := .of1 fun s v I r => by
  unfold VR at r; subst r
  obtain ⟨vs, m, ho, hr⟩ := I.objs _ hm
  have hi := intsAre_of hr
  have hl : s.heap.IsList a vs.toArray := ⟨_, ho, rfl, m, rfl⟩
  obtain ⟨xs, hx⟩ := hi.allInts.items
  have hl' : s.heap.IsList a (intItems xs) := hx ▸ hl
  have e1 : g = xs.toList.map (·.1) := by
    rw [← nums_intItems, ← hx]
    exact (show numsOf vs.toArray.toList = g from hi.numsOf).symm
  have hsz : xs.size = g.length := by rw [e1]; simp
  refine min_intList hA.handled hl' (by omega) fun v h' tk hv hk => ?_
  obtain ⟨h1, h2⟩ := argBest_lt (numAt xs) (xs.size - 1)
  generalize argBest (fun i j => decide (numAt xs i < numAt xs j)) (xs.size - 1) = j at hv h1 h2
  have hj : j < xs.size := by omega
  obtain ⟨t, rfl⟩ : ∃ t, v = .int (numAt xs j) t := by
    have := intItems_at hv
    exact this
  have at_ : ∀ i (hi : i < xs.size), numAt xs i = (xs.toList.map (·.1))[i]'(by simpa using hi) := fun i hi => by
    simp [numAt, hi]
  refine EP.grown (t := tk) I hk (by unfold VR; exact ⟨_, rfl⟩) (q _ ?_ ?_)
  · rw [e1, at_ j hj]; exact List.getElem_mem _
  · intro x hx'
    rw [e1] at hx'
    obtain ⟨i, hi, rfl⟩ := List.getElem_of_mem hx'
    have hi' : i < xs.size := by simpa using hi
    rw [← at_ i hi']
    exact h2 i (by omega)

/-! a list as a test -/
theorem WB.list {a : Addr} {xs : List MV} {Q : Bool → Hp → Prop} (hm : (a, MO.list xs) ∈ H) (hl : xs.length < 2 ^ 62) (q : Q (decide (0 < xs.length)) H) : WB C A H truthy (.ref a) Q := fun s v I r => by
  unfold VR at r; subst r
  obtain ⟨vs, m, ho, hr⟩ := I.objs _ hm
  have e : vs.toArray.size = xs.length := by rw [List.size_toArray, hr.length]
  refine wpAny_truthy_list (items := vs.toArray) ⟨_, ho, rfl, m, rfl⟩ (by rw [e]; omega) ?_
  have e2 : (!vs.toArray.isEmpty) = decide (0 < xs.length) := by
    rw [← e]
    cases vs <;> simp
  rw [e2]
  exact ⟨H, I.toks _, Kp.refl _ _, q⟩

/-! tuple(range(..)) -/
theorem collect_range {prog : Program} {w : World} {A : Around} {E : Value → Shared → Prop} {s : Shared} {Q : List Value → Shared → Prop} {r : Addr} {a b c : Int} {t u v : Tok} {n : Nat} (hh : A.handled = none) (hr : IsRange s.heap r a b c t u v) (hsmall : Builtin.Range.small a b c = true)
    (hn : Builtin.Range.rangeSize a b c = n) (hlen : n ≤ 2 ^ 24)
    (hQ : ∀ (h' : Heap) (tk : Nat) (acc : Array Value), (∀ b o', s.heap.get? b = some o' → h'.get? b = some o') → ItemsOf (fun i v => ∃ t, v = .int (a + i * c) t) acc n → Q acc.toList { s with heap := h', toks := tk }) :
    wpAny (model prog w) A (collect (.ref r)) Q E s := by
  unfold collect
  refine wpAny_bind (wpAny_runValue (codeAny_builtin F.entry_proto_collect ?_))
  rw [Around.under_plainId F.plain_proto_collect _]
  show wpAny _ A.in1 (newList [] >>= fun l => again (.builtin "list.__iadd__" ⟨[l, .ref r], []⟩)) _ _ s
  refine wpAny_bind (wpAny_newObj_type ?_)
  refine wpAny_pure ⟨plainId_quiet F.plain_list_iadd _, codeAny_builtin F.entry_list_iadd ?_⟩
  rw [Around.under_plainId F.plain_list_iadd _]
  show wpAny _ A.in1 (Builtin.List.listExtendWith (.ref s.heap.objs.size) (.ref r) (.ref s.heap.objs.size)) _ _ _
  have hS : (s.heap.push { cls := .type "list", data := .seq ([] : List Value).toArray }).get? s.heap.objs.size = some { cls := .type "list", data := .seq #[] 0 } := Heap.get?_push_size _ rfl
  have hr' : IsRange (s.heap.push { cls := .type "list", data := .seq ([] : List Value).toArray }) r a b c t u v := Heap.get?_push_of_some _ hr
  have fin' : ∀ h' tk acc' c', (∀ b o, b ≠ s.heap.objs.size → (s.heap.push { cls := .type "list", data := .seq ([] : List Value).toArray }).get? b = some o → h'.get? b = some o) →
      h'.get? s.heap.objs.size = some { cls := .type "list", dict := none, data := .seq acc' c', slots := #[] } → ItemsOf (fun i v => ∃ t, v = .int (a + i * c) t) acc' n →
      wpAny (model prog w) A (match Value.ref s.heap.objs.size with
      | Value.ref a => do
        match (← load a).data with
          | Data.seq xs _ => pure xs.toList
          | _ => unsupported "internal:collect"
      | _ => unsupported "internal:collect") Q E { s with heap := h', toks := tk } := by
    intro h' tk acc' c' hk hS' hacc
    show wpAny _ A (load s.heap.objs.size >>= _) _ _ _
    refine wpAny_bind (wpAny_load hS' ?_)
    refine wpAny_pure (hQ h' tk acc' (fun b o' hb => ?_) hacc)
    exact hk b o' (Nat.ne_of_lt (Heap.lt_size hb)) (Heap.get?_push_of_some _ hb)
  refine wpAny_mono (wpAny_extend_range (A := A) (s := { s with heap := s.heap.push { cls := .type "list", data := .seq ([] : List Value).toArray } }) (R := fun x s' => x = .ok (.ret (.ref s.heap.objs.size)) ∧ wpAny (model prog w) A (match Value.ref s.heap.objs.size with
      | Value.ref a => do
        match (← load a).data with
          | Data.seq xs _ => pure xs.toList
          | _ => unsupported "internal:collect"
      | _ => unsupported "internal:collect") Q E s') hh hr' hsmall hn hlen s.heap.objs.size (.ref s.heap.objs.size) 0 hS (fun h' tk acc' c' hk hS' hacc => ⟨rfl, fin' h' tk acc' c' hk hS' hacc⟩)) (fun fin s' h => ?_) (fun e s' h => ?_)
  · cases fin with
    | done f =>
      obtain ⟨e, h⟩ := h
      cases e
      exact h
    | again c' => exact ⟨h.1, codeAny_mono h.2 fun r s'' hr => by obtain ⟨rfl, h⟩ := hr; exact h⟩
  · exact absurd h.1 (by simp)

theorem meets_tuple_range (r : Addr) (a b c : Int) (t u v : Tok) (n : Nat) (hsmall : Builtin.Range.small a b c = true) (hn : Builtin.Range.rangeSize a b c = n) (hlen : n ≤ 2 ^ 24) :
    Meets (Builtin.«tuple.__new__» ⟨[.type "tuple", .ref r], []⟩)
      (fun A R s => A.handled = none ∧ IsRange s.heap r a b c t u v ∧ ∀ (h' : Heap) (tk : Nat) (acc : Array Value), (∀ b o', s.heap.get? b = some o' → h'.get? b = some o') → ItemsOf (fun i v => ∃ t, v = .int (a + i * c) t) acc n →
        R (.ok (.ret (.ref h'.objs.size))) { s with heap := h'.push { cls := .type "tuple", data := .seq acc }, toks := tk }) :=
  .of_wp fun prog w A R s h => by
    obtain ⟨hp, g, d, tk, os⟩ := s; obtain ⟨hh, ht, h⟩ := h
    have hsub := sub_tuple_self
    have hinit := init_tuple_lookup
    have hmh := madeHere_tuple
    have hT : Shared.TypeIs ⟨hp, g, d, tk, os⟩ (.ref r) "range" := ⟨_, ht, rfl⟩
    wp_walk using wpAny_typeOf hT, collect_range (A := A.in1) (n := n) hh ht hsmall hn hlen
    intro h' tk' acc hk hacc
    show wpAny _ _ (Builtin.Tuple.tupleExact acc.toList.toArray >>= fun v => ret v) _ _ _
    unfold Builtin.Tuple.tupleExact
    refine wpAny_bind (wpAny_newObj_type ?_ (by show acc.toList.toArray.size ≤ sizeLine; simp only [Array.toArray_toList]; rw [hacc.1, sizeLine_eq]; omega))
    refine wpAny_pure ⟨_, rfl, ?_⟩
    have e : acc.toList.toArray = acc := by simp
    rw [e]
    exact h h' tk' acc hk hacc
theorem WC.tupR {hi : Int} (hA : AOk A n) (h0 : 0 ≤ hi) (h1 : hi ≤ 1000) (q : Q (.tup (rangeL 0 hi)) H) : WC C A H (.type "tuple") [.rng 0 hi] Q := .of1 fun s v I r => by
  unfold VR at r
  obtain ⟨a, t, u, w, rfl, hl⟩ := r
  have hsz : Builtin.Range.rangeSize 0 hi 1 = ((hi.toNat : Nat) : Int) := by
    unfold Builtin.Range.rangeSize
    simp only [show (1 : Int) > 0 from by decide, if_true]
    split
    · rw [Int.ediv_one]; omega
    · omega
  refine callType_new PySem.F.called_tuple (by decide) (PySem.F.typeCall_tuple_1 _) (PySem.F.newCall_tuple_1 _) (fun obj => PySem.F.args_object_init_2 obj _) PySem.F.entry_tuple_new
    (meets_tuple_range a 0 hi 1 t u w hi.toNat (small_one (by decide) (by decide) (by omega) (by omega)) hsz (by omega)) ⟨hA.handled, hl, fun h' tk acc hk hacc => ⟨⟨_, Heap.get?_push_size _ rfl, rfl⟩, ?_⟩⟩
  refine EP.grown (t := tk) I (fun b o e => Heap.get?_push_of_some _ (hk b o e)) ?_ q
  unfold VR
  refine ⟨_, acc.toList, rfl, ⟨_, Heap.get?_push_size _ rfl, rfl, 0, by simp⟩, VRs.ofGet (by rw [rangeL_length]; simp [hacc.1]) fun j v x hv hx => ?_⟩
  obtain ⟨rfl, _⟩ := rangeL_get hx
  obtain ⟨tt, rfl⟩ := hacc.2 j v (by simpa using hv)
  unfold VR
  exact ⟨tt, by congr 1; omega⟩

/-! a dict whose keys are tuples of ints, whose values are True -/
abbrev tk (gs : List (List Int)) : List (MV × MV) := gs.map fun g => (.tup (g.map .int), .bool true)
abbrev tKind (C : Cx) := tupleKind (intKind C.prog C.w)
theorem items_vrs {b h : Heap} {prog : Program} {w : World} : ∀ {g : List Int} {vs : List Value}, ItemsAre (intKind prog w) g vs ↔ VRs b h (g.map .int) vs
  | [], vs => ⟨fun x => by cases x; exact VRs.nil, fun x => by have := x.inv0; subst this; exact .nil⟩
  | i :: g, vs => by
    constructor
    · intro x
      cases x with
      | @cons _ v _ vs hi hs =>
        obtain ⟨t, rfl⟩ := Value.isInt_shape hi
        exact .cons (by unfold VR; exact ⟨t, rfl⟩) (items_vrs.mp hs)
    · intro x
      obtain ⟨v, t, rfl, h1, h2⟩ := x.inv
      unfold VR at h1; obtain ⟨tt, rfl⟩ := h1
      exact .cons (by simp [intKind, Value.isInt]) (items_vrs.mpr h2)
theorem tup_key {b h : Heap} {prog : Program} {w : World} {g : List Int} {a : Addr} : IsTupleKey (intKind prog w) h g a ↔ VR b h (.tup (g.map .int)) (.ref a) := by
  constructor
  · rintro ⟨o, items, n, ho, hc, hd, hi⟩
    unfold VR
    exact ⟨a, items.toList, rfl, ⟨o, ho, hc, n, by simpa using hd⟩, items_vrs.mp hi⟩
  · intro r
    unfold VR at r
    obtain ⟨a', vs, e, ⟨o, ho, hc, n, hd⟩, hr⟩ := r
    cases e
    exact ⟨o, vs.toArray, n, ho, hc, hd, items_vrs.mpr hr⟩
theorem drs_tk {b h : Heap} {prog : Program} {w : World} : ∀ {gs : List (List Int)} {ds : List DictEntry}, DRs b h (tk gs) ds →
    ∃ xs : List (List Int × Addr × Value), ds = xs.map (entryOfKey (tupleKind (intKind prog w))) ∧ xs.map (·.1) = gs ∧ ∀ x ∈ xs, IsTupleKey (intKind prog w) h x.1 x.2.1 ∧ x.2.2 = .bool true
  | [], ds, r => by simp only [tk, List.map_nil, DRs] at r; subst r; exact ⟨[], rfl, rfl, fun x hx => nomatch hx⟩
  | g :: gs, ds, r => by
    simp only [tk, List.map_cons, DRs] at r
    obtain ⟨d, t, rfl, h1, h2, h3, h4⟩ := r
    obtain ⟨xs, hx1, hx2, hx3⟩ := drs_tk (prog := prog) (w := w) h4
    have h1' := h1
    unfold VR at h1
    obtain ⟨a, vs, e, ht, hr⟩ := h1
    unfold VR at h2
    refine ⟨(g, a, d.val) :: xs, ?_, by simp [hx2], fun x hx => ?_⟩
    · rw [List.map_cons, ← hx1]
      congr 1
      have : d.hash = tupleKeyHash (intKind prog w) g := h3 prog w g rfl
      obtain ⟨dh, dk, dv⟩ := d
      simp only at this e
      subst this e
      rfl
    · rcases List.mem_cons.mp hx with rfl | hx
      · rw [e] at h1'
        exact ⟨tup_key.mpr h1', h2⟩
      · exact hx3 x hx
theorem map_int_inj : ∀ {a b : List Int}, a.map MV.int = b.map MV.int → a = b
  | [], [], _ => rfl
  | x :: a, y :: b, h => by
    simp only [List.map_cons, List.cons.injEq, MV.int.injEq] at h
    rw [h.1, map_int_inj h.2]
theorem tk_drs {b h : Heap} {prog : Program} {w : World} : ∀ {xs : List (List Int × Addr × Value)}, (∀ x ∈ xs, IsTupleKey (intKind prog w) h x.1 x.2.1 ∧ x.2.2 = .bool true) → DRs b h (tk (xs.map (·.1))) (xs.map (entryOfKey (tupleKind (intKind prog w))))
  | [], _ => rfl
  | x :: xs, hx => by
    simp only [tk, List.map_cons, DRs]
    obtain ⟨h1, h2⟩ := hx x List.mem_cons_self
    refine ⟨_, _, rfl, tup_key.mp h1, by unfold VR; exact h2, ?_, tk_drs fun y hy => hx y (List.mem_cons_of_mem _ hy)⟩
    intro prog' w' ks hks
    have : x.1 = ks := map_int_inj hks
    subst this
    rfl
theorem at_iff {xs : List (List Int × Addr × Value)} {k : List Int} : (atKey xs k).isSome = true ↔ k ∈ xs.map (·.1) := by
  unfold atKey
  rw [Option.isSome_map, List.find?_isSome]
  simp
theorem at_some {xs : List (List Int × Addr × Value)} {k : List Int} : (atKey xs k).isSome = decide (k ∈ xs.map (·.1)) := by
  rw [Bool.eq_iff_iff, at_iff]; simp
theorem Inv.dictT {s : Shared} {d : Addr} {gs : List (List Int)} (I : Inv C H s) (hm : (d, MO.dict (tk gs)) ∈ H) (nd : gs.Nodup) :
    (d == sysModules) = false ∧ ∃ xs, s.heap.DictOfH (tKind C) d xs ∧ xs.map (·.1) = gs ∧ ∀ x ∈ xs, x.2.2 = .bool true := by
  obtain ⟨hs, ds, m, ho, hr⟩ := I.objs _ hm
  obtain ⟨xs, h1, h2, h3⟩ := drs_tk (prog := C.prog) (w := C.w) hr
  exact ⟨hs, xs, ⟨_, ds.toArray, m, ho, ⟨rfl, rfl, rfl⟩, rfl, by simpa using h1, fun x hx => (h3 x hx).1, by rw [h2]; exact nd⟩, h2, fun x hx => (h3 x hx).2⟩
theorem W2.notInD {g : List Int} {d : Addr} {gs : List (List Int)} (hA : AOk A n) (hm : (d, MO.dict (tk gs)) ∈ H) (nd : gs.Nodup) (q : Q (.bool (!decide (g ∈ gs))) H) : W2 C A H (compareOp .NotIn) (.tup (g.map .int)) (.ref d) Q := by
  intro s u v I r₁ r₂
  have r₁' := r₁
  unfold VR at r₁ r₂
  obtain ⟨a, vs, rfl, _⟩ := r₁
  subst r₂
  obtain ⟨hs, xs, hd, h2, _⟩ := I.dictT hm nd
  refine wpAny_notIn_heap (knd := tKind C) (k := g) (by have := hA.units; show A.units + 1 < cLine; omega) (tup_key.mpr r₁') hs hd ?_
  rw [at_some, h2]
  exact EP.same I (by unfold VR; rfl) q
theorem W3.setD {g : List Int} {d : Addr} {gs : List (List Int)} {H' : Hp} {K : Hp → Prop} (hA : AOk A n) (hm : (d, MO.dict (tk gs)) ∈ H) (nd : gs.Nodup) (hn : g ∉ gs) (hsz : gs.length ≤ sizeLine) (u : Upd H d (.dict (tk (gs ++ [g]))) H') (q : K H') :
    W3 C A H (.ref d) (.tup (g.map .int)) (.bool true) K := by
  intro s a b c I r₁ r₂ r₃
  have r₂' := r₂
  unfold VR at r₁ r₂ r₃
  subst r₁
  obtain ⟨a, vs, rfl, _⟩ := r₂
  subst r₃
  obtain ⟨hs, xs, hd, h2, h3⟩ := I.dictT hm nd
  have hnone : atKey xs g = Option.none := by
    have := at_some (xs := xs) (k := g)
    rw [h2, decide_eq_false hn] at this
    cases e : atKey xs g with
    | none => rfl
    | some p => rw [e] at this; cases this
  refine wpAny_setItem_heap (knd := tKind C) (k := g) (by have := hA.units; show A.units + 1 < cLine; omega) (tup_key.mpr r₂') hd (fun h' hd' hsb => ?_) (by
    have h4 := congrArg List.length h2
    simp at h4; rw [h4]; exact hsz)
  rw [storedH_new hnone] at hd'
  have tkp : TupKeep s.heap h' := fun b o e hi => hsb.extBut b o (fun q => I.noTup e hi (by rw [q]; exact List.mem_map_of_mem (f := (·.1)) hm)) e
  obtain ⟨⟨cls, di, da, sl⟩, es, ep, ho, ⟨e1, e2, e3⟩, hda, hes, hk, _⟩ := hd'
  simp only at e1 e2 e3 hda
  subst e1 e2 e3 hda
  have hor : OR C.h₀ h' d (.dict (tk (gs ++ [g]))) := by
    refine ⟨hs, es.toList, ep, by rw [ho], ?_⟩
    rw [hes, show gs ++ [g] = (xs ++ [(g, a, Value.bool true)]).map (·.1) by simp [h2]]
    refine tk_drs (prog := C.prog) (w := C.w) fun x hx => ⟨hk x hx, ?_⟩
    rcases List.mem_append.mp hx with hx | hx
    · exact h3 x hx
    · rw [List.mem_singleton.mp hx]
  obtain ⟨I', k'⟩ := I.upd hm u hsb.extBut hor (s.toks + (tKind C).draws g)
  exact ⟨H', I', k', q⟩
end
end Mine
namespace Mine
open PySem PySem.W PySem.Calls PyProof.Rows
section
variable {C : Cx} {A : Around} {env : Env} {gs : List Str} {S : Sg} {H : Hp}
/-! loops whose turn is shown for anything that the invariant implies: the goals stay small -/
end
end Mine
namespace Mine
open PySem PySem.W PySem.Calls PyProof.Rows
section
variable {C : Cx} {A : Around} {env : Env} {gs : List Str} {S : Sg} {H : Hp}
theorem and5 {a b c d e G : Prop} (h : a ∧ b ∧ c ∧ d ∧ e) (k : a → b → c → d → e → G) : G := k h.1 h.2.1 h.2.2.1 h.2.2.2.1 h.2.2.2.2
theorem and3 {a b c G : Prop} (h : a ∧ b ∧ c) (k : a → b → c → G) : G := k h.1 h.2.1 h.2.2
/-- for over enumerate(l): the state is given by three parameters -/
theorem for_enum3 {τ α β γ : Type} {Q : Fl → Sg → Hp → Prop} {target : Expr} {body : List Stmt} {f : τ → MV} {l : List τ} {Ok : Hp → Prop} {H₁ : Hp} (sg : α → β → γ → Sg) (hp : α → β → γ → Hp) (P : Nat → α → β → γ → Prop) (a : α) (b : β) (c : γ) (hS : S = sg a b c) (hH : H₁ = hp a b c) (h0 : P 0 a b c) (hok : ∀ i a b c, P i a b c → Ok (hp a b c))
    (turn : ∀ (J : Nat → Sg → Hp → Prop) (Z : Fl → Sg → Hp → Prop), (∀ i a b c, P i a b c → J i (sg a b c) (hp a b c)) → (∀ v S H, Q (.ret v) S H → Z (.ret v) S H) → ∀ i x a b c, l[i]? = some x → P i a b c → WA C A env gs (sg a b c) (hp a b c) target (.tup [.int (i : Int), f x]) fun S₁ H₁ => WSs C A env gs S₁ H₁ body (LoopQ Z (J (i + 1))))
    (fin : ∀ a b c, P l.length a b c → Q .next (sg a b c) (hp a b c)) :
    ∃ I : Nat → Sg → Hp → Prop, I 0 S H₁ ∧ (∀ i S H, I i S H → Ok H) ∧
      (∀ i x S H, (enumL (l.map f))[i]? = some x → I i S H → WA C A env gs S H target x fun S₁ H₁ => WSs C A env gs S₁ H₁ body (LoopQ Q (I (i + 1)))) ∧ ∀ S H, I (enumL (l.map f)).length S H → Q .next S H := by
  refine ⟨fun i S H => ∃ a b c, S = sg a b c ∧ H = hp a b c ∧ P i a b c, ⟨a, b, c, hS, hH, h0⟩, ?_, ?_, ?_⟩
  · rintro i S H ⟨a, b, c, rfl, rfl, h⟩; exact hok i a b c h
  · rintro i x S H hx ⟨a, b, c, rfl, rfl, h⟩
    obtain ⟨y, hy, rfl⟩ := enumL_get hx
    rw [List.getElem?_map, Option.map_eq_some_iff] at hy
    obtain ⟨z, hz, rfl⟩ := hy
    exact turn (fun i S H => ∃ a b c, S = sg a b c ∧ H = hp a b c ∧ P i a b c) Q (fun i a b c h => ⟨a, b, c, rfl, rfl, h⟩) (fun _ _ _ h => h) i z a b c hz h
  · rintro S H ⟨a, b, c, rfl, rfl, h⟩
    rw [enumL_length, List.length_map] at h
    exact fin a b c h
theorem WS.while4 {α β γ δ : Type} {Q : Fl → Sg → Hp → Prop} {test : Expr} {body : List Stmt} {p : Pos} (sg : α → β → γ → δ → Sg) (hp : α → β → γ → δ → Hp) (μ : α → β → γ → δ → Nat) (P : α → β → γ → δ → Prop) (a : α) (b : β) (c : γ) (d : δ) (hS : S = sg a b c d) (hH : H = hp a b c d) (h0 : P a b c d)
    (turn : ∀ (K : Sg → Hp → Prop) a b c d, (∀ a' b' c' d', μ a' b' c' d' < μ a b c d → P a' b' c' d' → K (sg a' b' c' d') (hp a' b' c' d')) → P a b c d → WT C A env gs (sg a b c d) (hp a b c d) test fun b' H' => if b' = true then WSs C A env gs (sg a b c d) H' body (LoopQ Q K) else Q .next (sg a b c d) H') : WS C A env gs S H (.While test body [] p) Q := by
  subst hS hH
  refine WS.while (fun n S H => ∃ a b c d, S = sg a b c d ∧ H = hp a b c d ∧ P a b c d ∧ n = μ a b c d) (μ a b c d) ⟨a, b, c, d, rfl, rfl, h0, rfl⟩ ?_
  rintro n S H ⟨a, b, c, d, rfl, rfl, h, rfl⟩
  exact turn _ a b c d (fun a' b' c' d' hl hP => ⟨_, hl, a', b', c', d', rfl, rfl, hP, rfl⟩) h
end
end Mine
namespace Mine
open PySem PySem.W PySem.Calls PyProof.Rows
section
variable {C : Cx} {A : Around} {env : Env} {gs : List Str} {S : Sg} {H : Hp}
/-- for over a list `l.map f`: the state is given by three parameters -/
theorem for_list3 {τ α β γ : Type} {Q : Fl → Sg → Hp → Prop} {target : Expr} {body : List Stmt} {f : τ → MV} {l : List τ} {Ok : Hp → Prop} {H₁ : Hp} (sg : α → β → γ → Sg) (hp : α → β → γ → Hp) (P : Nat → α → β → γ → Prop) (a : α) (b : β) (c : γ) (hS : S = sg a b c) (hH : H₁ = hp a b c) (h0 : P 0 a b c) (hok : ∀ i a b c, P i a b c → Ok (hp a b c))
    (turn : ∀ (J : Nat → Sg → Hp → Prop) (Z : Fl → Sg → Hp → Prop), (∀ i a b c, P i a b c → J i (sg a b c) (hp a b c)) → (∀ v S H, Q (.ret v) S H → Z (.ret v) S H) → ∀ i x a b c, l[i]? = some x → P i a b c → WA C A env gs (sg a b c) (hp a b c) target (f x) fun S₁ H₁ => WSs C A env gs S₁ H₁ body (LoopQ Z (J (i + 1))))
    (fin : ∀ a b c, P l.length a b c → Q .next (sg a b c) (hp a b c)) :
    ∃ I : Nat → Sg → Hp → Prop, I 0 S H₁ ∧ (∀ i S H, I i S H → Ok H) ∧
      (∀ i x S H, (l.map f)[i]? = some x → I i S H → WA C A env gs S H target x fun S₁ H₁ => WSs C A env gs S₁ H₁ body (LoopQ Q (I (i + 1)))) ∧ ∀ S H, I (l.map f).length S H → Q .next S H := by
  refine ⟨fun i S H => ∃ a b c, S = sg a b c ∧ H = hp a b c ∧ P i a b c, ⟨a, b, c, hS, hH, h0⟩, ?_, ?_, ?_⟩
  · rintro i S H ⟨a, b, c, rfl, rfl, h⟩; exact hok i a b c h
  · rintro i x S H hx ⟨a, b, c, rfl, rfl, h⟩
    rw [List.getElem?_map, Option.map_eq_some_iff] at hx
    obtain ⟨z, hz, rfl⟩ := hx
    exact turn (fun i S H => ∃ a b c, S = sg a b c ∧ H = hp a b c ∧ P i a b c) Q (fun i a b c h => ⟨a, b, c, rfl, rfl, h⟩) (fun _ _ _ h => h) i z a b c hz h
  · rintro S H ⟨a, b, c, rfl, rfl, h⟩
    rw [List.length_map] at h
    exact fin a b c h
end
end Mine
namespace Mine
open PySem PySem.Calls PyProof.Rows

section
variable {C : Cx} {A : Around} {env : Env} {gs : List Str} {S : Sg} {H : Hp} {n : Nat} {Q : MV → Hp → Prop}

theorem WC.intB {b : Bool} (q : Q (.int (if b then 1 else 0)) H) : WC C A H (.type "int") [.bool b] Q := .of1 fun s v I r => by
  unfold VR at r; subst r
  exact call_int_bool (EP.same I (by unfold VR; exact ⟨_, rfl⟩) q)

/-- reversed(list), asked for its iterator -/
theorem WI.rev {f : Str} {p pos : Pos} {e target : Expr} {K : List MV → (Hp → Prop) → Hp → Prop} (hA : AOk A n) (hx : f ∈ gs) (g : Gl C f (.type "reversed"))
    (h : WE C A env gs S H e fun x H₁ => ∃ a xs, x = .ref a ∧ (a, MO.list xs) ∈ H₁ ∧ K xs.reverse (fun H => (a, MO.list xs) ∈ H) H₁)
    (he : starEach [e] env = [(false, eval e env)] := by with_unfolding_all rfl) : WI C A env gs S H (.Call (.Name f p) [e] [] pos) target K := by
  intro s I F
  refine Call_ (wpAny_mono (WE.gl (Q := fun x H' => x = .raw (.type "reversed") ∧ H' = H) hx g ⟨rfl, rfl⟩ s I F) (fun v s₁ h₁ => ?_) noE)
  refine EP.elim h₁ fun x H₁ r₁ I₁ k₁ hq => ?_
  clear h₁
  obtain ⟨rfl, rfl⟩ := hq
  unfold VR at r₁; subst r₁
  rw [show backTo pos (starEach [e] env) = [(false, eval e env)] from by rw [he]; rfl]
  refine PySem.callWith_type rfl (evalArgs_plain (spliced_cons (wpAny_mono (h s₁ I₁ (F.keep I k₁)) (fun v s₂ h₂ => spliced_nil ?_) noE)))
  refine EP.elim h₂ fun x H₂ r₂ I₂ k₂ hq => ?_
  clear h₂
  obtain ⟨a, xs, rfl, hm, q⟩ := hq
  unfold VR at r₂; subst r₂
  obtain ⟨vs, m, ho, hr⟩ := I₂.objs _ hm
  have hl : s₂.heap.IsList a vs.toArray := ⟨_, ho, rfl, m, rfl⟩
  have hk : ∀ b o, s₂.heap.get? b = some o → (s₂.heap.push (revObj a ((vs.toArray.size : Int) - 1))).get? b = some o := fun b o e => Heap.get?_push_of_some _ e
  have hlen : vs.length = xs.length := hr.length
  have hit0 : (s₂.heap.push (revObj a ((vs.toArray.size : Int) - 1))).IsRevIter s₂.heap.objs.size a ((xs.length : Int) - 1 - ((0 : Nat) : Int)) := ⟨_, Heap.get?_push_size _ rfl, rfl, by simp [revObj, hlen]⟩
  refine call_reversed_list hl ?_
  refine wpAny_pyIter_revIter hit0 ?_
  refine ⟨s₂.heap.objs.size, [s₂.heap.objs.size], xs.reverse, _, fun i h => h.IsRevIter s₂.heap.objs.size a ((xs.length : Int) - 1 - (i : Int)), fun i _ h => h.IsRevIter s₂.heap.objs.size a ((xs.length : Int) - 1 - ((i + 1 : Nat) : Int)), H₂, rfl, ?_, hit0, I₂.grow hk s₂.toks, (k₁.trans k₂).trans (Kp.of_keeps hk), ?_, q⟩
  · refine ⟨fun i h h' st _ hk => ?_, fun i h st b hb => ?_, fun i x H' s' Q hx I' hok st hQ => ?_, fun i x v s' Q hx hv st hQ => ?_, fun H' s' Q I' hok st hQ => ?_, ?plain, fun i s' Q st hQ => ?_⟩
    · obtain ⟨o, e, r⟩ := st; exact ⟨o, hk _ (by simp) _ e, r⟩
    · have hb : b = s₂.heap.objs.size := by simpa using hb
      subst hb
      rcases st with ⟨o, e, c, d⟩ | ⟨_, o, e, c, d⟩ <;> exact ⟨o, e, by simp [Imm, c]⟩
    · obtain ⟨vs', m', ho', hr'⟩ := I'.objs _ hok
      have hil : i < xs.length := by
        have : i < xs.reverse.length := by
          rcases Nat.lt_or_ge i xs.reverse.length with h1 | h1
          · exact h1
          · rw [List.getElem?_eq_none h1] at hx; cases hx
        simpa using this
      rw [List.getElem?_reverse hil] at hx
      obtain ⟨v, hv, rv⟩ := hr'.get hx
      have e1 : (xs.length : Int) - 1 - (i : Int) = ((xs.length - 1 - i : Nat) : Int) := by omega
      have e2 : ((xs.length - 1 - i : Nat) : Int) - 1 = (xs.length : Int) - 1 - ((i + 1 : Nat) : Int) := by omega
      rw [e1] at st
      refine wpAny_pyNext_rev_item st ⟨_, ho', rfl, m', rfl⟩ (x := v) (by simpa using hv) fun h' st' hs' => ?_
      rw [e2] at st'
      exact hQ v h' s'.toks (rv.ext (Ext.of_extBut hs'.extBut) (fun b hb o e => by
        have hb : b = s₂.heap.objs.size := by simpa using hb
        subst hb
        obtain ⟨o', e', c, d⟩ := st
        rw [e] at e'; cases e'; simp [Imm, c])) st' (Ext.of_extBut hs'.extBut)
    · obtain ⟨o, e, c, d⟩ := id st
      exact go_other e c (by decide +kernel) (hQ s'.heap s'.toks st fun _ _ _ e => e)
    · rw [List.length_reverse, show (xs.length : Int) - 1 - (xs.length : Int) = -1 by omega] at st
      exact wpAny_pyNext_rev_end hA.handled st fun h' hx => hQ h' s'.toks (Ext.of_extBut hx)
    case plain => exact fun _ _ _ _ _ _ st => st
    · exact wpAny_pyIter_revIter st hQ
  · intro b hb
    have hb : b = s₂.heap.objs.size := by simpa using hb
    subst hb
    refine ⟨fun o e => ?_, I₂.fresh⟩
    by_cases d : dom H₁ s₂.heap.objs.size
    · exact d
    · have := (k₁.trans k₂) _ o e d
      exact absurd (Heap.lt_size this.1) (Nat.lt_irrefl _)
end
end Mine
set_option maxRecDepth 100000
set_option maxHeartbeats 4000000
namespace Mine
open PySem PySem.W PySem.Calls PyProof.Rows

def getDef : Option Stmt → DefRec
  | some (.FunctionDef n a b _ _ _ sc _ _ pos) => ⟨n, a, b, sc, pos⟩
  | _ => ⟨Str.ofString "", { posonlyargs := [], args := [], vararg := none, kwonlyargs := [], kw_defaults := [], kwarg := none, defaults := [] }, [], { kind := .function, names := [], isGenerator := false, isCoroutine := false, more := [] }, ⟨0, 0, 0, 0⟩⟩
theorem seq_next {Q : Fl → Sg → Hp → Prop} {k : Sg → Hp → Prop} {S : Sg} {H : Hp} (h : k S H) : Seq Q k .next S H := h
theorem seq_ret {Q : Fl → Sg → Hp → Prop} {k : Sg → Hp → Prop} {S : Sg} {H : Hp} {v : MV} (h : Q (.ret v) S H) : Seq Q k (.ret v) S H := h
theorem loop_next {Q : Fl → Sg → Hp → Prop} {k : Sg → Hp → Prop} {S : Sg} {H : Hp} (h : k S H) : LoopQ Q k .next S H := h
theorem ret_of {Q : MV → Hp → Prop} {S : Sg} {H : Hp} {v : MV} (h : ∃ H', H'.Sublist H ∧ Q v H') : Ret Q (.ret v) S H := h
abbrev pw := PySem.Challenge.pw_uf050005_11
def dd (i : Nat) : DefRec := getDef pw.main.body[i]?
structure Fx (C : Cx) : Prop where
  p_is_whole : Fn C "is_whole" (dd 9).name (dd 9).params (dd 9).body (dd 9).scope
  p_is_place : Fn C "is_place" (dd 10).name (dd 10).params (dd 10).body (dd 10).scope
  p_is_road : Fn C "is_road" (dd 11).name (dd 11).params (dd 11).body (dd 11).scope
  p_checked : Fn C "checked" (dd 12).name (dd 12).params (dd 12).body (dd 12).scope
  p_need_place : Fn C "need_place" (dd 13).name (dd 13).params (dd 13).body (dd 13).scope
  p_into : Fn C "into" (dd 14).name (dd 14).params (dd 14).body (dd 14).scope
  p_from_there : Fn C "from_there" (dd 15).name (dd 15).params (dd 15).body (dd 15).scope
  p_reached : Fn C "reached" (dd 16).name (dd 16).params (dd 16).body (dd 16).scope
  p_cut_off : Fn C "cut_off" (dd 17).name (dd 17).params (dd 17).body (dd 17).scope
  p_left_over : Fn C "left_over" (dd 19).name (dd 19).params (dd 19).body (dd 19).scope
  p_total : Fn C "total" (dd 21).name (dd 21).params (dd 21).body (dd 21).scope
  p_leads_to : Fn C "leads_to" (dd 23).name (dd 23).params (dd 23).body (dd 23).scope
  p_lone : Fn C "lone" (dd 24).name (dd 24).params (dd 24).body (dd 24).scope
  p_priced : Fn C "priced" (dd 25).name (dd 25).params (dd 25).body (dd 25).scope
  p_is_within : Fn C "is_within" (dd 26).name (dd 26).params (dd 26).body (dd 26).scope
  p_parts_of : Fn C "parts_of" (dd 27).name (dd 27).params (dd 27).body (dd 27).scope
  p_entered : Fn C "entered" (dd 28).name (dd 28).params (dd 28).body (dd 28).scope
  p_cheapest : Fn C "cheapest" (dd 29).name (dd 29).params (dd 29).body (dd 29).scope
  p_least : Fn C "least" (dd 30).name (dd 30).params (dd 30).body (dd 30).scope
  f_cell : Fn C "_law_cell_at" (dd 32).name (dd 32).params (dd 32).body (dd 32).scope
  f_mixed : Fn C "_law_mixed" (dd 33).name (dd 33).params (dd 33).body (dd 33).scope
  f_cost : Fn C "_law_cost" (dd 34).name (dd 34).params (dd 34).body (dd 34).scope
  f_road : Fn C "_law_road" (dd 35).name (dd 35).params (dd 35).body (dd 35).scope
  f_roads : Fn C "_law_roads" (dd 36).name (dd 36).params (dd 36).body (dd 36).scope
  f_is : Fn C "_law_is" (dd 37).name (dd 37).params (dd 37).body (dd 37).scope
  f_law : Fn C "law" (dd 38).name (dd 38).params (dd 38).body (dd 38).scope
  c_MOST_PLACES : ∃ t, C.mg "MOST_PLACES" = some (.int 12 t)
  c_MOST_ROADS : ∃ t, C.mg "MOST_ROADS" = some (.int 60 t)
  c_TOO_DEAR : ∃ t, C.mg "TOO_DEAR" = some (.int 10000000000000000000000000000000000000000 t)
  g_len : Gl C "len" (.builtin "len")
  g_isi : Gl C "isinstance" (.builtin "isinstance")
  g_sorted : Gl C "sorted" (.builtin "sorted")
  g_sum : Gl C "sum" (.builtin "sum")
  g_min : Gl C "min" (.builtin "min")
  g_int : Gl C "int" (.type "int")
  g_bool : Gl C "bool" (.type "bool")
  g_list : Gl C "list" (.type "list")
  g_tuple : Gl C "tuple" (.type "tuple")
  g_range : Gl C "range" (.type "range")
  g_enum : Gl C "enumerate" (.type "enumerate")
  g_reversed : Gl C "reversed" (.type "reversed")
local macro_rules | `(tactic| wtm_at "at") => `(tactic| first | with_reducible exact At.here | (apply At.there; wtm_at "at"))
local macro_rules | `(tactic| wtm_at "put") => `(tactic| first | with_reducible exact Put.here | (apply Put.there; wtm_at "put"))
local macro_rules | `(tactic| wtm_at "mem") => `(tactic| first | with_reducible exact List.mem_cons_self | (apply List.mem_cons_of_mem; wtm_at "mem") | assumption)
local macro_rules | `(tactic| wtm_at "upd") => `(tactic| first | with_reducible exact Upd.here | (apply Upd.there; wtm_at "upd"))
local macro_rules | `(tactic| wtm_at "bind") => `(tactic| (intro vs pm cd doc h; rcases vs with _ | ⟨a, _ | ⟨b, _ | ⟨c, _ | ⟨d, _ | ⟨e, _ | ⟨f, r⟩⟩⟩⟩⟩⟩ <;> first | rfl | (simp at h)))

local macro_rules | `(tactic| wtm_at "isiE") => `(tactic| first
  | ((with_reducible refine WE.isi (T := "int") ?hx ?g ?ht ?gt ?_ ?he); (case gt => with_reducible exact Fx.g_int (by assumption)); (case hx => wtm_at "mem"); (case g => exact Fx.g_isi (by assumption)); (case ht => wtm_at "mem"); (case he => with_unfolding_all rfl))
  | ((with_reducible refine WE.isi (T := "bool") ?hx ?g ?ht ?gt ?_ ?he); (case gt => with_reducible exact Fx.g_bool (by assumption)); (case hx => wtm_at "mem"); (case g => exact Fx.g_isi (by assumption)); (case ht => wtm_at "mem"); (case he => with_unfolding_all rfl))
  | ((with_reducible refine WE.isi (T := "list") ?hx ?g ?ht ?gt ?_ ?he); (case gt => with_reducible exact Fx.g_list (by assumption)); (case hx => wtm_at "mem"); (case g => exact Fx.g_isi (by assumption)); (case ht => wtm_at "mem"); (case he => with_unfolding_all rfl))
  | ((with_reducible refine WE.isi (T := "tuple") ?hx ?g ?ht ?gt ?_ ?he); (case gt => with_reducible exact Fx.g_tuple (by assumption)); (case hx => wtm_at "mem"); (case g => exact Fx.g_isi (by assumption)); (case ht => wtm_at "mem"); (case he => with_unfolding_all rfl)))
local macro_rules | `(tactic| wtm_at "isi") => `(tactic| first
  | wtm_at "isiE" | ((with_reducible refine WT.plain ?hh ?he); (case' hh => wtm_at "isiE"); (case he => with_unfolding_all rfl)))
local macro_rules | `(tactic| wtm_at "ex") => `(tactic| first
  | with_reducible refine ⟨_, by wtm_at "put", ?_⟩
  | with_reducible refine ⟨_, rfl, ?_⟩
  | with_reducible refine ⟨_, Isi.ii, ?_⟩ | with_reducible refine ⟨_, Isi.ib, ?_⟩ | with_reducible refine ⟨_, Isi.bi, ?_⟩ | with_reducible refine ⟨_, Isi.bb, ?_⟩
  | with_reducible refine ⟨_, Isi.tt, ?_⟩ | with_reducible refine ⟨_, Isi.ll (by wtm_at "mem"), ?_⟩
  | ((with_reducible refine ⟨_, Len.listM (by wtm_at "mem"), ?h, ?_⟩); (case h => omega))
  | ((with_reducible refine ⟨_, Len.list (by wtm_at "mem"), ?h, ?_⟩); (case h => (simp only [List.length_cons, List.length_nil]; omega)))
  | ((with_reducible refine ⟨_, Len.list (by wtm_at "mem"), ?h, ?_⟩); (case h => omega))
  | ((with_reducible refine ⟨_, Len.tup, ?h, ?_⟩); (case h => (simp only [List.length_cons, List.length_nil, List.length_map]; omega))))
local macro_rules | `(tactic| wtm_at "we") => `(tactic| first
  | ((with_reducible apply WE.var); wtm_at "at")
  | with_reducible refine WE.int ?_ | with_reducible refine WE.bin ?_
  | ((with_reducible refine WE.cmp ?_ ?hm); (case hm => with_unfolding_all rfl)) | with_reducible refine WE.tuple ?_ | with_reducible refine WE.list ?_
  | ((with_reducible refine WE.slice ?_ ?ht); (case ht => (intro _ _; with_unfolding_all rfl))) | with_reducible refine WE.sub ?_
  | wtm_at "isiE"
  | ((with_reducible refine WE.len ?hx ?g ?_ ?he); (case hx => wtm_at "mem"); (case g => exact Fx.g_len (by assumption)); (case he => with_unfolding_all rfl))
  | with_reducible refine WE.bo1 ?_ | with_reducible refine WE.and ?_ | with_reducible refine WE.or ?_
  | with_reducible refine WE.bool ?_ | with_reducible refine WE.none ?_ | with_reducible refine WE.str ?_ | ((with_reducible refine WE.cmp2 ?_ ?hm); (case hm => with_unfolding_all rfl)) | with_reducible refine WE.not ?_)
local macro_rules | `(tactic| wtm_at "w2") => `(tactic| first
  | with_reducible refine W2.add ?_ | with_reducible refine W2.sub ?_
  | ((with_reducible refine W2.modS ?hb ?_); (case hb => omega))
  | ((with_reducible refine W2.divS ?hb ?hp ?_); (case hb => omega); (case hp => omega))
  | ((with_reducible refine W2.mulR ?h1 ?h2 ?_); (case h1 => omega); (case h2 => omega))
  | ((with_reducible refine W2.mulL ?h1 ?h2 ?_); (case h1 => omega); (case h2 => omega))
  | with_reducible refine W2.lt ?_ | with_reducible refine W2.le ?_ | with_reducible refine W2.gt ?_ | with_reducible refine W2.ge ?_ | with_reducible refine W2.eq ?_ | with_reducible refine W2.ne ?_
  | (with_reducible refine W2.itemT (by with_unfolding_all decide) (by with_unfolding_all rfl) (by with_unfolding_all decide) ?_))
local macro_rules | `(tactic| wtm_at "wt") => `(tactic| first
  | ((with_reducible refine WT.cmp ?_ ?hm); (case hm => with_unfolding_all rfl)) | ((with_reducible refine WT.cmp2 ?_ ?hm); (case hm => with_unfolding_all rfl)) | with_reducible refine WT.not ?_ | with_reducible refine WT.and0 ?_ | with_reducible refine WT.or0 ?_ | with_reducible refine WT.and ?_ | with_reducible refine WT.or ?_
  | ((with_reducible refine WT.plain ?hh ?he); (case' hh => wtm_at "isiE"); (case he => with_unfolding_all rfl)))
local macro_rules | `(tactic| wtm_at "if") => `(tactic| first
  | with_reducible refine if_t ?_ | with_reducible refine if_f ?_ | with_reducible refine if_nt ?_ | with_reducible refine if_nf ?_)
local macro_rules | `(tactic| wtm_at "ws") => `(tactic| first
  | with_reducible refine WS.ret ?_ | with_reducible refine WS.if ?_ | ((with_reducible refine WS.assign ?_ ?hs); (case hs => with_unfolding_all rfl)) | ((with_reducible refine WS.expr ?_ ?hs); (case hs => with_unfolding_all rfl)) | with_reducible refine WS.pass ?_)
local macro_rules | `(tactic| wtm_at "e") => `(tactic| first
  | ((with_reducible refine (?_ : WE _ _ _ _ _ _ _ _)); wtm_at "we")
  | ((with_reducible refine (?_ : WEs _ _ _ _ _ _ _ _)); (first | with_reducible refine WEs.nil ?_ | ((with_reducible refine WEs.cons ?_ ?he); (case he => with_unfolding_all rfl))))
  | ((with_reducible refine (?_ : W2 _ _ _ _ _ _ _)); wtm_at "w2")
  | ((with_reducible refine (?_ : WT _ _ _ _ _ _ _ _)); wtm_at "wt")
  | ((with_reducible refine (?_ : WS _ _ _ _ _ _ _ _)); wtm_at "ws")
  | wtm_at "if"
  | with_reducible refine WB.bool ?_
  | with_reducible refine WSs.nil ?_
  | with_reducible refine seq_ret ?_ | with_reducible refine loop_next ?_ | with_reducible refine loop_ret ?_ | with_reducible refine ret_of ?_
  | with_reducible refine WO.none ?_ | with_reducible refine WO.some ?_
  | wtm_at "ex"
  | ((with_reducible refine ⟨Nat.le_of_ble_eq_true ?h, ?_⟩); (case h => rfl))
  | with_reducible refine And.intro (Eq.refl MV.none) ?_
  | ((with_reducible refine And.intro ?h ?_); (case h => omega)))
local macro_rules | `(tactic| wtm_at "s") => `(tactic| first | wtm_at "e" | with_reducible refine WSs.cons ?_ | with_reducible refine seq_next ?_)

section
variable {C : Cx} {A : Around} {H : Hp} {n : Nat} {Q : MV → Hp → Prop}
theorem get_map {α β : Type} {f : α → β} {l : List α} {i : Nat} {y : β} (h : (l.map f)[i]? = some y) : ∃ x, l[i]? = some x ∧ y = f x := by
  rw [List.getElem?_map, Option.map_eq_some_iff] at h
  obtain ⟨x, h1, h2⟩ := h
  exact ⟨x, h1, h2.symm⟩

/-! the guards of a net -/
theorem sp_whole (X : Fx C) (hA : AOk A (n + 1)) {x : MV} {b1 b2 : Bool} (h1 : Isi H x "int" b1) (h2 : Isi H x "bool" b2) (q : Q (.bool (b1 && !b2)) H) : WF C A H "is_whole" [x] Q := by
  refine WF.intro X.p_is_whole hA ["thing"] [] ["isinstance", "int", "bool"] [] [("thing", some x)] (by decide +kernel) rfl (by wtm_at "bind") rfl ?_
  intro env hA' K
  refine WSs.cons ?_
  repeat wtm_at "s"
  refine ⟨b1, h1, ?_⟩
  repeat wtm_at "s"
  cases b1 with
  | true =>
    repeat wtm_at "s"
    refine ⟨b2, h2, ?_⟩
    repeat wtm_at "s"
    exact ⟨H, List.Sublist.refl _, q⟩
  | false =>
    repeat wtm_at "s"
    exact ⟨H, List.Sublist.refl _, q⟩
theorem WE.whole (X : Fx C) (hA : AOk A (n + 1)) {env : Env} {gs : List Str} {S : Sg} {e : Expr} {p pos : Pos} (hx : Str.ofString "is_whole" ∈ gs) (h : WE C A env gs S H e fun x H' => ∃ b1 b2, Isi H' x "int" b1 ∧ Isi H' x "bool" b2 ∧ Q (.bool (b1 && !b2)) H')
    (he : starEach [e] env = [(false, eval e env)] := by with_unfolding_all rfl) : WE C A env gs S H (.Call (.Name "is_whole" p) [e] [] pos) Q := by
  refine WE.callF hx X.p_is_whole (WEs.cons (h.mono fun x H' h' => WEs.nil ?_) he) he
  obtain ⟨b1, b2, h1, h2, q⟩ := h'
  exact sp_whole X hA h1 h2 q
theorem sp_place (X : Fx C) (hA : AOk A (n + 2)) {m k : Int} (q : Q (.bool (decide (0 ≤ k ∧ k < m))) H) : WF C A H "is_place" [.int m, .int k] Q := by
  refine WF.intro X.p_is_place hA ["many", "thing"] [] ["is_whole"] [] [("many", some (.int m)), ("thing", some (.int k))] (by decide +kernel) rfl (by wtm_at "bind") rfl ?_
  intro env hA' K
  refine WSs.cons (WS.ret (WE.and (WE.whole X hA' (by wtm_at "mem") ?_)))
  repeat wtm_at "s"
  refine ⟨true, false, .ii, .ib, ?_⟩
  refine WB.bool (if_t ?_)
  repeat wtm_at "s"
  refine if_d (fun h => ?_) (fun h => ?_)
  · repeat wtm_at "s"
    refine ⟨H, List.Sublist.refl _, ?_⟩
    have e : decide (0 ≤ k ∧ k < m) = decide (k < m) := by simp [h]
    rw [e] at q
    exact q
  · repeat wtm_at "s"
    refine ⟨H, List.Sublist.refl _, ?_⟩
    have e : decide (0 ≤ k ∧ k < m) = false := by simp [h]
    rw [e] at q
    exact q
theorem WE.place (X : Fx C) (hA : AOk A (n + 2)) {env : Env} {gs : List Str} {S : Sg} {e e2 : Expr} {p pos : Pos} (hx : Str.ofString "is_place" ∈ gs)
    (h : WE C A env gs S H e fun x H1 => WE C A env gs S H1 e2 fun y H2 => ∃ m k, x = .int m ∧ y = .int k ∧ Q (.bool (decide (0 ≤ k ∧ k < m))) H2)
    (he : starEach [e, e2] env = [(false, eval e env), (false, eval e2 env)] := by with_unfolding_all rfl) (he2 : starEach [e2] env = [(false, eval e2 env)] := by with_unfolding_all rfl) : WE C A env gs S H (.Call (.Name "is_place" p) [e, e2] [] pos) Q := by
  refine WE.callF hx X.p_is_place (WEs.cons (h.mono fun x H1 h1 => WEs.cons (h1.mono fun y H2 h2 => WEs.nil ?_) he2) (by rw [he, he2])) (by rw [he, he2])
  obtain ⟨m, k, rfl, rfl, q⟩ := h2
  exact sp_place X hA q
/-- a road of a net of m places -/
def RdOk (m : Int) (r : Rd) : Prop := 0 ≤ r.1 ∧ r.1 < m ∧ 0 ≤ r.2.1 ∧ r.2.1 < m ∧ r.1 ≠ r.2.1 ∧ 0 ≤ r.2.2 ∧ r.2.2 < 10 ^ 40
theorem sp_is_road (X : Fx C) (hA : AOk A (n + 3)) {m : Int} {r : Rd} (hr : RdOk m r) (q : Q (.bool true) H) : WF C A H "is_road" [.int m, rdV r] Q := by
  obtain ⟨h1, h2, h3, h4, h5, h6, h7⟩ := hr
  refine WF.intro X.p_is_road hA ["many", "road"] [] ["isinstance", "tuple", "len", "is_place", "is_whole", "TOO_DEAR"] [] [("many", some (.int m)), ("road", some (rdV r))] (by decide +kernel) rfl (by wtm_at "bind") rfl ?_
  intro env hA' K
  refine WSs.cons ?_
  repeat wtm_at "s"
  refine if_ne (fun h => absurd rfl h) (fun _ => ?_)
  repeat wtm_at "s"
  refine WT.plain (WE.place X hA' (by wtm_at "mem") ?_)
  repeat wtm_at "s"
  refine ⟨_, _, rfl, rfl, ?_⟩
  repeat wtm_at "s"
  refine if_nd (fun h => absurd ⟨h1, h2⟩ h) (fun _ => ?_)
  repeat wtm_at "s"
  refine WT.plain (WE.place X hA' (by wtm_at "mem") ?_)
  repeat wtm_at "s"
  refine ⟨_, _, rfl, rfl, ?_⟩
  repeat wtm_at "s"
  refine if_nd (fun h => absurd ⟨h3, h4⟩ h) (fun _ => ?_)
  repeat wtm_at "s"
  refine if_eq (fun h => absurd h h5) (fun _ => ?_)
  repeat wtm_at "s"
  refine WE.whole X (hA'.le (by omega : n + 1 ≤ n + 2)) (by wtm_at "mem") ?_
  repeat wtm_at "s"
  refine ⟨true, false, .ii, .ib, ?_⟩
  refine WB.bool (if_t ?_)
  repeat wtm_at "s"
  refine if_d (fun _ => ?_) (fun h => absurd h6 h)
  repeat wtm_at "s"
  refine WE.gint (by wtm_at "mem") (by decide +kernel) X.c_TOO_DEAR ?_
  repeat wtm_at "s"
  refine ⟨H, List.Sublist.refl _, ?_⟩
  have e : decide (r.2.2 < 10000000000000000000000000000000000000000) = true := decide_eq_true (by omega)
  rw [e]; exact q
theorem sp_checked (X : Fx C) (hA : AOk A (n + 4)) {m : Int} {a : Addr} {R : List Rd} (hm : 1 ≤ m ∧ m ≤ 12) (hR : R.length ≤ 60) (hok : ∀ r ∈ R, RdOk m r) (hmem : (a, MO.list (R.map rdV)) ∈ H) (q : Q .none H) : WF C A H "checked" [.int m, .ref a] Q := by
  refine WF.intro X.p_checked hA ["many", "roads"] ["road"] ["is_whole", "MOST_PLACES", "isinstance", "list", "len", "MOST_ROADS", "is_road"] [] [("many", some (.int m)), ("roads", some (.ref a)), ("road", none)] (by decide +kernel) rfl (by wtm_at "bind") rfl ?_
  intro env hA' K
  refine WSs.cons ?_
  repeat wtm_at "s"
  refine WT.plain (WE.whole X (hA'.le (by omega : n + 1 ≤ n + 3)) (by wtm_at "mem") ?_)
  repeat wtm_at "s"
  refine ⟨true, false, .ii, .ib, ?_⟩
  refine WB.bool (if_nt ?_)
  repeat wtm_at "s"
  refine if_d (fun h => absurd h (by omega)) (fun _ => ?_)
  repeat wtm_at "s"
  refine WE.gint (by wtm_at "mem") (by decide +kernel) X.c_MOST_PLACES ?_
  repeat wtm_at "s"
  refine if_d (fun h => absurd h (by omega)) (fun _ => ?_)
  repeat wtm_at "s"
  refine WE.gint (by wtm_at "mem") (by decide +kernel) X.c_MOST_ROADS ?_
  repeat wtm_at "s"
  refine if_d (fun h => absurd h (by omega)) (fun _ => ?_)
  repeat wtm_at "s"
  refine WS.for (WI.of ?_)
  repeat wtm_at "e"
  refine ItOf.list hA' (by wtm_at "mem") ?_
  refine for_intro (fun (i : Nat) (S : Sg) (H' : Hp) => ∃ o, S = ([("many", some (.int m)), ("roads", some (.ref a)), ("road", o)] : Sg) ∧ H' = H) ⟨none, rfl, rfl⟩ ?_ ?_ ?_
  · rintro i S H' ⟨o, rfl, rfl⟩
    exact hmem
  · rintro i x S H' hx ⟨o, rfl, rfl⟩
    obtain ⟨r, hr, rfl⟩ := get_map hx
    refine WA.name (by wtm_at "put") ?_
    repeat wtm_at "s"
    refine WT.plain (WE.callF (by wtm_at "mem") X.p_is_road ?_)
    repeat wtm_at "s"
    refine sp_is_road X hA' (hok r (List.mem_of_getElem? hr)) ?_
    repeat wtm_at "s"
    rfl
  · rintro S H' ⟨o, rfl, rfl⟩
    repeat wtm_at "s"
    exact ⟨_, List.Sublist.refl _, q⟩
theorem sp_need (X : Fx C) (hA : AOk A (n + 3)) {m k : Int} (h0 : 0 ≤ k) (h1 : k < m) (q : Q .none H) : WF C A H "need_place" [.int m, .int k] Q := by
  refine WF.intro X.p_need_place hA ["many", "place"] [] ["is_place"] [] [("many", some (.int m)), ("place", some (.int k))] (by decide +kernel) rfl (by wtm_at "bind") rfl ?_
  intro env hA' K
  refine WSs.cons ?_
  repeat wtm_at "s"
  refine WT.plain (WE.place X hA' (by wtm_at "mem") ?_)
  repeat wtm_at "s"
  refine ⟨_, _, rfl, rfl, ?_⟩
  repeat wtm_at "s"
  refine if_nd (fun h => absurd ⟨h0, h1⟩ h) (fun _ => ?_)
  repeat wtm_at "s"
  exact ⟨_, List.Sublist.refl _, q⟩
def leftF (r : Rd) (P : List Pr) (i : Nat) : Int := (P.take i).foldl (fun l p => if r.2.1 ∈ p.1 ∧ ¬ r.1 ∈ p.1 then l - p.2 else l) r.2.2
theorem leftF_succ {r : Rd} {P : List Pr} {i : Nat} {p : Pr} (h : P[i]? = some p) : leftF r P (i + 1) = if r.2.1 ∈ p.1 ∧ ¬ r.1 ∈ p.1 then leftF r P i - p.2 else leftF r P i := by
  unfold leftF
  rw [List.take_add_one, h, List.foldl_append]
  rfl
def leftsF (R : List Rd) (P : List Pr) (i : Nat) : List Int := (R.take i).map fun r => leftF r P P.length
theorem leftsF_succ {R : List Rd} {P : List Pr} {i : Nat} {r : Rd} (h : R[i]? = some r) : leftsF R P (i + 1) = leftsF R P i ++ [leftF r P P.length] := by
  unfold leftsF
  rw [List.take_add_one, h, List.map_append]
  rfl
theorem leftsF_length (R : List Rd) (P : List Pr) (i : Nat) : (leftsF R P i).length ≤ i := by
  unfold leftsF; rw [List.length_map, List.length_take]; omega

theorem sp_left (X : Fx C) (hA : AOk A (n + 1)) {a b : Addr} {R : List Rd} {P : List Pr} (hR : R.length ≤ 60) (hm : (a, MO.list (R.map rdV)) ∈ H) (hp : (b, MO.list (P.map prV)) ∈ H)
    (q : ∀ D, ¬ dom H D → Q (.ref D) ((D, .list ((leftsF R P R.length).map .int)) :: H)) : WF C A H "left_over" [.ref a, .ref b] Q := by
  refine WF.intro X.p_left_over hA ["roads", "prices"] ["found", "road", "left", "group", "price"] [] [] [("roads", some (.ref a)), ("prices", some (.ref b)), ("found", none), ("road", none), ("left", none), ("group", none), ("price", none)] (by decide +kernel) rfl (by wtm_at "bind") rfl ?_
  intro env hA' K
  refine WSs.cons ?_
  repeat wtm_at "s"
  intro D hD
  repeat wtm_at "s"
  refine WS.for (WI.of ?_)
  repeat wtm_at "e"
  refine ItOf.list hA' (by wtm_at "mem") ?_
  refine for_intro (fun (i : Nat) (S : Sg) (H' : Hp) => ∃ o1 o2 o3 o4, S = ([("roads", some (.ref a)), ("prices", some (.ref b)), ("found", some (.ref D)), ("road", o1), ("left", o2), ("group", o3), ("price", o4)] : Sg) ∧ H' = (D, .list ((leftsF R P i).map .int)) :: H) ⟨none, none, none, none, rfl, rfl⟩ ?_ ?_ ?_
  · rintro i S H' ⟨o1, o2, o3, o4, rfl, rfl⟩
    exact List.mem_cons_of_mem _ hm
  · rintro i x S H' hx ⟨o1, o2, o3, o4, rfl, rfl⟩
    obtain ⟨r, hr, rfl⟩ := get_map hx
    have hlt := get_lt hr
    refine WA.name (by wtm_at "put") ?_
    repeat wtm_at "s"
    refine WS.for (WI.of ?_)
    repeat wtm_at "e"
    refine ItOf.list hA' (List.mem_cons_of_mem _ hp) ?_
    refine for_intro (fun (j : Nat) (S : Sg) (H' : Hp) => ∃ o3 o4, S = ([("roads", some (.ref a)), ("prices", some (.ref b)), ("found", some (.ref D)), ("road", some (rdV r)), ("left", some (.int (leftF r P j))), ("group", o3), ("price", o4)] : Sg) ∧ H' = (D, .list ((leftsF R P i).map .int)) :: H) ⟨o3, o4, rfl, rfl⟩ ?_ ?_ ?_
    · rintro j S H' ⟨o3, o4, rfl, rfl⟩
      exact List.mem_cons_of_mem _ hp
    · rintro j x S H' hx ⟨o3, o4, rfl, rfl⟩
      obtain ⟨p, hpj, rfl⟩ := get_map hx
      refine WA.tup2 hA' (by wtm_at "put") (by wtm_at "put") ?_
      repeat wtm_at "s"
      refine W2.inI hA' ?_
      repeat wtm_at "s"
      refine if_d (fun h1 => ?_) (fun h1 => ?_)
      · repeat wtm_at "s"
        refine W2.notInI hA' ?_
        repeat wtm_at "s"
        refine if_nd (fun h2 => ?_) (fun h2 => ?_)
        · repeat wtm_at "s"
          rw [leftF_succ hpj, if_pos ⟨h1, h2⟩]
          exact ⟨_, _, rfl, rfl⟩
        · repeat wtm_at "s"
          rw [leftF_succ hpj, if_neg (fun h => h.2 h2)]
          exact ⟨_, _, rfl, rfl⟩
      · repeat wtm_at "s"
        rw [leftF_succ hpj, if_neg (fun h => h1 h.1)]
        exact ⟨_, _, rfl, rfl⟩
    · rintro S H' ⟨o3, o4, rfl, rfl⟩
      rw [List.length_map]
      have len := leftsF_length R P i
      repeat wtm_at "s"
      refine WE.append ?_
      repeat wtm_at "s"
      refine ⟨D, _, rfl, by wtm_at "mem", ?_⟩
      repeat wtm_at "s"
      refine ⟨_, _, by wtm_at "mem", by wtm_at "upd", by simp [sizeLine]; omega, rfl, ?_⟩
      repeat wtm_at "s"
      refine ⟨_, _, _, _, rfl, ?_⟩
      rw [leftsF_succ hr]; simp
  · rintro S H' ⟨o1, o2, o3, o4, rfl, rfl⟩
    repeat wtm_at "s"
    refine ⟨_, List.Sublist.refl _, ?_⟩
    rw [List.length_map]
    exact q D hD
def hits (R : List Rd) (g : List Int) (j : Nat) : Bool := match R[j]? with
  | some r => decide (r.2.1 ∈ g) && !decide (r.1 ∈ g)
  | none => false
def intoF (R : List Rd) (g : List Int) (i : Nat) : List Int := ((List.range i).filter (hits R g)).map fun (j : Nat) => (j : Int)
theorem intoF_succ (R : List Rd) (g : List Int) (i : Nat) : intoF R g (i + 1) = intoF R g i ++ if hits R g i = true then [(i : Int)] else [] := by
  unfold intoF
  rw [List.range_succ, List.filter_append, List.map_append]
  congr 1
  cases h : hits R g i <;> simp [h]
theorem intoF_length (R : List Rd) (g : List Int) (i : Nat) : (intoF R g i).length ≤ i := by
  unfold intoF
  rw [List.length_map]
  exact Nat.le_trans (List.length_filter_le _ _) (by simp)
theorem sp_into (X : Fx C) (hA : AOk A (n + 1)) {a : Addr} {R : List Rd} {g : List Int} (hR : R.length ≤ 60) (hm : (a, MO.list (R.map rdV)) ∈ H)
    (q : ∀ D, ¬ dom H D → Q (.ref D) ((D, .list ((intoF R g R.length).map .int)) :: H)) : WF C A H "into" [.ref a, .tup (g.map .int)] Q := by
  refine WF.intro X.p_into hA ["roads", "group"] ["found", "number", "road"] ["enumerate"] [] [("roads", some (.ref a)), ("group", some (.tup (g.map .int))), ("found", none), ("number", none), ("road", none)] (by decide +kernel) rfl (by wtm_at "bind") rfl ?_
  intro env hA' K
  refine WSs.cons ?_
  repeat wtm_at "s"
  intro D hD
  repeat wtm_at "s"
  refine WS.for (WI.enum hA' (by wtm_at "mem") X.g_enum ?_)
  repeat wtm_at "s"
  refine ⟨a, _, rfl, by wtm_at "mem", fun (i : Nat) (S : Sg) (H' : Hp) => ∃ o1 o2, S = ([("roads", some (.ref a)), ("group", some (.tup (g.map .int))), ("found", some (.ref D)), ("number", o1), ("road", o2)] : Sg) ∧ H' = (D, .list ((intoF R g i).map .int)) :: H, ⟨none, none, rfl, rfl⟩, ?_, ?_, ?_⟩
  · rintro i S H' ⟨o1, o2, rfl, rfl⟩
    exact List.mem_cons_of_mem _ hm
  · rintro i x S H' hx ⟨o1, o2, rfl, rfl⟩
    obtain ⟨y, hy, rfl⟩ := enumL_get hx
    obtain ⟨r, hr, rfl⟩ := get_map hy
    have hlt : i < R.length := by
      rcases Nat.lt_or_ge i R.length with h | h
      · exact h
      · rw [List.getElem?_eq_none h] at hr; cases hr
    refine WA.tup2 hA' (by wtm_at "put") (by wtm_at "put") ?_
    have hh : hits R g i = (decide (r.2.1 ∈ g) && !decide (r.1 ∈ g)) := by unfold hits; rw [hr]
    repeat wtm_at "s"
    refine W2.inI hA' ?_
    repeat wtm_at "s"
    have len := intoF_length R g i
    by_cases h1 : r.2.1 ∈ g
    · rw [if_pos (by simpa using h1)]
      repeat wtm_at "s"
      refine W2.notInI hA' ?_
      repeat wtm_at "s"
      by_cases h2 : r.1 ∈ g
      · rw [if_neg (by simpa using h2)]
        repeat wtm_at "s"
        refine ⟨_, _, rfl, ?_⟩
        rw [intoF_succ, hh]; simp [h1, h2]
      · rw [if_pos (by simpa using h2)]
        repeat wtm_at "s"
        refine WE.append ?_
        repeat wtm_at "s"
        refine ⟨D, _, rfl, by wtm_at "mem", ?_⟩
        repeat wtm_at "s"
        refine ⟨_, _, by wtm_at "mem", by wtm_at "upd", by simp [sizeLine]; omega, rfl, ?_⟩
        repeat wtm_at "s"
        refine ⟨_, _, rfl, ?_⟩
        rw [intoF_succ, hh]; simp [h1, h2]
    · rw [if_neg (by simpa using h1)]
      repeat wtm_at "s"
      refine ⟨_, _, rfl, ?_⟩
      rw [intoF_succ, hh]; simp [h1]
  · rintro S H' ⟨o1, o2, rfl, rfl⟩
    repeat wtm_at "s"
    refine ⟨_, List.Sublist.refl _, ?_⟩
    rw [enumL_length, List.length_map]
    exact q D hD
def cst (R : List Rd) : MV → Option Int
  | .int i => (R[i.toNat]?).map (·.2.2)
  | _ => none
def Good (R : List Rd) (T : List MV) : Prop := ∀ x ∈ T, x = .none ∨ ∃ (i : Int) (r : Rd), x = .int i ∧ 0 ≤ i ∧ R[i.toNat]? = some r
theorem take_succ {α β : Type} {f : α → Option β} {T : List α} {i : Nat} {x : α} (h : T[i]? = some x) : (T.take (i + 1)).filterMap f = (T.take i).filterMap f ++ (f x).toList := by
  rw [List.take_add_one, h, List.filterMap_append]
  cases e : f x <;> simp [e]
theorem sp_total (X : Fx C) (hA : AOk A (n + 1)) {a t : Addr} {R : List Rd} {T : List MV} (hR : R.length ≤ 60) (hTl : T.length ≤ 20) (ha : (a, MO.list (R.map rdV)) ∈ H) (ht : (t, MO.list T) ∈ H) (hg : Good R T)
    (q : Q (.int (T.filterMap (cst R)).sum) H) : WF C A H "total" [.ref a, .ref t] Q := by
  refine WF.intro X.p_total hA ["roads", "tree"] [] ["sum"] ["roads"] [("roads", some (.ref a)), ("tree", some (.ref t))] (by decide +kernel) rfl (by wtm_at "bind") rfl ?_
  intro env hA' K
  refine WSs.cons (WS.ret ?_)
  refine WE.callB (by wtm_at "mem") X.g_sum ?_
  refine WEs.cons (WE.comp (ys := ["roads"]) [] K (.cons (y := "roads") (by wtm_at "at") (by wtm_at "mem") .nil) (by decide +kernel) (WI.of ?_))
  repeat wtm_at "e"
  refine ItOf.list hA' ht ?_
  refine comp_intro (fun i ys H' => ys = ((T.take i).filterMap (cst R)).map .int ∧ H' = H) (by simp [sizeLine]; omega) ⟨by simp, rfl⟩ ?_ ?_ ?_
  · rintro i ys H' ⟨rfl, rfl⟩
    refine ⟨ht, ?_⟩
    rw [List.length_map]
    exact Nat.le_trans (List.length_filterMap_le _ _) (by simp; omega)
  · rintro i v ys H' cenv hv ⟨rfl, rfl⟩
    refine ct_one ?_
    rcases hg v (List.mem_of_getElem? hv) with rfl | ⟨j, r, rfl, hj, hr⟩
    · repeat wtm_at "e"
      refine W2.isNotNone rfl ?_
      repeat wtm_at "e"
      refine if_f ?_
      refine ⟨?_, rfl⟩
      rw [take_succ hv]; simp [cst]
    · repeat wtm_at "e"
      refine W2.isNotNone rfl ?_
      repeat wtm_at "e"
      refine if_t ?_
      repeat wtm_at "e"
      refine W2.itemM (l := R) (x := r) (by wtm_at "mem") hj hr (by have := get_lt hr; omega) ?_
      repeat wtm_at "e"
      refine ⟨?_, rfl⟩
      rw [take_succ hv]; simp [cst, hr]
  · rintro ys H' ⟨rfl, rfl⟩ D hD
    rw [List.take_length]
    repeat wtm_at "e"
    refine WC.sumL hA' (by wtm_at "mem") ?_
    exact ⟨_, List.sublist_cons_self _ _, q⟩
end
set_option maxRecDepth 100000
set_option maxHeartbeats 4000000
open PySem PySem.W PySem.Calls PyProof.Rows
/-! what can be come to: plain lists -/
/-- each entry is the root or has a road from an entry ahead of it -/
def Chain (R : List Rd) (root : Int) (W : List Int) : Prop := ∀ (i : Nat) (x : Int), W[i]? = some x → x = root ∨ ∃ (j : Nat) (r : Rd), j < i ∧ r ∈ R ∧ W[j]? = some r.1 ∧ r.2.1 = x
def Within (m : Int) (W : List Int) : Prop := ∀ x ∈ W, 0 ≤ x ∧ x < m
theorem Chain.snoc {R : List Rd} {root : Int} {W : List Int} (h : Chain R root W) {r : Rd} {j : Nat} (hr : r ∈ R) (hj : W[j]? = some r.1) : Chain R root (W ++ [r.2.1]) := by
  intro i x hx
  have hjl : j < W.length := get_lt hj
  by_cases hi : i < W.length
  · rw [List.getElem?_append_left hi] at hx
    rcases h i x hx with h1 | ⟨j', r', h1, h2, h3, h4⟩
    · exact .inl h1
    · exact .inr ⟨j', r', h1, h2, by rw [List.getElem?_append_left (by omega)]; exact h3, h4⟩
  · have hil := get_lt hx
    simp at hil
    have : i = W.length := by omega
    subst this
    simp at hx
    exact .inr ⟨j, r, hjl, hr, by rw [List.getElem?_append_left hjl]; exact hj, hx⟩
theorem length_le_of_nodup {α : Type} [DecidableEq α] : ∀ {l k : List α}, l.Nodup → (∀ x ∈ l, x ∈ k) → l.length ≤ k.length
  | [], _, _, _ => Nat.zero_le _
  | a :: l, k, nd, h => by
    have hn := List.nodup_cons.mp nd
    have ha := h a List.mem_cons_self
    have h1 := length_le_of_nodup (k := k.erase a) hn.2 fun x hx => (List.mem_erase_of_ne (fun (e : x = a) => hn.1 (e ▸ hx))).mpr (h x (List.mem_cons_of_mem _ hx))
    rw [List.length_erase_of_mem ha] at h1
    have := List.length_pos_of_mem ha
    rw [List.length_cons]; omega
/-- nodup lists of places are short -/
theorem within_short {m : Int} {W : List Int} (hm : 0 ≤ m) (nd : W.Nodup) (hw : Within m W) : (W.length : Int) ≤ m := by
  have h1 : (W.map Int.toNat).Nodup := by
    refine List.pairwise_map.mpr (List.Pairwise.imp_of_mem (fun {a b} ha hb hab q => hab ?_) nd)
    have := hw a ha; have := hw b hb; omega
  have h2 : ∀ x ∈ W.map Int.toNat, x ∈ List.range m.toNat := fun x hx => by
    obtain ⟨y, hy, rfl⟩ := List.mem_map.mp hx
    have := hw y hy
    exact List.mem_range.mpr (by omega)
  have h3 : (W.map Int.toNat).length ≤ (List.range m.toNat).length := length_le_of_nodup h1 h2
  rw [List.length_map, List.length_range] at h3
  omega
/-- all roads of the first j that begin at u end in W -/
def Shut (R : List Rd) (W : List Int) (u : Int) (j : Nat) : Prop := ∀ (i : Nat) (r : Rd), i < j → R[i]? = some r → r.1 = u → r.2.1 ∈ W
/-- the roads that begin among the first `at` entries end in W -/
def ShutTo (R : List Rd) (W : List Int) (k : Nat) : Prop := ∀ (i : Nat) (u : Int), i < k → W[i]? = some u → Shut R W u R.length
structure Net (m : Int) (R : List Rd) (root : Int) (W : List Int) : Prop where
  nodup : W.Nodup
  within : Within m W
  chain : Chain R root W
  root : W[0]? = some root
theorem Net.snoc {m root : Int} {R : List Rd} {W : List Int} (h : Net m R root W) {r : Rd} {j : Nat} (hr : r ∈ R) (hj : W[j]? = some r.1) (hn : r.2.1 ∉ W) (h0 : 0 ≤ r.2.1) (h1 : r.2.1 < m) : Net m R root (W ++ [r.2.1]) := by
  refine ⟨?_, fun x hx => ?_, h.chain.snoc hr hj, by rw [List.getElem?_append_left (get_lt h.root)]; exact h.root⟩
  · rw [List.nodup_append]
    exact ⟨h.nodup, by simp, fun a ha b hb q => hn (by rw [List.mem_singleton.mp hb] at q; rw [← q]; exact ha)⟩
  · rcases List.mem_append.mp hx with h2 | h2
    · exact h.within x h2
    · rw [List.mem_singleton.mp h2]; exact ⟨h0, h1⟩
theorem Shut.snoc {R : List Rd} {W : List Int} {u : Int} {j : Nat} (h : Shut R W u j) (y : Int) : Shut R (W ++ [y]) u j := fun i r hi hr hu => List.mem_append_left _ (h i r hi hr hu)
theorem ShutTo.snoc {R : List Rd} {W : List Int} {k : Nat} (h : ShutTo R W k) (hk : k ≤ W.length) (y : Int) : ShutTo R (W ++ [y]) k := fun i u hi hu => by
  rw [List.getElem?_append_left (by omega)] at hu
  exact (h i u hi hu).snoc y
/-- what can be come to -/
inductive Rch (R : List Rd) (root : Int) : Int → Prop
  | root : Rch R root root
  | step {r : Rd} : Rch R root r.1 → r ∈ R → Rch R root r.2.1
theorem Net.rch {m root : Int} {R : List Rd} {W : List Int} (h : Net m R root W) : ∀ x ∈ W, Rch R root x := by
  have : ∀ (i : Nat) (x : Int), W[i]? = some x → Rch R root x := by
    intro i
    induction i using Nat.strongRecOn with
    | ind i ih =>
      intro x hx
      rcases h.chain i x hx with rfl | ⟨j, r, h1, h2, h3, h4⟩
      · exact .root
      · rw [← h4]; exact .step (ih j h1 _ h3) h2
  intro x hx
  obtain ⟨i, hi, rfl⟩ := List.mem_iff_getElem.mp hx
  exact this i _ (by simp [hi])
theorem Net.all {m root : Int} {R : List Rd} {W : List Int} (h : Net m R root W) (hs : ShutTo R W W.length) : ∀ x, Rch R root x → x ∈ W := by
  intro x hx
  induction hx with
  | root => exact List.mem_of_getElem? h.root
  | @step r _ hr ih =>
    obtain ⟨i, hi, hw⟩ := List.mem_iff_getElem.mp ih
    obtain ⟨j, hj, hr'⟩ := List.mem_iff_getElem.mp hr
    exact hs i r.1 hi (by simp [hi, hw]) j r hj (by simp [hj, hr']) rfl
/-- rising lists with the same numbers are the same -/
theorem rising_eq : ∀ {l k : List Int}, l.Pairwise (· < ·) → k.Pairwise (· < ·) → (∀ x, x ∈ l ↔ x ∈ k) → l = k
  | [], [], _, _, _ => rfl
  | [], b :: k, _, _, h => absurd ((h b).mpr List.mem_cons_self) (by simp)
  | a :: l, [], _, _, h => absurd ((h a).mp List.mem_cons_self) (by simp)
  | a :: l, b :: k, h1, h2, h => by
    have p1 := List.pairwise_cons.mp h1
    have p2 := List.pairwise_cons.mp h2
    have hab : a = b := by
      have ha := (h a).mp List.mem_cons_self
      have hb := (h b).mpr List.mem_cons_self
      rcases List.mem_cons.mp ha with e | ha
      · exact e
      · rcases List.mem_cons.mp hb with e | hb
        · exact e.symm
        · have := p1.1 b hb; have := p2.1 a ha; omega
    subst hab
    refine congrArg _ (rising_eq p1.2 p2.2 fun x => ⟨fun hx => ?_, fun hx => ?_⟩)
    · rcases List.mem_cons.mp ((h x).mp (List.mem_cons_of_mem _ hx)) with e | h'
      · have := p1.1 x hx; omega
      · exact h'
    · rcases List.mem_cons.mp ((h x).mpr (List.mem_cons_of_mem _ hx)) with e | h'
      · have := p2.1 x hx; omega
      · exact h'
theorem rising_of {l k : List Int} (hp : l.Perm k) (nd : k.Nodup) (hs : l.Pairwise (· ≤ ·)) : l.Pairwise (· < ·) := by
  have nl : l.Nodup := hp.nodup_iff.mpr nd
  refine List.Pairwise.imp₂ (fun a b h1 h2 => ?_) hs nl
  exact Int.lt_iff_le_and_ne.mpr ⟨h1, h2⟩
/-- the places 0, 1, .. of a test -/
def places (m : Int) (p : Int → Bool) : List Int := ((List.range m.toNat).map fun (i : Nat) => (i : Int)).filter p
theorem places_rising (m : Int) (p : Int → Bool) : (places m p).Pairwise (· < ·) := by
  unfold places
  refine List.Pairwise.filter _ (List.pairwise_map.mpr (List.Pairwise.imp (fun h => ?_) List.pairwise_lt_range))
  omega
theorem places_mem {m : Int} {p : Int → Bool} {x : Int} : x ∈ places m p ↔ (0 ≤ x ∧ x < m) ∧ p x = true := by
  unfold places
  rw [List.mem_filter, List.mem_map]
  refine and_congr_left fun _ => ⟨?_, fun h => ⟨x.toNat, List.mem_range.mpr (by omega), by omega⟩⟩
  rintro ⟨i, hi, rfl⟩
  have := List.mem_range.mp hi
  omega
def placesTo (p : Int → Bool) (i : Nat) : List Int := ((List.range i).map fun (j : Nat) => (j : Int)).filter p
theorem placesTo_succ (p : Int → Bool) (i : Nat) : placesTo p (i + 1) = placesTo p i ++ if p (i : Int) = true then [(i : Int)] else [] := by
  unfold placesTo
  rw [List.range_succ, List.map_append, List.filter_append]
  congr 1
  cases h : p (i : Int) <;> simp [h]
theorem placesTo_length (p : Int → Bool) (i : Nat) : (placesTo p i).length ≤ i := by
  unfold placesTo
  exact Nat.le_trans (List.length_filter_le _ _) (by simp)
section
variable {C : Cx} {A : Around} {H : Hp} {n : Nat} {Q : MV → Hp → Prop}
abbrev tru (W : List Int) : List (Int × MV) := W.map fun k => (k, MV.bool true)
theorem tru_fst (W : List Int) : (tru W).map (·.1) = W := by induction W with
  | nil => rfl
  | cons a W ih => simp only [tru, List.map_cons, List.map_map] at ih ⊢; rw [ih]
theorem putK_tru {W : List Int} {k : Int} (h : k ∉ W) : putK (tru W) k (.bool true) = tru (W ++ [k]) := by
  rw [putK_new _ (by rw [tru_fst]; exact h)]; simp
theorem sp_from (X : Fx C) (hA : AOk A (n + 1)) {a : Addr} {m root : Int} {R : List Rd} (hm : 1 ≤ m ∧ m ≤ 12) (hroot : 0 ≤ root ∧ root < m) (hR : R.length ≤ 60) (hok : ∀ r ∈ R, RdOk m r) (hmem : (a, MO.list (R.map rdV)) ∈ H)
    (q : ∀ (D : Addr) (W : List Int), ¬ dom H D → Net m R root W → ShutTo R W W.length → Q (.ref D) ((D, .dict (ik (tru W))) :: H)) : WF C A H "from_there" [.ref a, .int root] Q := by
  refine WF.intro X.p_from_there hA ["roads", "root"] ["met", "waiting", "at", "road"] ["len"] [] [("roads", some (.ref a)), ("root", some (.int root)), ("met", none), ("waiting", none), ("at", none), ("road", none)] (by decide +kernel) rfl (by wtm_at "bind") rfl ?_
  intro env hA' K
  refine WSs.cons ?_
  repeat wtm_at "s"
  refine WE.dict0 fun D hD => ?_
  repeat wtm_at "s"
  refine WS.setItem ?_
  repeat wtm_at "s"
  refine W3.setK (kvs := tru []) (by exact List.mem_cons_self) (by simp) (by simp) (by wtm_at "upd") ?_
  rw [putK_tru (by simp)]
  repeat wtm_at "s"
  intro E hE
  repeat wtm_at "s"
  have net0 : Net m R root [root] := ⟨by simp, fun x hx => by rw [List.mem_singleton.mp hx]; exact hroot, fun i x hx => .inl (by have := get_lt hx; simp at this; subst this; simpa using hx.symm), rfl⟩
  have hDa : a ≠ D := fun e => hD (e ▸ List.mem_map_of_mem (f := (·.1)) hmem)
  refine WS.while4 (fun (W : List Int) (t : Nat) (o : Option MV) (_ : Unit) => [("roads", some (.ref a)), ("root", some (.int root)), ("met", some (.ref D)), ("waiting", some (.ref E)), ("at", some (.int (t : Int))), ("road", o)]) (fun W t o _ => (E, .list (W.map .int)) :: (D, .dict (ik (tru W))) :: H) (fun W t o _ => 20 - t) (fun W t o _ => Net m R root W ∧ t ≤ W.length ∧ ShutTo R W t) [root] 0 none () rfl rfl ⟨net0, by simp, fun i u hi => by omega⟩ ?_
  intro K' W t o _ hK hP
  refine and3 hP fun net ht hs => ?_
  clear hP
  have hWl := within_short (by omega) net.nodup net.within
  repeat wtm_at "s"
  refine if_d (fun hlt => ?_) (fun hge => ?_)
  · have htl : t < W.length := by omega
    obtain ⟨u, hu⟩ : ∃ u, W[t]? = some u := ⟨W[t], by simp [htl]⟩
    refine WSs.cons ?_
    refine WS.for (WI.of ?_)
    repeat wtm_at "e"
    refine ItOf.list hA' (by wtm_at "mem") ?_
    refine for_list3 (fun (W' : List Int) (o : Option MV) (_ : Unit) => [("roads", some (.ref a)), ("root", some (.int root)), ("met", some (.ref D)), ("waiting", some (.ref E)), ("at", some (.int (t : Int))), ("road", o)]) (fun W' o _ => (E, .list (W'.map .int)) :: (D, .dict (ik (tru W'))) :: H) (fun j W' o _ => Net m R root W' ∧ t < W'.length ∧ W'[t]? = some u ∧ ShutTo R W' t ∧ Shut R W' u j) W o () rfl rfl ⟨net, htl, hu, hs, fun i r hi => by omega⟩ ?_ ?_ ?_
    · intro j W' o _ _
      wtm_at "mem"
    · intro J Z hJ hZ j r W' o _ hr hP
      refine and5 hP fun net' htl' hu' hs' hsh => ?_
      clear hP
      have hrm := List.mem_of_getElem? hr
      have hro := hok r hrm
      have hWl' := within_short (by omega) net'.nodup net'.within
      refine WA.name (by wtm_at "put") ?_
      repeat wtm_at "s"
      refine W2.itemM (l := W') (x := u) (by wtm_at "mem") (by omega) (by simpa using hu') (by omega) ?_
      repeat wtm_at "s"
      have nxt : ∀ W'', Shut R W'' u j → (r.1 = u → r.2.1 ∈ W'') → Shut R W'' u (j + 1) := fun W'' h1 h2 i r' hi hr' hu => by
        by_cases hij : i < j
        · exact h1 i r' hij hr' hu
        · have : i = j := by omega
          subst this
          rw [hr] at hr'; cases hr'
          exact h2 hu
      refine if_eq (fun h1 => ?_) (fun h1 => ?_)
      · repeat wtm_at "s"
        refine W2.notInK (kvs := tru W') (by wtm_at "mem") (by rw [tru_fst]; exact net'.nodup) ?_
        rw [tru_fst]
        repeat wtm_at "s"
        refine if_nd (fun h2 => ?_) (fun h2 => ?_)
        · repeat wtm_at "s"
          refine WS.setItem ?_
          repeat wtm_at "s"
          refine W3.setK (kvs := tru W') (by wtm_at "mem") (by rw [tru_fst]; exact net'.nodup) (by simp [sizeLine]; omega) (by wtm_at "upd") ?_
          rw [putK_tru h2]
          repeat wtm_at "s"
          refine WE.append ?_
          repeat wtm_at "s"
          refine ⟨E, _, rfl, by wtm_at "mem", ?_⟩
          repeat wtm_at "s"
          refine ⟨_, _, by wtm_at "mem", by wtm_at "upd", by simp [sizeLine]; omega, rfl, ?_⟩
          repeat wtm_at "s"
          refine (by simpa using hJ (j + 1) (W' ++ [r.2.1]) (some (rdV r)) () ⟨net'.snoc (j := t) hrm (by rw [h1]; exact hu') h2 hro.2.2.1 hro.2.2.2.1, by simp; omega, by rw [List.getElem?_append_left htl']; exact hu', hs'.snoc (by omega) _, nxt _ (hsh.snoc _) fun _ => by simp⟩)
        · repeat wtm_at "s"
          exact hJ _ W' _ () ⟨net', htl', hu', hs', nxt _ hsh fun _ => h2⟩
      · repeat wtm_at "s"
        exact hJ _ W' _ () ⟨net', htl', hu', hs', nxt _ hsh fun h => absurd h h1⟩
    · intro W' o _ hP
      refine and5 hP fun net' htl' hu' hs' hsh => ?_
      clear hP
      have hWl' := within_short (by omega) net'.nodup net'.within
      repeat wtm_at "s"
      refine hK W' (t + 1) _ () (by omega) ⟨net', by omega, fun i v hi hv => ?_⟩
      by_cases hit : i < t
      · exact hs' i v hit hv
      · have : i = t := by omega
        subst this
        rw [hu'] at hv; cases hv
        exact hsh
  · have : t = W.length := by omega
    subst this
    repeat wtm_at "s"
    refine ⟨_, .cons _ (.refl _), q D W hD net hs⟩

/-- the rising list of what can be come to -/
theorem sp_reached (X : Fx C) (hA : AOk A (n + 5)) {a : Addr} {m root : Int} {R : List Rd} (hm : 1 ≤ m ∧ m ≤ 12) (hroot : 0 ≤ root ∧ root < m) (hR : R.length ≤ 60) (hok : ∀ r ∈ R, RdOk m r) (hmem : (a, MO.list (R.map rdV)) ∈ H)
    (q : ∀ (D : Addr) (W W' : List Int), ¬ dom H D → Net m R root W → ShutTo R W W.length → W'.Perm W → W'.Pairwise (· < ·) → Q (.ref D) ((D, .list (W'.map .int)) :: H)) : WF C A H "reached" [.int m, .ref a, .int root] Q := by
  refine WF.intro X.p_reached hA ["many", "roads", "root"] [] ["checked", "need_place", "sorted", "list", "from_there"] [] [("many", some (.int m)), ("roads", some (.ref a)), ("root", some (.int root))] (by decide +kernel) rfl (by wtm_at "bind") rfl ?_
  intro env hA' K
  refine WSs.cons ?_
  repeat wtm_at "s"
  refine WE.callF (by wtm_at "mem") X.p_checked ?_
  repeat wtm_at "s"
  refine sp_checked X hA' hm hR hok hmem ?_
  repeat wtm_at "s"
  refine WE.callF (by wtm_at "mem") X.p_need_place ?_
  repeat wtm_at "s"
  refine sp_need X (hA'.le (by omega : n + 3 ≤ n + 4)) hroot.1 hroot.2 ?_
  repeat wtm_at "s"
  refine WE.callB (by wtm_at "mem") X.g_sorted ?_
  repeat wtm_at "s"
  refine WE.callT (by wtm_at "mem") X.g_list ?_
  repeat wtm_at "s"
  refine WE.callF (by wtm_at "mem") X.p_from_there ?_
  repeat wtm_at "s"
  refine sp_from X (hA'.le (by omega : n + 1 ≤ n + 4)) hm hroot hR hok hmem fun D W hD net hs => ?_
  have hWl := within_short (by omega) net.nodup net.within
  repeat wtm_at "s"
  refine WC.listK (kvs := tru W) hA' (by wtm_at "mem") (by rw [tru_fst]; exact net.nodup) (by simp [sizeLine]; omega) fun E hE => ?_
  rw [tru_fst]
  repeat wtm_at "s"
  refine WC.sortedL (by wtm_at "mem") (by omega) fun F W' hF hp hw => ?_
  refine ⟨_, .cons_cons _ (.cons _ (.cons _ (.refl _))), q F W W' (fun d => hF ?_) net hs hp (rising_of hp net.nodup hw)⟩
  simp only [dom, List.map_cons, List.mem_cons]; exact .inr (.inr d)
theorem sp_cut (X : Fx C) (hA : AOk A (n + 6)) {a : Addr} {m root : Int} {R : List Rd} (hm : 1 ≤ m ∧ m ≤ 12) (hroot : 0 ≤ root ∧ root < m) (hR : R.length ≤ 60) (hok : ∀ r ∈ R, RdOk m r) (hmem : (a, MO.list (R.map rdV)) ∈ H)
    (q : ∀ (D : Addr) (W : List Int), ¬ dom H D → Net m R root W → ShutTo R W W.length → Q (.ref D) ((D, .list ((places m fun x => !decide (x ∈ W)).map .int)) :: H)) : WF C A H "cut_off" [.int m, .ref a, .int root] Q := by
  refine WF.intro X.p_cut_off hA ["many", "roads", "root"] ["met"] ["reached", "range"] ["met"] [("many", some (.int m)), ("roads", some (.ref a)), ("root", some (.int root)), ("met", none)] (by decide +kernel) rfl (by wtm_at "bind") rfl ?_
  intro env hA' K
  refine WSs.cons ?_
  repeat wtm_at "s"
  refine WE.callF (by wtm_at "mem") X.p_reached ?_
  repeat wtm_at "s"
  refine sp_reached X hA' hm hroot hR hok hmem fun D W W' hD net hs hp hw => ?_
  repeat wtm_at "s"
  refine WE.comp (ys := ["met"]) [] K (.cons (y := "met") (by wtm_at "at") (by wtm_at "mem") .nil) (by decide +kernel) (WI.of ?_)
  refine WE.callT (by wtm_at "mem") X.g_range ?_
  repeat wtm_at "e"
  refine WC.range1 ?_
  refine ItOf.range hA' (by decide) (by decide) (by omega) (by omega) ?_
  have hlen : (rangeL 0 m).length = m.toNat := by rw [rangeL_length]; congr 1; omega
  refine comp_intro (fun i ys H' => ys = (placesTo (fun x => !decide (x ∈ W)) i).map .int ∧ H' = (D, .list (W'.map .int)) :: H) (by rw [hlen]; simp [sizeLine]; omega) ⟨rfl, rfl⟩ ?_ ?_ ?_
  · rintro i ys H' ⟨rfl, rfl⟩
    exact ⟨trivial, by rw [List.length_map]; exact placesTo_length _ _⟩
  · rintro i v ys H' cenv hv ⟨rfl, rfl⟩
    obtain ⟨rfl, hlt⟩ := rangeL_get hv
    rw [Int.zero_add]
    refine ct_one ?_
    repeat wtm_at "e"
    refine W2.notInIL hA' (g := W') (by wtm_at "mem") ?_
    repeat wtm_at "e"
    have hmm : ((i : Int) ∈ W') ↔ ((i : Int) ∈ W) := hp.mem_iff
    refine if_nd (fun h => ?_) (fun h => ?_)
    · repeat wtm_at "e"
      refine ⟨?_, rfl⟩
      rw [placesTo_succ, if_pos (by simpa [hmm] using h)]; simp
    · refine ⟨?_, rfl⟩
      rw [placesTo_succ, if_neg (by simpa [hmm] using h)]; simp
  · rintro ys H' ⟨rfl, rfl⟩ E hE
    refine ⟨_, .cons_cons _ (.cons _ (.refl _)), ?_⟩
    rw [hlen]
    exact q E W (fun d => hE (by simp only [dom, List.map_cons, List.mem_cons]; exact .inr d)) net hs
end
set_option maxRecDepth 100000
set_option maxHeartbeats 4000000
open PySem PySem.W PySem.Calls PyProof.Rows
section
variable {C : Cx} {A : Around} {H : Hp} {n : Nat} {Q : MV → Hp → Prop}
/-! what leads to a place by roads that cost no more -/
def Closed (R : List Rd) (L : List Int) (T : Int → Prop) : Prop := ∀ (j : Nat) (r : Rd), R[j]? = some r → L[j]? = some 0 → T r.2.1 → T r.1
structure Bk (m : Int) (R : List Rd) (L : List Int) (p : Int) (W : List Int) : Prop where
  nodup : W.Nodup
  within : Within m W
  self : p ∈ W
  least : ∀ T : Int → Prop, T p → Closed R L T → ∀ x ∈ W, T x
def ShutZ (R : List Rd) (L : List Int) (W : List Int) (u : Int) (j : Nat) : Prop := ∀ (i : Nat) (r : Rd), i < j → R[i]? = some r → L[i]? = some 0 → r.2.1 = u → r.1 ∈ W
def ShutZTo (R : List Rd) (L : List Int) (W : List Int) (k : Nat) : Prop := ∀ (i : Nat) (u : Int), i < k → W[i]? = some u → ShutZ R L W u R.length
structure Lead (m : Int) (R : List Rd) (L : List Int) (p : Int) (W : List Int) : Prop where
  rising : W.Pairwise (· < ·)
  within : Within m W
  self : p ∈ W
  closed : Closed R L (· ∈ W)
  least : ∀ T : Int → Prop, T p → Closed R L T → ∀ x ∈ W, T x
section
variable {m p : Int} {R : List Rd} {L W : List Int}
theorem Bk.snoc (h : Bk m R L p W) {r : Rd} {j : Nat} (hr : R[j]? = some r) (hl : L[j]? = some 0) (hu : r.2.1 ∈ W) (hn : r.1 ∉ W) (h0 : 0 ≤ r.1) (h1 : r.1 < m) : Bk m R L p (W ++ [r.1]) := by
  refine ⟨?_, fun x hx => ?_, List.mem_append_left _ h.self, fun T hp hT x hx => ?_⟩
  · rw [List.nodup_append]
    exact ⟨h.nodup, by simp, fun a ha b hb q => hn (by rw [List.mem_singleton.mp hb] at q; rw [← q]; exact ha)⟩
  · rcases List.mem_append.mp hx with h2 | h2
    · exact h.within x h2
    · rw [List.mem_singleton.mp h2]; exact ⟨h0, h1⟩
  · rcases List.mem_append.mp hx with h2 | h2
    · exact h.least T hp hT x h2
    · rw [List.mem_singleton.mp h2]; exact hT j r hr hl (h.least T hp hT _ hu)
theorem ShutZ.snoc {u : Int} {j : Nat} (h : ShutZ R L W u j) (y : Int) : ShutZ R L (W ++ [y]) u j := fun i r hi hr hl hu => List.mem_append_left _ (h i r hi hr hl hu)
theorem ShutZTo.snoc {k : Nat} (h : ShutZTo R L W k) (hk : k ≤ W.length) (y : Int) : ShutZTo R L (W ++ [y]) k := fun i u hi hu => by
  rw [List.getElem?_append_left (by omega)] at hu
  exact (h i u hi hu).snoc y
theorem Bk.lead {W' : List Int} (h : Bk m R L p W) (hs : ShutZTo R L W W.length) (hp : W'.Perm W) (hr : W'.Pairwise (· < ·)) : Lead m R L p W' := by
  refine ⟨hr, fun x hx => h.within x (hp.mem_iff.mp hx), hp.mem_iff.mpr h.self, fun j r hj hl hu => ?_, fun T h1 h2 x hx => h.least T h1 h2 x (hp.mem_iff.mp hx)⟩
  obtain ⟨i, hi⟩ := List.mem_iff_getElem?.mp (hp.mem_iff.mp hu)
  exact hp.mem_iff.mpr (hs i _ (get_lt hi) hi j r (get_lt hj) hj hl rfl)
end
theorem sp_leads (X : Fx C) (hA : AOk A (n + 1)) {a l : Addr} {m p : Int} {R : List Rd} {L : List Int} (hm : 1 ≤ m ∧ m ≤ 12) (hp : 0 ≤ p ∧ p < m) (hR : R.length ≤ 60) (hok : ∀ r ∈ R, RdOk m r) (hL : L.length = R.length) (ha : (a, MO.list (R.map rdV)) ∈ H) (hl : (l, MO.list (L.map .int)) ∈ H)
    (q : ∀ W, Lead m R L p W → Q (.tup (W.map .int)) H) : WF C A H "leads_to" [.ref a, .ref l, .int p] Q := by
  refine WF.intro X.p_leads_to hA ["roads", "left", "place"] ["met", "waiting", "at", "number", "road"] ["len", "enumerate", "tuple", "sorted", "list"] [] [("roads", some (.ref a)), ("left", some (.ref l)), ("place", some (.int p)), ("met", none), ("waiting", none), ("at", none), ("number", none), ("road", none)] (by decide +kernel) rfl (by wtm_at "bind") rfl ?_
  intro env hA' K
  refine WSs.cons ?_
  repeat wtm_at "s"
  refine WE.dict0 fun D hD => ?_
  repeat wtm_at "s"
  refine WS.setItem ?_
  repeat wtm_at "s"
  refine W3.setK (kvs := tru []) (by exact List.mem_cons_self) (by simp) (by simp) (by wtm_at "upd") ?_
  rw [putK_tru (by simp)]
  repeat wtm_at "s"
  intro E hE
  repeat wtm_at "s"
  have bk0 : Bk m R L p [p] := ⟨by simp, fun x hx => by rw [List.mem_singleton.mp hx]; exact hp, by simp, fun T h1 _ x hx => by rw [List.mem_singleton.mp hx]; exact h1⟩
  refine WS.while4 (fun (W : List Int) (t : Nat) (o1 o2 : Option MV) => [("roads", some (.ref a)), ("left", some (.ref l)), ("place", some (.int p)), ("met", some (.ref D)), ("waiting", some (.ref E)), ("at", some (.int (t : Int))), ("number", o1), ("road", o2)]) (fun W t o1 o2 => (E, .list (W.map .int)) :: (D, .dict (ik (tru W))) :: H) (fun W t o1 o2 => 20 - t) (fun W t o1 o2 => Bk m R L p W ∧ t ≤ W.length ∧ ShutZTo R L W t) [p] 0 none none rfl rfl ⟨bk0, by simp, fun i u hi => by omega⟩ ?_
  intro K' W t o1 o2 hK hP
  refine and3 hP fun bk ht hs => ?_
  clear hP
  have hWl := within_short (by omega) bk.nodup bk.within
  repeat wtm_at "s"
  refine if_d (fun hlt => ?_) (fun hge => ?_)
  · have htl : t < W.length := by omega
    obtain ⟨u, hu⟩ : ∃ u, W[t]? = some u := ⟨W[t], by simp [htl]⟩
    refine WSs.cons ?_
    refine WS.for (WI.enum hA' (by wtm_at "mem") X.g_enum ?_)
    repeat wtm_at "s"
    refine ⟨a, _, rfl, by wtm_at "mem", for_enum3 (fun (W' : List Int) (o1 o2 : Option MV) => [("roads", some (.ref a)), ("left", some (.ref l)), ("place", some (.int p)), ("met", some (.ref D)), ("waiting", some (.ref E)), ("at", some (.int (t : Int))), ("number", o1), ("road", o2)]) (fun W' o1 o2 => (E, .list (W'.map .int)) :: (D, .dict (ik (tru W'))) :: H) (fun j W' o1 o2 => Bk m R L p W' ∧ t < W'.length ∧ W'[t]? = some u ∧ ShutZTo R L W' t ∧ ShutZ R L W' u j) W o1 o2 rfl rfl ⟨bk, htl, hu, hs, fun i r hi => by omega⟩ ?_ ?_ ?_⟩
    · intro j W' o1 o2 _
      wtm_at "mem"
    · intro J Z hJ hZ j r W' o1 o2 hr hP
      refine and5 hP fun bk' htl' hu' hs' hsh => ?_
      clear hP
      have hjl := get_lt hr
      have hro := hok r (List.mem_of_getElem? hr)
      have hWl' := within_short (by omega) bk'.nodup bk'.within
      obtain ⟨z, hz⟩ : ∃ z, L[j]? = some z := ⟨L[j]'(by omega), by simp⟩
      have nxt : ∀ W'', ShutZ R L W'' u j → (z = 0 → r.2.1 = u → r.1 ∈ W'') → ShutZ R L W'' u (j + 1) := fun W'' h1 h2 i r' hi hr' hl' hu => by
        by_cases hij : i < j
        · exact h1 i r' hij hr' hl' hu
        · have : i = j := by omega
          subst this
          rw [hr] at hr'; cases hr'
          rw [hz] at hl'; cases hl'
          exact h2 rfl hu
      refine WA.tup2 hA' (by wtm_at "put") (by wtm_at "put") ?_
      repeat wtm_at "s"
      refine W2.itemM (l := L) (x := z) (by wtm_at "mem") (by omega) (by simpa using hz) (by omega) ?_
      repeat wtm_at "s"
      refine if_eq (fun h0 => ?_) (fun h0 => ?_)
      · subst h0
        repeat wtm_at "s"
        refine W2.itemM (l := W') (x := u) (by wtm_at "mem") (by omega) (by simpa using hu') (by omega) ?_
        repeat wtm_at "s"
        refine if_eq (fun h1 => ?_) (fun h1 => ?_)
        · repeat wtm_at "s"
          refine W2.notInK (kvs := tru W') (by wtm_at "mem") (by rw [tru_fst]; exact bk'.nodup) ?_
          rw [tru_fst]
          repeat wtm_at "s"
          refine if_nd (fun h2 => ?_) (fun h2 => ?_)
          · repeat wtm_at "s"
            refine WS.setItem ?_
            repeat wtm_at "s"
            refine W3.setK (kvs := tru W') (by wtm_at "mem") (by rw [tru_fst]; exact bk'.nodup) (by simp [sizeLine]; omega) (by wtm_at "upd") ?_
            rw [putK_tru h2]
            repeat wtm_at "s"
            refine WE.append ?_
            repeat wtm_at "s"
            refine ⟨E, _, rfl, by wtm_at "mem", ?_⟩
            repeat wtm_at "s"
            refine ⟨_, _, by wtm_at "mem", by wtm_at "upd", by simp [sizeLine]; omega, rfl, ?_⟩
            repeat wtm_at "s"
            refine (by simpa using hJ (j + 1) (W' ++ [r.1]) (some (.int (j : Int))) (some (rdV r)) ⟨bk'.snoc hr hz (by rw [h1]; exact List.mem_of_getElem? hu') h2 hro.1 hro.2.1, by simp; omega, by rw [List.getElem?_append_left htl']; exact hu', hs'.snoc (by omega) _, nxt _ (hsh.snoc _) fun _ _ => by simp⟩)
          · repeat wtm_at "s"
            exact hJ _ W' _ _ ⟨bk', htl', hu', hs', nxt _ hsh fun _ _ => h2⟩
        · repeat wtm_at "s"
          exact hJ _ W' _ _ ⟨bk', htl', hu', hs', nxt _ hsh fun _ h => absurd h h1⟩
      · repeat wtm_at "s"
        exact hJ _ W' _ _ ⟨bk', htl', hu', hs', nxt _ hsh fun h => absurd h h0⟩
    · intro W' o1 o2 hP
      refine and5 hP fun bk' htl' hu' hs' hsh => ?_
      clear hP
      have hWl' := within_short (by omega) bk'.nodup bk'.within
      repeat wtm_at "s"
      refine hK W' (t + 1) _ _ (by omega) ⟨bk', by omega, fun i v hi hv => ?_⟩
      by_cases hit : i < t
      · exact hs' i v hit hv
      · have : i = t := by omega
        subst this
        rw [hu'] at hv; cases hv
        exact hsh
  · have : t = W.length := by omega
    subst this
    repeat wtm_at "s"
    refine WE.callT (by wtm_at "mem") X.g_tuple ?_
    refine WEs.cons (WE.callB (by wtm_at "mem") X.g_sorted ?_)
    refine WEs.cons (WE.callT (by wtm_at "mem") X.g_list ?_)
    repeat wtm_at "s"
    refine WC.listK (kvs := tru W) hA' (by wtm_at "mem") (by rw [tru_fst]; exact bk.nodup) (by simp [sizeLine]; omega) fun E2 hE2 => ?_
    rw [tru_fst]
    repeat wtm_at "s"
    refine WC.sortedL (by wtm_at "mem") (by omega) fun F W' hF hpm hw => ?_
    have hWl2 : W'.length = W.length := hpm.length_eq
    repeat wtm_at "s"
    refine WC.tupL (xs := W'.map .int) (by wtm_at "mem") (by simp [sizeLine]; omega) ?_
    exact ⟨_, .cons _ (.cons _ (.cons _ (.cons _ (.refl _)))), q W' (bk.lead hs hpm (rising_of hpm bk.nodup hw))⟩


/-! lone -/
def bestV : Option (List Int) → MV
  | none => .none
  | some g => .tup (g.map .int)
/-- the smallest set that leads to one of the first i places and leaves the root out -/
def LoneTo (m root : Int) (R : List Rd) (L : List Int) (i : Int) (b : Option (List Int)) : Prop :=
  (∀ p, 0 ≤ p → p < i → ∃ W, Lead m R L p W ∧ (root ∉ W → ∃ g, b = some g ∧ g.length ≤ W.length)) ∧ ∀ g, b = some g → root ∉ g ∧ ∃ p, 0 ≤ p ∧ p < m ∧ Lead m R L p g
theorem sp_lone (X : Fx C) (hA : AOk A (n + 2)) {a l : Addr} {m root : Int} {R : List Rd} {L : List Int} (hm : 1 ≤ m ∧ m ≤ 12) (hR : R.length ≤ 60) (hok : ∀ r ∈ R, RdOk m r) (hL : L.length = R.length) (ha : (a, MO.list (R.map rdV)) ∈ H) (hl : (l, MO.list (L.map .int)) ∈ H)
    (q : ∀ b, LoneTo m root R L m b → Q (bestV b) H) : WF C A H "lone" [.int m, .ref a, .int root, .ref l] Q := by
  refine WF.intro X.p_lone hA ["many", "roads", "root", "left"] ["best", "place", "group"] ["range", "leads_to", "len"] [] [("many", some (.int m)), ("roads", some (.ref a)), ("root", some (.int root)), ("left", some (.ref l)), ("best", none), ("place", none), ("group", none)] (by decide +kernel) rfl (by wtm_at "bind") rfl ?_
  intro env hA' K
  refine WSs.cons ?_
  repeat wtm_at "s"
  refine WS.for (WI.of ?_)
  refine WE.callT (by wtm_at "mem") X.g_range ?_
  repeat wtm_at "e"
  refine WC.range1 ?_
  refine ItOf.range hA' (by decide) (by decide) (by omega) (by omega) ?_
  refine for_intro (fun (i : Nat) (S : Sg) (H' : Hp) => ∃ (o1 o2 : Option MV) (b : Option (List Int)), S = ([("many", some (.int m)), ("roads", some (.ref a)), ("root", some (.int root)), ("left", some (.ref l)), ("best", some (bestV b)), ("place", o1), ("group", o2)] : Sg) ∧ H' = H ∧ LoneTo m root R L (i : Int) b) ⟨_, _, none, rfl, rfl, fun p h0 h1 => by omega, fun g h => nomatch h⟩ (fun _ _ _ _ => trivial) ?_ ?_
  · rintro i x S H' hx ⟨o1, o2, b, rfl, rfl, hI⟩
    obtain ⟨rfl, hlt⟩ := rangeL_get hx
    rw [Int.zero_add] at hlt ⊢
    refine WA.name (by wtm_at "put") ?_
    repeat wtm_at "s"
    refine WE.callF (by wtm_at "mem") X.p_leads_to ?_
    repeat wtm_at "s"
    refine sp_leads X hA' (p := (i : Int)) hm (by omega) hR hok hL ha hl fun W hW => ?_
    have hWl := within_short (by omega) (hW.rising.imp fun h e => absurd h (by omega)) hW.within
    repeat wtm_at "s"
    refine W2.notInI hA' ?_
    repeat wtm_at "s"
    have keep : (root ∉ W → ∃ g, b = some g ∧ g.length ≤ W.length) → LoneTo m root R L ((i + 1 : Nat) : Int) b := fun h => ⟨fun p h0 h1 => by
      rcases (by omega : p = (i : Int) ∨ p < i) with rfl | hp
      · exact ⟨W, hW, h⟩
      · exact hI.1 p h0 hp, hI.2⟩
    have take : root ∉ W → (∀ g, b = some g → W.length ≤ g.length) → LoneTo m root R L ((i + 1 : Nat) : Int) (some W) := fun hr h => ⟨fun p h0 h1 => by
      rcases (by omega : p = (i : Int) ∨ p < i) with rfl | hp
      · exact ⟨W, hW, fun _ => ⟨W, rfl, Nat.le_refl _⟩⟩
      · obtain ⟨W2, hW2, h2⟩ := hI.1 p h0 hp
        refine ⟨W2, hW2, fun h3 => ⟨W, rfl, ?_⟩⟩
        obtain ⟨g, hg, hgl⟩ := h2 h3
        exact Nat.le_trans (h g hg) hgl, fun g hg => by cases hg; exact ⟨hr, _, by omega, hlt, hW⟩⟩
    refine if_nd (fun h1 => ?_) (fun h1 => ?_)
    · cases b with
      | none =>
        repeat wtm_at "s"
        refine W2.isNone rfl ?_
        repeat wtm_at "s"
        refine if_t ?_
        repeat wtm_at "s"
        exact ⟨_, _, some W, rfl, rfl, take h1 fun g h => nomatch h⟩
      | some g =>
        have hgl : g.length ≤ 12 := by
          obtain ⟨_, p, h0, h1, hg⟩ := hI.2 g rfl
          have := within_short (by omega) (hg.rising.imp fun h e => absurd h (by omega)) hg.within
          omega
        repeat wtm_at "s"
        refine W2.isNone rfl ?_
        repeat wtm_at "s"
        refine if_f ?_
        repeat wtm_at "s"
        unfold bestV
        repeat wtm_at "s"
        refine if_d (fun h2 => ?_) (fun h2 => ?_)
        · rw [List.length_map, List.length_map] at h2
          repeat wtm_at "s"
          exact ⟨_, _, some W, rfl, rfl, take h1 fun g' h => by cases h; omega⟩
        · rw [List.length_map, List.length_map] at h2
          repeat wtm_at "s"
          exact ⟨_, _, some g, rfl, rfl, keep fun _ => ⟨g, rfl, by omega⟩⟩
    · repeat wtm_at "s"
      exact ⟨_, _, b, rfl, rfl, keep fun h => absurd h1 h⟩
  · rintro S H' ⟨o1, o2, b, rfl, rfl, hI⟩
    rw [rangeL_length] at hI
    repeat wtm_at "s"
    refine ⟨_, List.Sublist.refl _, q b ?_⟩
    rw [show (((m - 0).toNat : Nat) : Int) = m by omega] at hI
    exact hI
end
set_option maxRecDepth 100000
set_option maxHeartbeats 4000000
open PySem PySem.W PySem.Calls PyProof.Rows
section
variable {C : Cx} {A : Around} {H : Hp} {n : Nat} {Q : MV → Hp → Prop}
/-! prices, plain -/
def lefts (R : List Rd) (P : List Pr) : List Int := R.map fun r => leftF r P P.length
theorem lefts_eq (R : List Rd) (P : List Pr) : leftsF R P R.length = lefts R P := by unfold leftsF lefts; rw [List.take_length]
abbrev Enters (r : Rd) (g : List Int) : Prop := r.2.1 ∈ g ∧ ¬ r.1 ∈ g
theorem left_snoc (r : Rd) (P : List Pr) (p : Pr) : leftF r (P ++ [p]) (P ++ [p]).length = if Enters r p.1 then leftF r P P.length - p.2 else leftF r P P.length := by
  unfold leftF
  rw [List.take_length, List.take_length, List.foldl_append]
  rfl
def Strong (R : List Rd) (L : List Int) (g : List Int) : Prop := ∀ x ∈ g, ∀ T : Int → Prop, T x → Closed R L T → ∀ y ∈ g, T y
structure Priced (m root : Int) (R : List Rd) (P : List Pr) : Prop where
  nonneg : ∀ r ∈ R, 0 ≤ leftF r P P.length
  pos : ∀ p ∈ P, 1 ≤ p.2
  rt : ∀ p ∈ P, root ∉ p.1
  rising : ∀ p ∈ P, p.1.Pairwise (· < ·)
  within : ∀ p ∈ P, Within m p.1
  ne : ∀ p ∈ P, ∃ x, x ∈ p.1
  strong : ∀ p ∈ P, Strong R (lefts R P) p.1
  lam : ∀ (i j : Nat) (p q : Pr), i < j → P[i]? = some p → P[j]? = some q → (∀ x ∈ p.1, x ∈ q.1) ∨ ∀ x ∈ p.1, x ∉ q.1
theorem rch_enter {R : List Rd} {root x : Int} {g : List Int} (h : Rch R root x) (hr : root ∉ g) : x ∈ g → ∃ r ∈ R, Enters r g := by
  induction h with
  | root => exact fun hx => absurd hx hr
  | @step r _ hm ih =>
    intro hx
    by_cases h1 : r.1 ∈ g
    · exact ih h1
    · exact ⟨r, hm, hx, h1⟩
theorem sub_full {a b : List Int} (ha : a.Nodup) (hs : ∀ x ∈ a, x ∈ b) (hl : b.length ≤ a.length) : ∀ x ∈ b, x ∈ a := by
  intro x hx
  apply Classical.byContradiction
  intro hn
  have h1 := length_le_of_nodup (l := x :: a) (k := b) (List.nodup_cons.mpr ⟨hn, ha⟩) fun y hy => by
    rcases List.mem_cons.mp hy with rfl | hy
    · exact hx
    · exact hs y hy
  simp at h1
  omega
theorem rising_nodup {l : List Int} (h : l.Pairwise (· < ·)) : l.Nodup := h.imp fun h e => absurd h (by omega)
theorem lone_strong {m root : Int} {R : List Rd} {L : List Int} {g : List Int} (h : LoneTo m root R L m (some g)) : Strong R L g := by
  obtain ⟨h1, h2⟩ := h
  obtain ⟨hr, p, hp0, hp1, hg⟩ := h2 g rfl
  intro x hx T hT hc y hy
  obtain ⟨hx0, hx1⟩ := hg.within x hx
  obtain ⟨W, hW, hmin⟩ := h1 x hx0 hx1
  have hsub : ∀ z ∈ W, z ∈ g := hW.least _ hx hg.closed
  obtain ⟨g', hg', hl⟩ := hmin fun hc => hr (hsub _ hc)
  cases hg'
  exact hW.least T hT hc y (sub_full (rising_nodup hW.rising) hsub hl y hy)
theorem lefts_get {R : List Rd} {P : List Pr} {j : Nat} {r : Rd} (h : R[j]? = some r) : (lefts R P)[j]? = some (leftF r P P.length) := by
  unfold lefts; rw [List.getElem?_map, h]; rfl
theorem Priced.zero {m root : Int} {R : List Rd} {P : List Pr} {g : List Int} (hg : LoneTo m root R (lefts R P) m (some g)) {r : Rd} (hr : r ∈ R) (h0 : leftF r P P.length = 0) : ¬ Enters r g := by
  rintro ⟨h1, h2⟩
  obtain ⟨_, p, _, _, hl⟩ := hg.2 g rfl
  obtain ⟨j, hj⟩ := List.mem_iff_getElem?.mp hr
  exact h2 (hl.closed j r hj (by rw [lefts_get hj, h0]) h1)
theorem Priced.closed {m root : Int} {R : List Rd} {P : List Pr} {g : List Int} {c : Int} (hg : LoneTo m root R (lefts R P) m (some g)) {T : Int → Prop} (h : Closed R (lefts R (P ++ [(g, c)])) T) : Closed R (lefts R P) T := by
  intro j r hj hl ht
  rw [lefts_get hj] at hl
  injection hl with hl
  refine h j r hj ?_ ht
  rw [lefts_get hj, left_snoc, if_neg (Priced.zero hg (List.mem_of_getElem? hj) hl), hl]
theorem Priced.snoc {m root : Int} {R : List Rd} {P : List Pr} {g : List Int} {c : Int} (h : Priced m root R P) (hg : LoneTo m root R (lefts R P) m (some g)) (hc : 1 ≤ c) (hle : ∀ r ∈ R, Enters r g → c ≤ leftF r P P.length) : Priced m root R (P ++ [(g, c)]) := by
  obtain ⟨hr, p, hp0, hp1, hl⟩ := hg.2 g rfl
  have split : ∀ {K : Pr → Prop}, (∀ p ∈ P, K p) → K (g, c) → ∀ p ∈ P ++ [(g, c)], K p := fun h1 h2 p hp => by
    rcases List.mem_append.mp hp with hp | hp
    · exact h1 p hp
    · rw [List.mem_singleton.mp hp]; exact h2
  refine ⟨fun r hr => ?_, split h.pos hc, split h.rt hr, split h.rising hl.rising, split h.within hl.within, split h.ne ⟨p, hl.self⟩, split (fun p hp x hx T hT hcl => h.strong p hp x hx T hT (Priced.closed hg hcl)) fun x hx T hT hcl => lone_strong hg x hx T hT (Priced.closed hg hcl), fun i j p q hij hi hj => ?_⟩
  · rw [left_snoc]
    split
    · rename_i he
      have := hle r hr he
      show 0 ≤ _ - c
      omega
    · exact h.nonneg r hr
  · have hjl := get_lt hj
    simp at hjl
    by_cases hjp : j < P.length
    · rw [List.getElem?_append_left hjp] at hj
      rw [List.getElem?_append_left (by omega)] at hi
      exact h.lam i j p q hij hi hj
    · have : j = P.length := by omega
      subst this
      rw [List.getElem?_append_left hij] at hi
      simp at hj
      subst hj
      by_cases hx : ∃ x ∈ p.1, x ∈ g
      · obtain ⟨x, hx1, hx2⟩ := hx
        exact .inl (h.strong p (List.mem_of_getElem? hi) x hx1 (· ∈ g) hx2 hl.closed)
      · exact .inr fun x h1 h2 => hx ⟨x, h1, h2⟩
theorem countP_lt {α : Type} {p q : α → Bool} : ∀ {l : List α}, (∀ x ∈ l, p x = true → q x = true) → (∃ x ∈ l, p x = false ∧ q x = true) → l.countP p < l.countP q
  | [], _, ⟨x, hx, _⟩ => nomatch hx
  | a :: l, h, ⟨x, hx, h1, h2⟩ => by
    rw [List.countP_cons, List.countP_cons]
    have hle : l.countP p ≤ l.countP q := List.countP_mono_left fun y hy => h y (List.mem_cons_of_mem _ hy)
    rcases List.mem_cons.mp hx with rfl | hx
    · rw [h1, h2]; simp; omega
    · have := countP_lt (p := p) (q := q) (l := l) (fun y hy => h y (List.mem_cons_of_mem _ hy)) ⟨x, hx, h1, h2⟩
      have ha := h a List.mem_cons_self
      cases e : p a <;> cases e2 : q a <;> simp <;> first | omega | (rw [e, e2] at ha; simp at ha)
def zc (R : List Rd) (P : List Pr) : Nat := R.countP fun r => decide (leftF r P P.length = 0)
theorem zc_le (R : List Rd) (P : List Pr) : zc R P ≤ R.length := List.countP_le_length
theorem zc_lt {m root : Int} {R : List Rd} {P : List Pr} {g : List Int} {c : Int} (hg : LoneTo m root R (lefts R P) m (some g)) (hc : 1 ≤ c) (hex : ∃ r ∈ R, Enters r g ∧ leftF r P P.length = c) : zc R P < zc R (P ++ [(g, c)]) := by
  refine countP_lt (fun r hr h0 => ?_) ?_
  · rw [decide_eq_true_eq] at h0 ⊢
    rw [left_snoc, if_neg (Priced.zero hg hr h0), h0]
  · obtain ⟨r, hr, he, hl⟩ := hex
    refine ⟨r, hr, decide_eq_false (by omega), decide_eq_true ?_⟩
    rw [left_snoc, if_pos he, hl]
    show c - c = 0
    omega
theorem hits_iff {R : List Rd} {g : List Int} {j : Nat} {r : Rd} (h : R[j]? = some r) : hits R g j = true ↔ Enters r g := by
  unfold hits Enters; rw [h]; simp
theorem mem_into {R : List Rd} {g : List Int} {k : Int} : k ∈ intoF R g R.length ↔ ∃ (j : Nat) (r : Rd), k = (j : Int) ∧ R[j]? = some r ∧ Enters r g := by
  unfold intoF
  rw [List.mem_map]
  constructor
  · rintro ⟨j, hj, rfl⟩
    rw [List.mem_filter, List.mem_range] at hj
    obtain ⟨r, hr⟩ : ∃ r, R[j]? = some r := ⟨R[j], by simp [hj.1]⟩
    exact ⟨j, r, rfl, hr, (hits_iff hr).mp hj.2⟩
  · rintro ⟨j, r, rfl, hr, he⟩
    exact ⟨j, List.mem_filter.mpr ⟨List.mem_range.mpr (get_lt hr), (hits_iff hr).mpr he⟩, rfl⟩

/-! zero roads inside a set -/
/-- from b each member is come to by roads with nothing left inside g -/
def Inn (R : List Rd) (L : List Int) (g : List Int) (b : Int) : Prop :=
  ∀ Z : Int → Prop, Z b → (∀ (j : Nat) (r : Rd), R[j]? = some r → L[j]? = some 0 → r.1 ∈ g → r.2.1 ∈ g → Z r.1 → Z r.2.1) → ∀ y ∈ g, Z y
theorem inn_of {R : List Rd} {L : List Int} {g : List Int} (hs : Strong R L g) (hc : Closed R L (· ∈ g)) {b : Int} (hb : b ∈ g) : Inn R L g b := by
  intro Z hZ hf y hy
  exact (hs y hy (fun u => u ∈ g ∧ (Z u → Z y)) ⟨hy, id⟩ (fun j r hj hl ht => ⟨hc j r hj hl ht.1, fun hz => ht.2 (hf j r hj hl (hc j r hj hl ht.1) ht.1 hz)⟩) b hb).2 hZ
theorem Inn.mono {R : List Rd} {L L' : List Int} {g : List Int} {b : Int} (h : Inn R L g b) (hz : ∀ (j : Nat) (r : Rd), R[j]? = some r → L[j]? = some 0 → L'[j]? = some 0) : Inn R L' g b :=
  fun Z hb hf => h Z hb fun j r hj hl => hf j r hj (hz j r hj hl)
/-- when no lone set is left, the root leads to all -/
theorem inn_all {m root : Int} {R : List Rd} {L : List Int} (h : LoneTo m root R L m none) (hok : ∀ r ∈ R, (0 ≤ r.1 ∧ r.1 < m) ∧ 0 ≤ r.2.1 ∧ r.2.1 < m) : Inn R L (places m fun _ => true) root := by
  intro Z hZ hf y hy
  have hall : ∀ x, x ∈ places m (fun _ => true) ↔ 0 ≤ x ∧ x < m := fun x => by rw [places_mem]; simp
  obtain ⟨hy0, hy1⟩ := (hall y).mp hy
  obtain ⟨W, hW, hn⟩ := h.1 y hy0 hy1
  have hr : root ∈ W := Classical.byContradiction fun hc => by
    obtain ⟨g, hg, _⟩ := hn hc
    cases hg
  refine hW.least (fun u => Z u → Z y) id (fun j r hj hl ht hz => ht (hf j r hj hl ?_ ?_ hz)) root hr hZ
  · exact (hall _).mpr (hok r (List.mem_of_getElem? hj)).1
  · exact (hall _).mpr (hok r (List.mem_of_getElem? hj)).2
theorem inn_snoc {m root c : Int} {R : List Rd} {P : List Pr} {g : List Int} (h : ∀ p ∈ P, ∀ b ∈ p.1, Inn R (lefts R P) p.1 b) (hg : LoneTo m root R (lefts R P) m (some g)) : ∀ p ∈ P ++ [(g, c)], ∀ b ∈ p.1, Inn R (lefts R (P ++ [(g, c)])) p.1 b := by
  have hz : ∀ (j : Nat) (r : Rd), R[j]? = some r → (lefts R P)[j]? = some 0 → (lefts R (P ++ [(g, c)]))[j]? = some 0 := fun j r hj hl => by
    rw [lefts_get hj] at hl
    injection hl with hl
    rw [lefts_get hj, left_snoc, if_neg (Priced.zero hg (List.mem_of_getElem? hj) hl), hl]
  intro p hp b hb
  rcases List.mem_append.mp hp with hp | hp
  · exact (h p hp b hb).mono hz
  · rw [List.mem_singleton.mp hp] at hb ⊢
    obtain ⟨_, q, _, _, hl⟩ := hg.2 g rfl
    exact (inn_of (lone_strong hg) hl.closed hb).mono hz
/-! priced -/
abbrev gsR : List Str := ["cut_off", "lone", "into", "min"]
abbrev sgR (m root : Int) (a : Addr) (left prices group numbers price number : Option MV) : Sg :=
  [("many", some (.int m)), ("roads", some (.ref a)), ("root", some (.int root)), ("left", left), ("prices", prices), ("group", group), ("numbers", numbers), ("price", price), ("number", number)]
theorem cut_none {m root : Int} {R : List Rd} {W : List Int} (hreach : ∀ x, 0 ≤ x → x < m → Rch R root x) (net : Net m R root W) (hs : ShutTo R W W.length) : (places m fun x => !decide (x ∈ W)) = [] := by
  apply List.eq_nil_iff_forall_not_mem.mpr
  intro x hx
  rw [places_mem] at hx
  have := net.all hs x (hreach x hx.1.1 hx.1.2)
  simp [this] at hx
theorem sp_priced (X : Fx C) (hA : AOk A (n + 7)) {a : Addr} {m root : Int} {R : List Rd} (hm : 1 ≤ m ∧ m ≤ 12) (hroot : 0 ≤ root ∧ root < m) (hR : R.length ≤ 60) (hok : ∀ r ∈ R, RdOk m r) (ha : (a, MO.list (R.map rdV)) ∈ H) (hreach : ∀ x, 0 ≤ x → x < m → Rch R root x)
    (q : ∀ (D : Addr) (P : List Pr), P.length ≤ 60 → Priced m root R P → (∀ p ∈ P, ∀ b ∈ p.1, Inn R (lefts R P) p.1 b) → LoneTo m root R (lefts R P) m none → Q (.ref D) ((D, .list (P.map prV)) :: H)) : WF C A H "priced" [.int m, .ref a, .int root] Q := by
  refine WF.intro X.p_priced hA ["many", "roads", "root"] ["left", "prices", "group", "numbers", "price", "number"] gsR ["left"] (sgR m root a none none none none none none) (by decide +kernel) rfl (by wtm_at "bind") rfl ?_
  intro env hA' K
  refine WSs.cons ?_
  repeat wtm_at "s"
  refine WE.callF (by wtm_at "mem") X.p_cut_off ?_
  repeat wtm_at "s"
  refine sp_cut X hA' (R := R) hm hroot hR hok ha fun D0 W hD0 net hs => ?_
  rw [cut_none hreach net hs]
  repeat wtm_at "s"
  intro D1 _
  repeat wtm_at "s"
  refine W2.neSame (d := .list []) hA' (.list (a := D0) (xs := []) (by exact List.mem_cons_of_mem _ List.mem_cons_self) .nil) (.list (a := D1) (xs := []) (by wtm_at "mem") .nil) (by decide) ?_
  repeat wtm_at "e"
  refine seq_next (WSs.sub ?_ (.cons _ (.cons _ (.refl _))))
  refine WSs.cons (WS.assignComp (ys := []) [] K .nil (by decide +kernel) (WI.of ?_))
  repeat wtm_at "e"
  refine ItOf.list hA' ha ?_
  refine comp_intro (fun i ys H' => ys = ((R.take i).map fun r => MV.int r.2.2) ∧ H' = H) (by simp [sizeLine]; omega) ⟨by simp, rfl⟩ ?_ ?_ ?_
  · rintro i ys H' ⟨rfl, rfl⟩
    exact ⟨ha, by simp; omega⟩
  · rintro i v ys H' cenv hv ⟨rfl, rfl⟩
    obtain ⟨r, hr, rfl⟩ := get_map hv
    refine ct_nil (if_t ?_)
    repeat wtm_at "e"
    refine ⟨?_, rfl⟩
    rw [List.take_add_one, hr]; simp
  rintro ys H' ⟨rfl, rfl⟩ l hl
  have e0 : ((R.take (R.map rdV).length).map fun r => MV.int r.2.2) = (lefts R []).map .int := by
    rw [List.length_map, List.take_length]; unfold lefts; simp [leftF]
  rw [e0]
  refine ⟨_, by wtm_at "put", seq_next ?_⟩
  repeat wtm_at "s"
  intro pr _
  repeat wtm_at "s"
  refine WE.callF (by wtm_at "mem") X.p_lone ?_
  repeat wtm_at "s"
  refine sp_lone X (hA'.le (by omega : n + 2 ≤ n + 6)) (R := R) (L := lefts R []) hm hR hok (by simp [lefts]) (by wtm_at "mem") (by wtm_at "mem") fun b hb => ?_
  repeat wtm_at "s"
  have p0 : Priced m root R [] := ⟨fun r hr => (hok r hr).2.2.2.2.2.1, fun p hp => (nomatch hp), fun p hp => (nomatch hp), fun p hp => (nomatch hp), fun p hp => (nomatch hp), fun p hp => (nomatch hp), fun p hp => (nomatch hp), fun i j p q _ hi => by simp at hi⟩
  refine WS.while (fun k S H2 => ∃ (P : List Pr) (b : Option (List Int)) (o1 o2 o3 : Option MV), S = sgR m root a (some (.ref l)) (some (.ref pr)) (some (bestV b)) o1 o2 o3 ∧ ((pr, MO.list (P.map prV)) :: (l, MO.list ((lefts R P).map .int)) :: H').Sublist H2 ∧ Priced m root R P ∧ (∀ p ∈ P, ∀ b ∈ p.1, Inn R (lefts R P) p.1 b) ∧ LoneTo m root R (lefts R P) m b ∧ k = R.length - zc R P ∧ P.length ≤ zc R P) (R.length - zc R []) ⟨[], b, none, none, none, rfl, List.Sublist.refl _, p0, fun p hp => (nomatch hp), hb, rfl, by simp⟩ ?_
  rintro k S H2 ⟨P, b, o1, o2, o3, rfl, hs2, hP, hI, hb, rfl, hPz⟩
  have hzl := zc_le R P
  repeat wtm_at "e"
  cases b with
  | none =>
    refine W2.isNotNone rfl ?_
    repeat wtm_at "e"
    refine if_f ?_
    refine seq_next (WSs.sub ?_ hs2)
    refine WSs.cons ?_
    repeat wtm_at "s"
    exact ⟨_, .cons_cons _ (.cons _ (.refl _)), q pr P (by omega) hP hI hb⟩
  | some g =>
    obtain ⟨hgr, p, hp0, hp1, hgl⟩ := hb.2 g rfl
    have hgs := within_short (by omega) (rising_nodup hgl.rising) hgl.within
    refine W2.isNotNone rfl ?_
    repeat wtm_at "e"
    refine if_t ?_
    refine WSs.sub ?_ hs2
    unfold bestV
    refine WSs.cons ?_
    repeat wtm_at "e"
    refine WE.callF (by wtm_at "mem") X.p_into ?_
    repeat wtm_at "e"
    refine sp_into X (hA'.le (by omega : n + 1 ≤ n + 6)) (R := R) (g := g) hR (by wtm_at "mem") fun N hN => ?_
    have hnl := intoF_length R g R.length
    have hnd : (intoF R g R.length).Nodup := by
      unfold intoF
      refine List.pairwise_map.mpr (List.Pairwise.imp (fun {a b} hab e => hab (by omega)) (List.nodup_range.filter _))
    have hne : 0 < (intoF R g R.length).length := by
      obtain ⟨r, hr, he⟩ := rch_enter (hreach p hp0 hp1) hgr hgl.self
      obtain ⟨j, hj⟩ := List.mem_iff_getElem?.mp hr
      exact List.length_pos_of_mem (mem_into.mpr ⟨j, r, rfl, hj, he⟩)
    have hmi : ∀ k ∈ intoF R g R.length, ∃ (j : Nat) (r : Rd), k = (j : Int) ∧ R[j]? = some r ∧ Enters r g := fun k hk => mem_into.mp hk
    have him : ∀ (j : Nat) (r : Rd), R[j]? = some r → (Enters r g ↔ (j : Int) ∈ intoF R g R.length) := fun j r hj => ⟨fun he => mem_into.mpr ⟨j, r, rfl, hj, he⟩, fun h => by
      obtain ⟨j', r', e, hr', he⟩ := mem_into.mp h
      have : j' = j := by omega
      subst this
      rw [hj] at hr'; cases hr'; exact he⟩
    generalize intoF R g R.length = nums at hnl hnd hne hmi him
    repeat wtm_at "e"
    refine seq_next ?_
    refine WSs.cons ?_
    repeat wtm_at "e"
    refine WE.callB (by wtm_at "mem") X.g_min ?_
    refine WEs.cons (WE.comp (ys := ["left"]) [] K (.cons (y := "left") (by wtm_at "at") (by wtm_at "mem") .nil) (by decide +kernel) (WI.of ?_))
    repeat wtm_at "e"
    refine ItOf.list hA' (xs := nums.map .int) (by wtm_at "mem") ?_
    refine comp_intro (fun i ys H3 => ys = ((nums.take i).map fun k => (lefts R P).getD k.toNat 0).map .int ∧ H3 = (N, MO.list (nums.map .int)) :: (pr, MO.list (P.map prV)) :: (l, MO.list ((lefts R P).map .int)) :: H') (by simp [sizeLine]; omega) ⟨by simp, rfl⟩ ?_ ?_ ?_
    · rintro i ys H3 ⟨rfl, rfl⟩
      exact ⟨by wtm_at "mem", by simp; omega⟩
    · rintro i v ys H3 cenv hv ⟨rfl, rfl⟩
      obtain ⟨k, hk, rfl⟩ := get_map hv
      obtain ⟨j, r, rfl, hr, he⟩ := hmi k (List.mem_of_getElem? hk)
      have hjl := get_lt hr
      refine ct_nil (if_t ?_)
      repeat wtm_at "e"
      refine W2.itemM (l := lefts R P) (x := leftF r P P.length) (by wtm_at "mem") (by omega) (by simpa using lefts_get hr) (by omega) ?_
      refine ⟨?_, rfl⟩
      rw [List.take_add_one, hk]
      simp [lefts_get hr]
    · rintro ys H3 ⟨rfl, rfl⟩ D2 _
      rw [List.length_map, List.take_length]
      repeat wtm_at "e"
      refine WC.minL (g := nums.map fun k => (lefts R P).getD k.toNat 0) hA' (by wtm_at "mem") (by simpa using hne) fun c hc1 hc2 => ?_
      have hex : ∃ r ∈ R, Enters r g ∧ leftF r P P.length = c := by
        obtain ⟨k, hk, rfl⟩ := List.mem_map.mp hc1
        obtain ⟨j, r, rfl, hr, he⟩ := hmi k hk
        exact ⟨r, List.mem_of_getElem? hr, he, by simp [lefts_get hr]⟩
      have hle : ∀ r ∈ R, Enters r g → c ≤ leftF r P P.length := fun r hr he => by
        obtain ⟨j, hj⟩ := List.mem_iff_getElem?.mp hr
        have := hc2 _ (List.mem_map.mpr ⟨(j : Int), (him j r hj).mp he, rfl⟩)
        simpa [lefts_get hj] using this
      have hc : 1 ≤ c := by
        obtain ⟨r, hr, he, hl⟩ := hex
        have h1 := hP.nonneg r hr
        have h2 : leftF r P P.length ≠ 0 := fun h0 => Priced.zero hb hr h0 he
        omega
      clear hc1 hc2
      repeat wtm_at "e"
      refine seq_next (WSs.sub ?_ (List.sublist_cons_self _ _))
      refine WSs.cons ?_
      refine WS.for (WI.of ?_)
      repeat wtm_at "e"
      refine ItOf.list hA' (xs := nums.map .int) (by wtm_at "mem") ?_
      refine for_intro (fun (i : Nat) (S : Sg) (H3 : Hp) => ∃ (o : Option MV) (L : List Int), S = sgR m root a (some (.ref l)) (some (.ref pr)) (some (.tup (g.map .int))) (some (.ref N)) (some (.int c)) o ∧ H3 = (N, MO.list (nums.map .int)) :: (pr, MO.list (P.map prV)) :: (l, MO.list (L.map .int)) :: H' ∧ L.length = R.length ∧ ∀ j : Nat, L[j]? = if (j : Int) ∈ nums.take i then ((lefts R P)[j]?).map (· - c) else (lefts R P)[j]?) ⟨_, lefts R P, rfl, rfl, by simp [lefts], fun j => by simp⟩ ?_ ?_ ?_
      · rintro i S H3 ⟨o, L, rfl, rfl, _⟩
        exact List.mem_cons_self
      · rintro i x S H3 hx ⟨o, L, rfl, rfl, hLl, hLv⟩
        obtain ⟨k, hk, rfl⟩ := get_map hx
        obtain ⟨j, r, rfl, hr, he⟩ := hmi k (List.mem_of_getElem? hk)
        have hjl := get_lt hr
        have hil := get_lt hk
        have hnt : ¬ (j : Int) ∈ nums.take i := by
          intro hm
          obtain ⟨i', hi'⟩ := List.mem_iff_getElem?.mp hm
          have hl' := get_lt hi'
          rw [List.length_take] at hl'
          rw [List.getElem?_take_of_lt (by omega)] at hi'
          have := (List.getElem?_inj (i := i') (j := i) (by omega) hnd).mp (hi'.trans hk.symm)
          omega
        have hLj : L[j]? = some (leftF r P P.length) := by rw [hLv, if_neg hnt, lefts_get hr]
        refine WA.name (by wtm_at "put") ?_
        refine WSs.cons (WS.setItem ?_)
        repeat wtm_at "e"
        refine W2.itemM (l := L) (x := leftF r P P.length) (by wtm_at "mem") (by omega) (by simpa using hLj) (by omega) ?_
        repeat wtm_at "e"
        refine W3.setL (xs := L.map .int) (by wtm_at "mem") (by omega) (by simp; omega) (by omega) (by wtm_at "upd") ?_
        refine seq_next (WSs.nil (loop_next ?_))
        refine ⟨_, L.set j (leftF r P P.length - c), rfl, by simp, by simpa using hLl, fun j2 => ?_⟩
        rw [List.take_add_one, hk]
        rw [List.getElem?_set]
        by_cases hj2 : j = j2
        · subst hj2
          have : j < L.length := by omega
          simp [this, lefts_get hr]
        · have hne2 : ¬ (j2 : Int) = (j : Int) := by omega
          simp [hj2, hne2, hLv]
      · rintro S H3 ⟨o, L, rfl, rfl, hLl, hLv⟩
        rw [List.length_map, List.take_length] at hLv
        have hLe : L = lefts R (P ++ [(g, c)]) := by
          apply List.ext_getElem?
          intro j
          rw [hLv]
          cases hr : R[j]? with
          | none =>
            have h1 : (lefts R P)[j]? = none := by unfold lefts; rw [List.getElem?_map, hr]; rfl
            have h2 : (lefts R (P ++ [(g, c)]))[j]? = none := by unfold lefts; rw [List.getElem?_map, hr]; rfl
            rw [h1, h2]; split <;> rfl
          | some r =>
            rw [lefts_get hr, lefts_get hr, left_snoc]
            by_cases he : Enters r g
            · rw [if_pos ((him j r hr).mp he), if_pos he]; rfl
            · rw [if_neg (fun h => he ((him j r hr).mpr h)), if_neg he]
        subst hLe
        have hP2 := hP.snoc hb hc hle
        have hz2 := zc_lt hb hc hex
        refine seq_next ?_
        refine WSs.cons ?_
        repeat wtm_at "e"
        refine WE.append ?_
        repeat wtm_at "e"
        refine ⟨pr, _, rfl, by wtm_at "mem", ?_⟩
        repeat wtm_at "e"
        refine ⟨_, _, by wtm_at "mem", by wtm_at "upd", by simp [sizeLine]; omega, rfl, ?_⟩
        have eP : P.map prV ++ [MV.tup [.tup (g.map .int), .int c]] = (P ++ [(g, c)]).map prV := by simp
        rw [eP]
        refine seq_next ?_
        refine WSs.cons ?_
        repeat wtm_at "e"
        refine WE.callF (by wtm_at "mem") X.p_lone ?_
        repeat wtm_at "e"
        refine sp_lone X (hA'.le (by omega : n + 2 ≤ n + 6)) (R := R) (L := lefts R (P ++ [(g, c)])) hm hR hok (by simp [lefts]) (by wtm_at "mem") (by wtm_at "mem") fun b2 hb2 => ?_
        repeat wtm_at "e"
        refine seq_next (WSs.nil (loop_next ?_))
        have := zc_le R (P ++ [(g, c)])
        exact ⟨R.length - zc R (P ++ [(g, c)]), by omega, P ++ [(g, c)], b2, _, _, _, rfl, List.sublist_cons_self _ _, hP2, inn_snoc hI hb, hb2, rfl, by simp; omega⟩
end
set_option maxRecDepth 100000
set_option maxHeartbeats 4000000
open PySem PySem.W PySem.Calls PyProof.Rows
section
variable {C : Cx} {A : Around} {H : Hp} {n : Nat} {Q : MV → Hp → Prop}
theorem filter_take {α : Type} {f : α → Bool} {l : List α} {i : Nat} {x : α} (h : l[i]? = some x) : (l.take (i + 1)).filter f = (l.take i).filter f ++ (if f x = true then [x] else []) := by
  rw [List.take_add_one, h, List.filter_append]
  congr 1
  by_cases e : f x = true <;> simp [e]
/-! is_within -/
def In (s g : List Int) : Prop := s.length < g.length ∧ ∀ x ∈ s, x ∈ g
theorem sp_within (X : Fx C) (hA : AOk A (n + 1)) {s g : List Int} (hs : s.length ≤ 60) (hg : g.length ≤ 60) (q : ∀ b : Bool, (b = true ↔ In s g) → Q (.bool b) H) : WF C A H "is_within" [.tup (s.map .int), .tup (g.map .int)] Q := by
  refine WF.intro X.p_is_within hA ["one", "other"] [] ["len"] ["other"] [("one", some (.tup (s.map .int))), ("other", some (.tup (g.map .int)))] (by decide +kernel) rfl (by wtm_at "bind") rfl ?_
  intro env hA' K
  refine WSs.cons (WS.ret (WE.and ?_))
  repeat wtm_at "e"
  refine if_d (fun h => ?_) (fun h => ?_)
  · rw [List.length_map, List.length_map] at h
    refine WE.bo1 (WE.cmp ?_)
    refine WE.comp (ys := ["other"]) [] K (.cons (y := "other") (by wtm_at "at") (by wtm_at "mem") .nil) (by decide +kernel) (WI.of ?_)
    repeat wtm_at "e"
    refine ItOf.tup hA' ?_
    refine comp_intro (fun i ys H' => ys = ((s.take i).filter fun x => !decide (x ∈ g)).map .int ∧ H' = H) (by simp [sizeLine]; omega) ⟨by simp, rfl⟩ ?_ ?_ ?_
    · rintro i ys H' ⟨rfl, rfl⟩
      refine ⟨trivial, ?_⟩
      rw [List.length_map]
      exact Nat.le_trans (List.length_filter_le _ _) (by simp; omega)
    · rintro i v ys H' cenv hv ⟨rfl, rfl⟩
      obtain ⟨x, hx, rfl⟩ := get_map hv
      refine ct_one ?_
      repeat wtm_at "e"
      refine W2.notInI hA' ?_
      repeat wtm_at "e"
      refine if_nd (fun h => ?_) (fun h => ?_)
      · repeat wtm_at "e"
        refine ⟨?_, rfl⟩
        rw [filter_take hx, if_pos (by simpa using h)]; simp
      · refine ⟨?_, rfl⟩
        rw [filter_take hx, if_neg (by simpa using h)]; simp
    · rintro ys H' ⟨rfl, rfl⟩ D hD
      rw [List.length_map, List.take_length]
      repeat wtm_at "e"
      intro D2 _
      refine W2.eqD hA' (.list (a := D) (by wtm_at "mem") (dps_ints _)) (.list (a := D2) (xs := []) (by wtm_at "mem") .nil) (shaped_listI _) (by decide) ?_
      rw [show PyData.eqv (.list ((s.filter fun x => !decide (x ∈ g)).map .int)) (.list []) = decide ((s.filter fun x => !decide (x ∈ g)) = []) from eqvAll_ints _ []]
      refine ⟨_, .cons _ (.cons _ (.refl _)), q _ ⟨fun e => ⟨by omega, fun x hx => ?_⟩, fun e => ?_⟩⟩
      · rw [decide_eq_true_eq, List.filter_eq_nil_iff] at e
        simpa using e x hx
      · rw [decide_eq_true_eq, List.filter_eq_nil_iff]
        exact fun x hx => by simpa using e.2 x hx
  · rw [List.length_map, List.length_map] at h
    refine ⟨_, List.Sublist.refl _, q _ ⟨fun e => ?_, fun e => absurd e.1 (by omega)⟩⟩
    rw [decide_eq_true_eq, List.length_map, List.length_map] at e
    exact absurd e h

/-! parts_of -/
abbrev kvP (g : List Int) (pf : Int → List Int) : List (Int × MV) := g.map fun x => (x, MV.tup ((pf x).map .int))
theorem kvP_fst (g : List Int) (pf : Int → List Int) : (kvP g pf).map (·.1) = g := by
  induction g with
  | nil => rfl
  | cons a g ih => simp only [kvP, List.map_cons, List.map_map] at ih ⊢; rw [ih]
theorem kvP_get {pf : Int → List Int} {x : Int} : ∀ {g : List Int}, x ∈ g → getK (kvP g pf) x = some (.tup ((pf x).map .int))
  | a :: g, h => by
    unfold getK
    simp only [kvP, List.map_cons, List.find?_cons]
    by_cases e : a = x
    · subst e; simp
    · have := kvP_get (pf := pf) (g := g) ((List.mem_cons.mp h).resolve_left (fun q => e q.symm))
      unfold getK at this
      simp only [e, decide_false]
      exact this
theorem kvP_put {pf : Int → List Int} {x : Int} {g s : List Int} (h : x ∈ g) : putK (kvP g pf) x (.tup (s.map .int)) = kvP g (fun y => if y = x then s else pf y) := by
  unfold putK
  rw [if_pos (by simpa using h)]
  unfold kvP
  rw [List.map_map]
  apply List.map_congr_left
  intro y _
  simp only [Function.comp]
  by_cases e : y = x <;> simp [e]
abbrev tpV (g : List Int) : MV := .tup (g.map .int)
structure PartsTo (g : List Int) (F : List (List Int)) (i : Nat) (pf : Int → List Int) : Prop where
  self : ∀ x ∈ g, x ∈ pf x
  kind : ∀ x ∈ g, pf x = [x] ∨ (pf x ∈ F ∧ In (pf x) g)
  most : ∀ x ∈ g, ∀ s ∈ F.take i, In s g → x ∈ s → s.length ≤ (pf x).length
theorem PartsTo.short {g : List Int} {F : List (List Int)} {i : Nat} {pf : Int → List Int} (h : PartsTo g F i pf) (hg : g.length ≤ 12) {x : Int} (hx : x ∈ g) : (pf x).length ≤ 12 := by
  rcases h.kind x hx with e | ⟨_, e⟩
  · rw [e]; simp
  · have := e.1; omega
theorem sp_parts (X : Fx C) (hA : AOk A (n + 2)) {f : Addr} {g : List Int} {F : List (List Int)} (hg : g.length ≤ 12) (hnd : g.Nodup) (hFl : ∀ s ∈ F, s.length ≤ 60) (hf : (f, MO.list (F.map tpV)) ∈ H)
    (q : ∀ (D : Addr) (pf : Int → List Int), PartsTo g F F.length pf → Q (.ref D) ((D, .dict (ik (kvP g pf))) :: H)) : WF C A H "parts_of" [tpV g, .ref f] Q := by
  refine WF.intro X.p_parts_of hA ["group", "groups"] ["found", "place", "one"] ["is_within", "len"] [] [("group", some (tpV g)), ("groups", some (.ref f)), ("found", none), ("place", none), ("one", none)] (by decide +kernel) rfl (by wtm_at "bind") rfl ?_
  intro env hA' K
  refine WSs.cons ?_
  repeat wtm_at "s"
  refine WE.dict0 fun D hD => ?_
  repeat wtm_at "s"
  refine WS.for (WI.of ?_)
  repeat wtm_at "e"
  refine ItOf.tup hA' ?_
  refine for_intro (fun (i : Nat) (S : Sg) (H' : Hp) => ∃ o1, S = ([("group", some (tpV g)), ("groups", some (.ref f)), ("found", some (.ref D)), ("place", o1), ("one", none)] : Sg) ∧ H' = (D, .dict (ik (kvP (g.take i) fun x => [x]))) :: H) ⟨_, rfl, rfl⟩ (fun _ _ _ _ => trivial) ?_ ?_
  · rintro i v S H' hv ⟨o1, rfl, rfl⟩
    obtain ⟨x, hx, rfl⟩ := get_map hv
    have hil := get_lt hx
    have hn : x ∉ g.take i := by
      intro hm
      obtain ⟨i', hi'⟩ := List.mem_iff_getElem?.mp hm
      have hl' := get_lt hi'
      rw [List.length_take] at hl'
      rw [List.getElem?_take_of_lt (by omega)] at hi'
      have := (List.getElem?_inj (i := i') (j := i) (by omega) hnd).mp (hi'.trans hx.symm)
      omega
    refine WA.name (by wtm_at "put") ?_
    refine WSs.cons (WS.setItem ?_)
    repeat wtm_at "e"
    refine W3.setK (kvs := kvP (g.take i) fun x => [x]) (by wtm_at "mem") (by rw [kvP_fst]; exact (List.take_sublist _ _).nodup hnd) (by simp [sizeLine]; omega) (by wtm_at "upd") ?_
    rw [putK_new _ (by rw [kvP_fst]; exact hn)]
    refine seq_next (WSs.nil (loop_next ?_))
    refine ⟨_, rfl, ?_⟩
    rw [List.take_add_one, hx]
    simp [kvP]
  · rintro S H' ⟨o1, rfl, rfl⟩
    rw [List.length_map, List.take_length]
    repeat wtm_at "s"
    refine WS.for (WI.of ?_)
    repeat wtm_at "e"
    refine ItOf.list hA' (xs := F.map tpV) (by wtm_at "mem") ?_
    refine for_intro (fun (i : Nat) (S : Sg) (H' : Hp) => ∃ (o1 o2 : Option MV) (pf : Int → List Int), S = ([("group", some (tpV g)), ("groups", some (.ref f)), ("found", some (.ref D)), ("place", o1), ("one", o2)] : Sg) ∧ H' = (D, .dict (ik (kvP g pf))) :: H ∧ PartsTo g F i pf) ⟨_, _, _, rfl, rfl, fun x _ => by simp, fun x _ => .inl rfl, fun x _ s hs => by simp at hs⟩ ?_ ?_ ?_
    · rintro i S H' ⟨o1, o2, pf, rfl, rfl, _⟩
      exact List.mem_cons_of_mem _ hf
    · rintro i v S H' hv ⟨o1, o2, pf, rfl, rfl, hI⟩
      obtain ⟨s, hs, rfl⟩ := get_map hv
      have hsF := List.mem_of_getElem? hs
      refine WA.name (by wtm_at "put") ?_
      repeat wtm_at "s"
      refine WT.plain (WE.callF (by wtm_at "mem") X.p_is_within ?_)
      repeat wtm_at "s"
      refine sp_within X hA' (hFl s hsF) (by omega) fun b hb => ?_
      refine WB.bool ?_
      have nxt : ∀ pf', PartsTo g F i pf' → (In s g → ∀ x ∈ s, s.length ≤ (pf' x).length) → PartsTo g F (i + 1) pf' := fun pf' h1 h2 => ⟨h1.self, h1.kind, fun x hx t ht hin hxt => by
        rw [List.take_add_one, hs] at ht
        rcases List.mem_append.mp ht with ht | ht
        · exact h1.most x hx t ht hin hxt
        · have : t = s := by simpa using ht
          subst this
          exact h2 hin x hxt⟩
      cases b with
      | false =>
        repeat wtm_at "s"
        refine ⟨_, _, pf, rfl, rfl, nxt pf hI fun h => ?_⟩
        exact absurd (hb.mpr h) (by simp)
      | true =>
        have hin := hb.mp rfl
        repeat wtm_at "s"
        refine WS.for (WI.of ?_)
        repeat wtm_at "e"
        refine ItOf.tup hA' ?_
        refine for_intro (fun (t : Nat) (S : Sg) (H' : Hp) => ∃ (o1 : Option MV) (pf : Int → List Int), S = ([("group", some (tpV g)), ("groups", some (.ref f)), ("found", some (.ref D)), ("place", o1), ("one", some (tpV s))] : Sg) ∧ H' = (D, .dict (ik (kvP g pf))) :: H ∧ PartsTo g F i pf ∧ ∀ x ∈ s.take t, s.length ≤ (pf x).length) ⟨_, pf, rfl, rfl, hI, fun x hx => by simp at hx⟩ (fun _ _ _ _ => trivial) ?_ ?_
        · rintro t v S H' hv ⟨o1, pf, rfl, rfl, hI, hJ⟩
          obtain ⟨x, hx, rfl⟩ := get_map hv
          have hxs := List.mem_of_getElem? hx
          have hxg := hin.2 x hxs
          have hpl := hI.short hg hxg
          have hsl := hin.1
          refine WA.name (by wtm_at "put") ?_
          repeat wtm_at "s"
          refine W2.itemK (kvs := kvP g pf) (by wtm_at "mem") (by rw [kvP_fst]; exact hnd) (kvP_get hxg) ?_
          repeat wtm_at "s"
          refine if_d (fun h => ?_) (fun h => ?_)
          · rw [List.length_map, List.length_map] at h
            refine WSs.cons (WS.setItem ?_)
            repeat wtm_at "e"
            refine W3.setK (kvs := kvP g pf) (by wtm_at "mem") (by rw [kvP_fst]; exact hnd) (by simp [sizeLine]; omega) (by wtm_at "upd") ?_
            rw [kvP_put hxg]
            refine seq_next (WSs.nil (seq_next (WSs.nil (loop_next ?_))))
            refine ⟨_, _, rfl, rfl, ⟨fun y hy => ?_, fun y hy => ?_, fun y hy u hu hin' hyu => ?_⟩, fun y hy => ?_⟩
            · by_cases e : y = x
              · subst e; simpa using hxs
              · simpa [e] using hI.self y hy
            · by_cases e : y = x
              · subst e; simp; exact .inr ⟨hsF, hin⟩
              · simpa [e] using hI.kind y hy
            · have := hI.most y hy u hu hin' hyu
              by_cases e : y = x
              · subst e; simp; omega
              · simpa [e] using this
            · rw [List.take_add_one, hx] at hy
              by_cases e : y = x
              · simp [e]
              · have hy' : y ∈ s.take t := by
                  rcases List.mem_append.mp hy with hy | hy
                  · exact hy
                  · exact absurd (by simpa using hy) e
                simpa [e] using hJ y hy'
          · rw [List.length_map, List.length_map] at h
            refine WSs.nil (seq_next (WSs.nil (loop_next ?_)))
            refine ⟨_, pf, rfl, rfl, hI, fun y hy => ?_⟩
            rw [List.take_add_one, hx] at hy
            rcases List.mem_append.mp hy with hy | hy
            · exact hJ y hy
            · have : y = x := by simpa using hy
              subst this; omega
        · rintro S H' ⟨o1, pf, rfl, rfl, hI, hJ⟩
          rw [List.length_map, List.take_length] at hJ
          repeat wtm_at "s"
          exact ⟨_, _, pf, rfl, rfl, nxt pf hI fun _ => hJ⟩
    · rintro S H' ⟨o1, o2, pf, rfl, rfl, hI⟩
      rw [List.length_map] at hI
      repeat wtm_at "s"
      exact ⟨_, List.Sublist.refl _, q D pf hI⟩
end
set_option maxRecDepth 100000
set_option maxHeartbeats 4000000
open PySem PySem.W PySem.Calls PyProof.Rows
section
variable {C : Cx} {A : Around} {H : Hp} {n : Nat} {Q : MV → Hp → Prop}
/-! a family of sets, each two nested or apart -/
structure Fam (m : Int) (F : List (List Int)) : Prop where
  rising : ∀ s ∈ F, s.Pairwise (· < ·)
  within : ∀ s ∈ F, Within m s
  lam : ∀ s ∈ F, ∀ t ∈ F, (∀ x ∈ s, x ∈ t) ∨ (∀ x ∈ t, x ∈ s) ∨ ∀ x ∈ s, x ∉ t
theorem Priced.fam {m root : Int} {R : List Rd} {P : List Pr} (h : Priced m root R P) : Fam m (P.map (·.1)) := by
  refine ⟨fun s hs => ?_, fun s hs => ?_, fun s hs t ht => ?_⟩
  · obtain ⟨p, hp, rfl⟩ := List.mem_map.mp hs; exact h.rising p hp
  · obtain ⟨p, hp, rfl⟩ := List.mem_map.mp hs; exact h.within p hp
  · obtain ⟨p, hp, rfl⟩ := List.mem_map.mp hs
    obtain ⟨q, hq, rfl⟩ := List.mem_map.mp ht
    obtain ⟨i, hi⟩ := List.mem_iff_getElem?.mp hp
    obtain ⟨j, hj⟩ := List.mem_iff_getElem?.mp hq
    rcases Nat.lt_trichotomy i j with hij | rfl | hij
    · rcases h.lam i j p q hij hi hj with h1 | h1
      · exact .inl h1
      · exact .inr (.inr h1)
    · rw [hi] at hj; cases hj; exact .inl fun x hx => hx
    · rcases h.lam j i q p hij hj hi with h1 | h1
      · exact .inr (.inl h1)
      · exact .inr (.inr fun x hx hy => h1 x hy hx)
structure Parts (g : List Int) (pf : Int → List Int) : Prop where
  self : ∀ x ∈ g, x ∈ pf x
  sub : ∀ x ∈ g, ∀ y ∈ pf x, y ∈ g
  same : ∀ x ∈ g, ∀ y ∈ pf x, pf y = pf x
theorem one_of {l : List Int} {y : Int} (h : l.length ≤ 1) (hy : y ∈ l) : l = [y] := by
  match l, h, hy with
  | [a], _, hy => rw [List.mem_singleton.mp hy]
theorem eq_of_sub {s t : List Int} (hs : s.Pairwise (· < ·)) (ht : t.Pairwise (· < ·)) (hsub : ∀ x ∈ s, x ∈ t) (hl : t.length ≤ s.length) : s = t :=
  rising_eq hs ht fun x => ⟨hsub x, sub_full (rising_nodup hs) hsub hl x⟩
theorem PartsTo.ok {m : Int} {g : List Int} {F : List (List Int)} {pf : Int → List Int} (h : PartsTo g F F.length pf) (hF : Fam m F) : Parts g pf := by
  have most : ∀ x ∈ g, ∀ s ∈ F, In s g → x ∈ s → s.length ≤ (pf x).length := fun x hx s hs => h.most x hx s (by rw [List.take_length]; exact hs)
  have sub : ∀ x ∈ g, ∀ y ∈ pf x, y ∈ g := fun x hx y hy => by
    rcases h.kind x hx with e | ⟨_, e⟩
    · rw [e] at hy; rw [List.mem_singleton.mp hy]; exact hx
    · exact e.2 y hy
  refine ⟨h.self, sub, fun x hx y hy => ?_⟩
  have hyg := sub x hx y hy
  rcases h.kind x hx with e | ⟨e1, e2⟩
  · rw [e] at hy; rw [List.mem_singleton.mp hy]
  · have h1 := most y hyg _ e1 e2 hy
    have hyy := h.self y hyg
    rcases h.kind y hyg with e | ⟨e3, e4⟩
    · rw [e] at h1
      rw [e, one_of (by simpa using h1) hy]
    · rcases hF.lam _ e1 _ e3 with h2 | h2 | h2
      · have := most x hx _ e3 e4 (h2 x (h.self x hx))
        exact (eq_of_sub (hF.rising _ e1) (hF.rising _ e3) h2 this).symm
      · exact eq_of_sub (hF.rising _ e3) (hF.rising _ e1) h2 h1
      · exact absurd hyy (h2 y hy)
/-! entered -/
def ov : Option Int → MV
  | none => .none
  | some j => .int j
structure Ent (m : Int) (R : List Rd) (L : List Int) (g : List Int) (pf : Int → List Int) (b : Int) (T : List (Option Int)) (M : List Pr) (T' : List (Option Int)) : Prop where
  first : M[0]? = some (pf b, b)
  nodup : (M.map (·.1)).Nodup
  mem : ∀ p ∈ M, p.2 ∈ g ∧ p.1 = pf p.2
  len : T'.length = T.length
  at' : ∀ x : Int, 0 ≤ x → x < m → T'[x.toNat]? = T[x.toNat]? ∨ ∃ p ∈ M, p.2 = x ∧ p.1 ≠ pf b ∧ ∃ (j : Nat) (r : Rd), T'[x.toNat]? = some (some (j : Int)) ∧ R[j]? = some r ∧ r.2.1 = x ∧ L[j]? = some 0 ∧ r.1 ∈ g ∧ r.1 ∉ p.1
theorem Ent.short {m b : Int} {R : List Rd} {L g : List Int} {pf : Int → List Int} {T T' : List (Option Int)} {M : List Pr} (h : Ent m R L g pf b T M T') (hg : g.length ≤ 12) : M.length ≤ 12 := by
  have nd : (M.map (·.2)).Nodup := by
    refine List.pairwise_map.mpr (List.Pairwise.imp_of_mem (fun {p q} hp hq hpq e => hpq ?_) (List.pairwise_map.mp h.nodup))
    rw [(h.mem p hp).2, (h.mem q hq).2, e]
  have := length_le_of_nodup nd fun x hx => by
    obtain ⟨p, hp, rfl⟩ := List.mem_map.mp hx
    exact (h.mem p hp).1
  rw [List.length_map] at this
  omega
theorem Ent.snoc {m b : Int} {R : List Rd} {L g : List Int} {pf : Int → List Int} {T T' : List (Option Int)} {M : List Pr} (h : Ent m R L g pf b T M T') (hp : Parts g pf) (hT : (T.length : Int) = m) {j : Nat} {r : Rd} {pa : Pr} (hr : R[j]? = some r) (hl : L[j]? = some 0) (hpa : pa ∈ M) (h1 : r.1 ∈ pa.1) (h2 : r.2.1 ∈ g) (h3 : pf r.2.1 ∉ M.map (·.1)) (h4 : 0 ≤ r.2.1 ∧ r.2.1 < m) :
    Ent m R L g pf b T (M ++ [(pf r.2.1, r.2.1)]) (T'.set r.2.1.toNat (some (j : Int))) := by
  obtain ⟨hpg, hpe⟩ := h.mem pa hpa
  have hml := get_lt h.first
  have hr1 : r.1 ∈ g := hp.sub _ hpg _ (hpe ▸ h1)
  have hr2 : r.1 ∉ pf r.2.1 := fun hc => by
    have e1 := hp.same _ h2 _ hc
    have e2 := hp.same _ hpg _ (hpe ▸ h1)
    exact h3 (List.mem_map.mpr ⟨pa, hpa, by rw [hpe, ← e2, e1]⟩)
  have hb : pf r.2.1 ≠ pf b := fun e => h3 (e ▸ List.mem_map.mpr ⟨_, List.mem_of_getElem? h.first, rfl⟩)
  refine ⟨by rw [List.getElem?_append_left hml]; exact h.first, ?_, fun p hp' => ?_, by simpa using h.len, fun x hx0 hx1 => ?_⟩
  · rw [List.map_append, List.nodup_append]
    exact ⟨h.nodup, by simp, fun a ha b' hb' q => h3 (by simp at hb'; rw [← hb', ← q]; exact ha)⟩
  · rcases List.mem_append.mp hp' with hp' | hp'
    · exact h.mem p hp'
    · rw [List.mem_singleton.mp hp']; exact ⟨h2, rfl⟩
  · have hlen := h.len
    by_cases e : x = r.2.1
    · subst e
      refine .inr ⟨_, List.mem_append_right _ (List.mem_singleton.mpr rfl), rfl, hb, j, r, ?_, hr, rfl, hl, hr1, hr2⟩
      rw [List.getElem?_set_self (by omega)]
    · have hne : ¬ r.2.1.toNat = x.toNat := by omega
      rw [List.getElem?_set_ne hne]
      rcases h.at' x hx0 hx1 with h5 | ⟨p, hp1, hp2⟩
      · exact .inl h5
      · exact .inr ⟨p, List.mem_append_left _ hp1, hp2⟩
/-! what `entered` gives back, whole -/
structure EntX (R : List Rd) (L : List Int) (g : List Int) (pf : Int → List Int) (M : List Pr) (T' : List (Option Int)) (c j : Nat) : Prop where
  road : ∀ (i : Nat) (p : Pr), M[i]? = some p → i = 0 ∨ ∃ (k : Nat) (r : Rd) (i' : Nat) (p' : Pr), T'[p.2.toNat]? = some (some (k : Int)) ∧ R[k]? = some r ∧ r.2.1 = p.2 ∧ i' < i ∧ M[i']? = some p' ∧ r.1 ∈ p'.1
  done : ∀ (i k : Nat) (p : Pr) (r : Rd), i < c ∨ i = c ∧ k < j → M[i]? = some p → R[k]? = some r → L[k]? = some 0 → r.1 ∈ p.1 → r.2.1 ∈ g → pf r.2.1 ∈ M.map (·.1)
theorem EntX.snoc {R : List Rd} {L g : List Int} {pf : Int → List Int} {M : List Pr} {T' : List (Option Int)} {c j : Nat} (h : EntX R L g pf M T' c j) (hc : c < M.length) {k : Nat} {r : Rd} {pa : Pr} (hr : R[k]? = some r) (hpa : M[c]? = some pa) (h1 : r.1 ∈ pa.1) (hl : r.2.1.toNat < T'.length) (hn : ∀ p ∈ M, 0 ≤ p.2 ∧ p.2 ≠ r.2.1) (h0 : 0 ≤ r.2.1) :
    EntX R L g pf (M ++ [(pf r.2.1, r.2.1)]) (T'.set r.2.1.toNat (some (k : Int))) c j := by
  refine ⟨fun i p hp => ?_, fun i k' p r' hi hp hr' hl' h1' h2' => ?_⟩
  · by_cases hi : i < M.length
    · rw [List.getElem?_append_left hi] at hp
      rcases h.road i p hp with h2 | ⟨k2, r2, i2, p2, a1, a2, a3, a4, a5, a6⟩
      · exact .inl h2
      · have hne := hn p (List.mem_of_getElem? hp)
        refine .inr ⟨k2, r2, i2, p2, ?_, a2, a3, a4, ?_, a6⟩
        · rw [List.getElem?_set_ne (by omega)]; exact a1
        · rw [List.getElem?_append_left (by omega)]; exact a5
    · have hil := get_lt hp
      simp at hil
      have : i = M.length := by omega
      subst this
      simp at hp
      subst hp
      exact .inr ⟨k, r, c, pa, by rw [List.getElem?_set_self hl], hr, rfl, hc, by rw [List.getElem?_append_left hc]; exact hpa, h1⟩
  · rw [List.getElem?_append_left (by omega)] at hp
    rw [List.map_append]
    exact List.mem_append_left _ (h.done i k' p r' hi hp hr' hl' h1' h2')
theorem EntX.next {R : List Rd} {L g : List Int} {pf : Int → List Int} {M : List Pr} {T' : List (Option Int)} {c j : Nat} (h : EntX R L g pf M T' c j) (hn : ∀ (p : Pr) (r : Rd), M[c]? = some p → R[j]? = some r → L[j]? = some 0 → r.1 ∈ p.1 → r.2.1 ∈ g → pf r.2.1 ∈ M.map (·.1)) : EntX R L g pf M T' c (j + 1) := by
  refine ⟨h.road, fun i k p r hi hp hr hl h1 h2 => ?_⟩
  by_cases hk : i < c ∨ i = c ∧ k < j
  · exact h.done i k p r hk hp hr hl h1 h2
  · have e1 : i = c := by omega
    have e2 : k = j := by omega
    subst e1 e2
    exact hn p r hp hr hl h1 h2
theorem EntX.turn {R : List Rd} {L g : List Int} {pf : Int → List Int} {M : List Pr} {T' : List (Option Int)} {c : Nat} (h : EntX R L g pf M T' c R.length) : EntX R L g pf M T' (c + 1) 0 :=
  ⟨h.road, fun i k p r hi hp hr hl h1 h2 => h.done i k p r (by have := get_lt hr; omega) hp hr hl h1 h2⟩
theorem EntX.start {R : List Rd} {L g : List Int} {pf : Int → List Int} {b : Int} {T : List (Option Int)} : EntX R L g pf [(pf b, b)] T 0 0 :=
  ⟨fun i p hp => by
    have := get_lt hp
    simp at this
    exact .inl this, fun i k p r hi => by omega⟩
/-- every part is met -/
theorem EntX.all {R : List Rd} {L g : List Int} {pf : Int → List Int} {b : Int} {M : List Pr} {T' : List (Option Int)} (h : EntX R L g pf M T' M.length 0) (hp : Parts g pf) (hi : Inn R L g b) (hf : M[0]? = some (pf b, b)) : ∀ y ∈ g, pf y ∈ M.map (·.1) := by
  refine hi (fun y => pf y ∈ M.map (·.1)) (List.mem_map.mpr ⟨_, List.mem_of_getElem? hf, rfl⟩) fun j r hj hl h1 h2 hz => ?_
  obtain ⟨p, hp1, hp2⟩ := List.mem_map.mp hz
  obtain ⟨i, hi'⟩ := List.mem_iff_getElem?.mp hp1
  exact h.done i j p r (.inl (get_lt hi')) hi' hj hl (by rw [hp2]; exact hp.self _ h1) h2
abbrev gsE : List Str := ["len", "enumerate"]
abbrev sgE (a l D : Addr) (b : Int) (t : Addr) (met known at' number road : Option MV) : Sg :=
  [("roads", some (.ref a)), ("left", some (.ref l)), ("parts", some (.ref D)), ("begin", some (.int b)), ("tree", some (.ref t)), ("met", met), ("known", known), ("at", at'), ("number", number), ("road", road)]
theorem sp_entered (X : Fx C) (hA : AOk A (n + 1)) {a l D w t : Addr} {wo : MO} {m b : Int} {R : List Rd} {L g : List Int} {pf : Int → List Int} {T : List (Option Int)} (hm : 1 ≤ m ∧ m ≤ 12) (hR : R.length ≤ 60) (hok : ∀ r ∈ R, RdOk m r) (hL : L.length = R.length) (hT : (T.length : Int) = m) (hg : g.length ≤ 12) (hgn : g.Nodup) (hgw : Within m g) (hpf : Parts g pf) (hb : b ∈ g)
    (ha : (a, MO.list (R.map rdV)) ∈ H) (hl : (l, MO.list (L.map .int)) ∈ H)
    (q : ∀ (E : Addr) (M : List Pr) (T' : List (Option Int)), Ent m R L g pf b T M T' → EntX R L g pf M T' M.length 0 → Q (.ref E) ((E, .list (M.map prV)) :: (D, .dict (ik (kvP g pf))) :: (w, wo) :: (t, .list (T'.map ov)) :: H)) :
    WF C A ((D, .dict (ik (kvP g pf))) :: (w, wo) :: (t, .list (T.map ov)) :: H) "entered" [.ref a, .ref l, .ref D, .int b, .ref t] Q := by
  refine WF.intro X.p_entered hA ["roads", "left", "parts", "begin", "tree"] ["met", "known", "at", "number", "road"] gsE [] (sgE a l D b t none none none none none) (by decide +kernel) rfl (by wtm_at "bind") rfl ?_
  intro env hA' K
  have kn : ((kvP g pf).map (·.1)).Nodup := by rw [kvP_fst]; exact hgn
  refine WSs.cons ?_
  repeat wtm_at "s"
  refine W2.itemK (kvs := kvP g pf) (by wtm_at "mem") kn (kvP_get hb) ?_
  repeat wtm_at "s"
  intro E hE
  repeat wtm_at "s"
  refine WE.dict0 fun Kn hKn => ?_
  repeat wtm_at "s"
  refine WS.setItem ?_
  repeat wtm_at "s"
  refine W2.itemK (kvs := kvP g pf) (by wtm_at "mem") kn (kvP_get hb) ?_
  refine W3.setD (g := pf b) (gs := []) hA' (by exact List.mem_cons_self) (by simp) (by simp) (by simp) (by wtm_at "upd") ?_
  repeat wtm_at "s"
  have ent0 : Ent m R L g pf b T [(pf b, b)] T := ⟨rfl, by simp, fun p hp => by rw [List.mem_singleton.mp hp]; exact ⟨hb, rfl⟩, rfl, fun x _ _ => .inl rfl⟩
  refine WS.while (fun k S H' => ∃ (M : List Pr) (T' : List (Option Int)) (c : Nat) (o1 o2 : Option MV), S = sgE a l D b t (some (.ref E)) (some (.ref Kn)) (some (.int (c : Int))) o1 o2 ∧ H' = (Kn, .dict (tk (M.map (·.1)))) :: (E, .list (M.map prV)) :: (D, .dict (ik (kvP g pf))) :: (w, wo) :: (t, .list (T'.map ov)) :: H ∧
      Ent m R L g pf b T M T' ∧ EntX R L g pf M T' c 0 ∧ c ≤ M.length ∧ k = 20 - c) 20 ⟨[(pf b, b)], T, 0, none, none, rfl, rfl, ent0, EntX.start, by simp, rfl⟩ ?_
  rintro k S H' ⟨M, T', c, o1, o2, rfl, rfl, ent, ex, hc, rfl⟩
  have hMl := ent.short hg
  repeat wtm_at "s"
  refine if_d (fun hlt => ?_) (fun hge => ?_)
  · have hcl : c < M.length := by omega
    obtain ⟨pa, hpa⟩ : ∃ pa, M[c]? = some pa := ⟨M[c], by simp [hcl]⟩
    refine WSs.cons ?_
    refine WS.for (WI.enum hA' (by wtm_at "mem") X.g_enum ?_)
    repeat wtm_at "s"
    refine ⟨a, _, rfl, by wtm_at "mem", fun (j : Nat) (S : Sg) (H' : Hp) => ∃ (M : List Pr) (T' : List (Option Int)) (o1 o2 : Option MV), S = sgE a l D b t (some (.ref E)) (some (.ref Kn)) (some (.int (c : Int))) o1 o2 ∧ H' = (Kn, .dict (tk (M.map (·.1)))) :: (E, .list (M.map prV)) :: (D, .dict (ik (kvP g pf))) :: (w, wo) :: (t, .list (T'.map ov)) :: H ∧
      Ent m R L g pf b T M T' ∧ EntX R L g pf M T' c j ∧ M[c]? = some pa, ⟨M, T', o1, o2, rfl, rfl, ent, ex, hpa⟩, ?_, ?_, ?_⟩
    · rintro j S H' ⟨M, T', o1, o2, rfl, rfl, _⟩
      wtm_at "mem"
    · rintro j x S H' hx ⟨M, T', o1, o2, rfl, rfl, ent, ex, hpa⟩
      obtain ⟨y, hy, rfl⟩ := enumL_get hx
      obtain ⟨r, hr, rfl⟩ := get_map hy
      have hjl := get_lt hr
      have hro := hok r (List.mem_of_getElem? hr)
      have hro4 := hro.2.2.2.1
      have hMl := ent.short hg
      have hTl := ent.len
      have hcl := get_lt hpa
      obtain ⟨z, hz⟩ : ∃ z, L[j]? = some z := ⟨L[j]'(by omega), by simp⟩
      refine WA.tup2 hA' (by wtm_at "put") (by wtm_at "put") ?_
      repeat wtm_at "s"
      refine W2.itemM (l := L) (x := z) (by wtm_at "mem") (by omega) (by simpa using hz) (by omega) ?_
      repeat wtm_at "s"
      refine if_eq (fun h0 => ?_) (fun h0 => ?_)
      · subst h0
        repeat wtm_at "s"
        refine W2.itemM (l := M) (x := pa) (by wtm_at "mem") (by omega) (by simpa using hpa) (by omega) ?_
        repeat wtm_at "s"
        refine W2.inI hA' ?_
        repeat wtm_at "s"
        refine if_d (fun h1 => ?_) (fun h1 => ?_)
        · repeat wtm_at "s"
          refine W2.inK (kvs := kvP g pf) (by wtm_at "mem") kn ?_
          rw [kvP_fst]
          repeat wtm_at "s"
          refine if_d (fun h2 => ?_) (fun h2 => ?_)
          · repeat wtm_at "s"
            refine W2.itemK (kvs := kvP g pf) (by wtm_at "mem") kn (kvP_get h2) ?_
            repeat wtm_at "s"
            refine W2.notInD (gs := M.map (·.1)) hA' (by wtm_at "mem") ent.nodup ?_
            repeat wtm_at "s"
            refine if_nd (fun h3 => ?_) (fun h3 => ?_)
            · repeat wtm_at "s"
              refine WS.setItem ?_
              repeat wtm_at "s"
              refine W2.itemK (kvs := kvP g pf) (by wtm_at "mem") kn (kvP_get h2) ?_
              refine W3.setD (g := pf r.2.1) (gs := M.map (·.1)) hA' (by wtm_at "mem") ent.nodup h3 (by simp [sizeLine]; omega) (by wtm_at "upd") ?_
              repeat wtm_at "s"
              refine WS.setItem ?_
              repeat wtm_at "s"
              refine W3.setL (xs := T'.map ov) (by wtm_at "mem") hro.2.2.1 (by simp; omega) (by omega) (by wtm_at "upd") ?_
              repeat wtm_at "s"
              refine WE.append ?_
              repeat wtm_at "s"
              refine ⟨E, _, rfl, by wtm_at "mem", ?_⟩
              repeat wtm_at "s"
              refine W2.itemK (kvs := kvP g pf) (by wtm_at "mem") kn (kvP_get h2) ?_
              repeat wtm_at "s"
              refine ⟨_, _, by wtm_at "mem", by wtm_at "upd", by simp [sizeLine]; omega, rfl, ?_⟩
              repeat wtm_at "s"
              refine ⟨M ++ [(pf r.2.1, r.2.1)], T'.set r.2.1.toNat (some (j : Int)), _, _, rfl, by simp [ov], ent.snoc hpf hT hr hz (List.mem_of_getElem? hpa) h1 h2 h3 ⟨hro.2.2.1, hro.2.2.2.1⟩, (ex.snoc hcl hr hpa h1 (by omega) (fun p hp => ⟨(hgw _ (ent.mem p hp).1).1, fun e => h3 (List.mem_map.mpr ⟨p, hp, by rw [(ent.mem p hp).2, e]⟩)⟩) hro.2.2.1).next (fun p r' _ hr' _ _ _ => by rw [hr] at hr'; cases hr'; rw [List.map_append]; exact List.mem_append_right _ (List.mem_singleton.mpr rfl)), by rw [List.getElem?_append_left hcl]; exact hpa⟩
            · repeat wtm_at "s"
              exact ⟨M, T', _, _, rfl, rfl, ent, ex.next (fun p r' _ hr' _ _ _ => by rw [hr] at hr'; cases hr'; exact h3), hpa⟩
          · repeat wtm_at "s"
            exact ⟨M, T', _, _, rfl, rfl, ent, ex.next (fun p r' _ hr' _ _ hg' => by rw [hr] at hr'; cases hr'; exact absurd hg' h2), hpa⟩
        · repeat wtm_at "s"
          exact ⟨M, T', _, _, rfl, rfl, ent, ex.next (fun p r' hp hr' _ hp' _ => by rw [hr] at hr'; cases hr'; rw [hpa] at hp; cases hp; exact absurd hp' h1), hpa⟩
      · repeat wtm_at "s"
        exact ⟨M, T', _, _, rfl, rfl, ent, ex.next (fun p r' _ _ hl' _ _ => by rw [hz] at hl'; injection hl' with hl'; exact absurd hl' h0), hpa⟩
    · rintro S H' ⟨M, T', o1, o2, rfl, rfl, ent, ex, hpa⟩
      have hMl := ent.short hg
      have hcl := get_lt hpa
      repeat wtm_at "s"
      exact ⟨20 - (c + 1), by omega, M, T', c + 1, _, _, rfl, rfl, ent, EntX.turn (by simpa [enumL_length] using ex), by omega, rfl⟩
  · have : c = M.length := by omega
    subst this
    repeat wtm_at "s"
    exact ⟨_, .cons _ (.refl _), q E M T' ent ex⟩
end
set_option maxRecDepth 100000
set_option maxHeartbeats 4000000
open PySem PySem.W PySem.Calls PyProof.Rows
section
variable {C : Cx} {A : Around} {H : Hp} {n : Nat} {Q : MV → Hp → Prop}
/-! the tree, step by step, plain -/
def EntAt (R : List Rd) (T : List (Option Int)) (x : Int) (s : List Int) : Prop := ∃ (j : Nat) (r : Rd), T[x.toNat]? = some (some (j : Int)) ∧ R[j]? = some r ∧ r.1 ∉ s
structure Chp (m : Int) (R : List Rd) (L : List Int) (F : List (List Int)) (Wt : List Pr) (T : List (Option Int)) : Prop where
  len : (T.length : Int) = m
  rising : ∀ w ∈ Wt, w.1.Pairwise (· < ·)
  within : ∀ w ∈ Wt, Within m w.1
  self : ∀ w ∈ Wt, w.2 ∈ w.1
  lam : ∀ w ∈ Wt, ∀ s ∈ F, (∀ x ∈ s, x ∈ w.1) ∨ (∀ x ∈ w.1, x ∈ s) ∨ ∀ x ∈ s, x ∉ w.1
  apart : Wt.Pairwise fun v w => ∀ x ∈ v.1, x ∉ w.1
  free : ∀ w ∈ Wt, ∀ x ∈ w.1, x ≠ w.2 → T[x.toNat]? = some none
  ok : ∀ (x : Int) (j : Int), 0 ≤ x → x < m → T[x.toNat]? = some (some j) → ∃ (i : Nat) (r : Rd), j = (i : Int) ∧ R[i]? = some r ∧ r.2.1 = x ∧ L[i]? = some 0
  once : ∀ s ∈ F, ∀ x ∈ s, ∀ y ∈ s, EntAt R T x s → EntAt R T y s → x = y
theorem Chp.pop {m : Int} {R : List Rd} {L : List Int} {F : List (List Int)} {Wt : List Pr} {w : Pr} {T : List (Option Int)} (h : Chp m R L F (Wt ++ [w]) T) : Chp m R L F Wt T :=
  ⟨h.len, fun v hv => h.rising v (List.mem_append_left _ hv), fun v hv => h.within v (List.mem_append_left _ hv), fun v hv => h.self v (List.mem_append_left _ hv), fun v hv => h.lam v (List.mem_append_left _ hv), (List.pairwise_append.mp h.apart).1, fun v hv => h.free v (List.mem_append_left _ hv), h.ok, h.once⟩
theorem Chp.go {m : Int} {R : List Rd} {L : List Int} {F : List (List Int)} {Wt : List Pr} {g : List Int} {b : Int} {T T' : List (Option Int)} {pf : Int → List Int} {M : List Pr} (h : Chp m R L F (Wt ++ [(g, b)]) T) (hF : Fam m F) (hp : PartsTo g F F.length pf) (he : Ent m R L g pf b T M T') : Chp m R L F (Wt ++ M) T' := by
  have hgm : (g, b) ∈ Wt ++ [(g, b)] := List.mem_append_right _ (List.mem_singleton.mpr rfl)
  have hr := h.rising _ hgm
  have hw := h.within _ hgm
  have hb := h.self _ hgm
  have hlam := h.lam _ hgm
  have hfree := h.free _ hgm
  have hok := hp.ok hF
  have one : ∀ p ∈ M, ∀ q ∈ M, p.1 = q.1 → p = q := fun p hp' q hq e => by
    obtain ⟨i, hi⟩ := List.mem_iff_getElem?.mp hp'
    obtain ⟨j, hj⟩ := List.mem_iff_getElem?.mp hq
    have hi' : (M.map (·.1))[i]? = some p.1 := by rw [List.getElem?_map, hi]; rfl
    have hj' : (M.map (·.1))[j]? = some q.1 := by rw [List.getElem?_map, hj]; rfl
    have := (List.getElem?_inj (get_lt hi') he.nodup).mp (hi'.trans (e ▸ hj'.symm))
    subst this
    rw [hi] at hj; cases hj; rfl
  have hfirst := List.mem_of_getElem? he.first
  have hb' : pf b = pf b := rfl
  have sub : ∀ p ∈ M, ∀ x ∈ p.1, x ∈ g := fun p hp' x hx => hok.sub _ (he.mem p hp').1 x ((he.mem p hp').2 ▸ hx)
  have apartG : ∀ v ∈ Wt, ∀ x ∈ v.1, x ∉ g := fun v hv => (List.pairwise_append.mp h.apart).2.2 v hv (g, b) (List.mem_singleton.mpr rfl)
  /- what was changed lies in g -/
  have chg : ∀ x, 0 ≤ x → x < m → x ∉ g → T'[x.toNat]? = T[x.toNat]? := fun x h0 h1 hx => by
    rcases he.at' x h0 h1 with e | ⟨p, hp', e, _⟩
    · exact e
    · exact absurd (e ▸ (he.mem p hp').1) hx
  have split : ∀ {K : Pr → Prop}, (∀ v ∈ Wt, K v) → (∀ v ∈ M, K v) → ∀ v ∈ Wt ++ M, K v := fun h1 h2 v hv => by
    rcases List.mem_append.mp hv with hv | hv
    · exact h1 v hv
    · exact h2 v hv
  refine ⟨by rw [he.len]; exact h.len, split h.pop.rising fun p hp' => ?_, split h.pop.within fun p hp' x hx => hw x (sub p hp' x hx), split h.pop.self fun p hp' => ?_, split h.pop.lam fun p hp' s hs => ?_, ?_, split (fun v hv x hx hne => ?_) fun p hp' x hx hne => ?_, fun x j h0 h1 hx => ?_, ?_⟩
  · rw [(he.mem p hp').2]
    rcases hp.kind _ (he.mem p hp').1 with e | ⟨e, _⟩
    · rw [e]; simp
    · exact hF.rising _ e
  · have := hok.self _ (he.mem p hp').1
    rw [(he.mem p hp').2]; exact this
  · rw [(he.mem p hp').2]
    rcases hp.kind _ (he.mem p hp').1 with e | ⟨e, _⟩
    · rw [e]
      by_cases hx : p.2 ∈ s
      · exact .inr (.inl fun x hx' => by rw [List.mem_singleton.mp hx']; exact hx)
      · exact .inr (.inr fun x hx' hc => hx (List.mem_singleton.mp hc ▸ hx'))
    · exact hF.lam s hs _ e
  · refine List.pairwise_append.mpr ⟨h.pop.apart, ?_, fun v hv p hp' x hx hc => apartG v hv x hx (sub p hp' x hc)⟩
    refine List.Pairwise.imp_of_mem (fun {p q} hp' hq hne x hx hc => hne ?_) (List.pairwise_map.mp he.nodup)
    have e1 := hok.same _ (he.mem p hp').1 x ((he.mem p hp').2 ▸ hx)
    have e2 := hok.same _ (he.mem q hq).1 x ((he.mem q hq).2 ▸ hc)
    rw [(he.mem p hp').2, (he.mem q hq).2, ← e1, e2]
  · obtain ⟨h0, h1⟩ := h.pop.within v hv x hx
    rw [chg x h0 h1 (apartG v hv x hx)]
    exact h.pop.free v hv x hx hne
  · have hxg := sub p hp' x hx
    obtain ⟨h0, h1⟩ := hw x hxg
    have e1 : pf x = p.1 := by rw [(he.mem p hp').2]; exact hok.same _ (he.mem p hp').1 x ((he.mem p hp').2 ▸ hx)
    rcases he.at' x h0 h1 with e | ⟨q, hq, e, _⟩
    · rw [e]
      refine hfree x hxg fun hxb => hne ?_
      show x = p.2
      have := one p hp' _ hfirst (by show p.1 = pf b; rw [← e1, hxb])
      rw [this]; exact hxb
    · have := one q hq p hp' (by rw [(he.mem q hq).2, e, e1])
      exact absurd (this ▸ e.symm) hne
  · rcases he.at' x h0 h1 with e | ⟨q, hq, e, _, j', r, e1, e2, e3, e4, _⟩
    · rw [e] at hx; exact h.ok x j h0 h1 hx
    · rw [e1] at hx
      injection hx with hx
      injection hx with hx
      exact ⟨j', r, hx.symm, e2, e3, e4⟩
  · intro s hs
    have hsw := hF.within s hs
    have key : ∀ x ∈ s, ∀ y ∈ s, EntAt R T' x s → EntAt R T' y s → T'[x.toNat]? ≠ T[x.toNat]? → x = y := by
      intro x hx y hy hex hey hne
      obtain ⟨hx0, hx1⟩ := hsw x hx
      obtain ⟨hy0, hy1⟩ := hsw y hy
      rcases he.at' x hx0 hx1 with e | ⟨q, hq, e, hqb, j, r, e1, e2, e3, e4, e5, e6⟩
      · exact absurd e hne
      obtain ⟨j', r', f1, f2, f3⟩ := hex
      rw [e1] at f1
      injection f1 with f1
      injection f1 with f1
      have : j = j' := by omega
      subst this
      rw [e2] at f2; cases f2
      have hxg : x ∈ g := e ▸ (he.mem q hq).1
      have hpx : q.1 = pf x := by rw [(he.mem q hq).2, e]
      have hsg : ∀ z ∈ s, z ∈ g := by
        rcases hlam s hs with h1 | h1 | h1
        · exact h1
        · exact absurd (h1 _ e5) f3
        · exact absurd hxg (h1 x hx)
      have hin : In s g := by
        refine ⟨?_, hsg⟩
        rcases Nat.lt_or_ge s.length g.length with h1 | h1
        · exact h1
        · exact absurd (sub_full (rising_nodup (hF.rising s hs)) hsg h1 _ e5) f3
      have hmost := hp.most x hxg s (by rw [List.take_length]; exact hs) hin hx
      have hsp : ∀ z ∈ s, z ∈ pf x := by
        rcases hp.kind x hxg with e7 | ⟨e7, _⟩
        · rw [e7] at hmost ⊢
          intro z hz
          rw [one_of (by simpa using hmost) hx] at hz
          exact hz
        · rcases hF.lam s hs _ e7 with h1 | h1 | h1
          · exact h1
          · exact sub_full (rising_nodup (hF.rising _ e7)) h1 hmost
          · exact absurd (hok.self x hxg) (h1 x hx)
      have hyp := hsp y hy
      have hyg := hsg y hy
      have epy : pf y = pf x := hok.same x hxg y hyp
      rcases he.at' y hy0 hy1 with e8 | ⟨q', hq', e8, _⟩
      · obtain ⟨j2, r2, k1, k2, k3⟩ := hey
        rw [e8] at k1
        by_cases hyb : y = b
        · exact absurd (by rw [hpx, ← epy, hyb]) hqb
        · have := hfree y hyg hyb
          rw [k1] at this; cases this
      · have : q' = q := one q' hq' q hq (by rw [(he.mem q' hq').2, e8, epy, hpx])
        rw [← e8, this, e]
    intro x hx y hy hex hey
    by_cases h1 : T'[x.toNat]? = T[x.toNat]?
    · by_cases h2 : T'[y.toNat]? = T[y.toNat]?
      · refine h.once s hs x hx y hy ?_ ?_
        · obtain ⟨j, r, f1, f2⟩ := hex; exact ⟨j, r, h1 ▸ f1, f2⟩
        · obtain ⟨j, r, f1, f2⟩ := hey; exact ⟨j, r, h2 ▸ f1, f2⟩
      · exact (key y hy x hx hey hex h2).symm
    · exact key x hx y hy hex hey h1
/-! all places are covered -/
def Cov (m root : Int) (R : List Rd) (Wt : List Pr) (T : List (Option Int)) : Prop :=
  ∀ Z : Int → Prop, Z root → (∀ (x : Int) (j : Nat) (r : Rd), 0 ≤ x → x < m → T[x.toNat]? = some (some (j : Int)) → R[j]? = some r → Z r.1 → Z x) → (∀ w ∈ Wt, Z w.2 → ∀ x ∈ w.1, Z x) → ∀ x, 0 ≤ x → x < m → Z x
theorem Cov.pop {m root : Int} {R : List Rd} {Wt : List Pr} {g : List Int} {b : Int} {T : List (Option Int)} (h : Cov m root R (Wt ++ [(g, b)]) T) (hb : b ∈ g) (hl : g.length ≤ 1) : Cov m root R Wt T := fun Z h1 h2 h3 => h Z h1 h2 fun w hw hz x hx => by
  rcases List.mem_append.mp hw with hw | hw
  · exact h3 w hw hz x hx
  · rw [List.mem_singleton.mp hw] at hx hz
    rw [one_of hl hb] at hx
    rw [List.mem_singleton.mp hx]
    exact hz
theorem Cov.go {m root : Int} {R : List Rd} {L : List Int} {F : List (List Int)} {Wt : List Pr} {g : List Int} {b : Int} {T T' : List (Option Int)} {pf : Int → List Int} {M : List Pr} (h : Cov m root R (Wt ++ [(g, b)]) T) (hch : Chp m R L F (Wt ++ [(g, b)]) T) (hp : Parts g pf) (he : Ent m R L g pf b T M T') (hx : EntX R L g pf M T' M.length 0) (hi : Inn R L g b) : Cov m root R (Wt ++ M) T' := by
  have hgm : (g, b) ∈ Wt ++ [(g, b)] := List.mem_append_right _ (List.mem_singleton.mpr rfl)
  have hw := hch.within _ hgm
  have hfree := hch.free _ hgm
  intro Z h1 h2 h3
  have hZg : Z b → ∀ x ∈ g, Z x := fun hzb => by
    have key : ∀ (n i : Nat), i ≤ n → ∀ p, M[i]? = some p → Z p.2 := by
      intro n
      induction n with
      | zero =>
        intro i hi' p hp'
        have : i = 0 := by omega
        subst this
        rw [he.first] at hp'; cases hp'; exact hzb
      | succ n ih =>
        intro i hi' p hp'
        rcases hx.road i p hp' with rfl | ⟨k, r, i', p', a1, a2, a3, a4, a5, a6⟩
        · rw [he.first] at hp'; cases hp'; exact hzb
        · obtain ⟨h0, h0'⟩ := hw _ (he.mem p (List.mem_of_getElem? hp')).1
          exact h2 p.2 k r h0 h0' a1 a2 (h3 p' (List.mem_append_right _ (List.mem_of_getElem? a5)) (ih i' (by omega) p' a5) _ a6)
    intro x hxg
    obtain ⟨p, hp1, hp2⟩ := List.mem_map.mp (hx.all hp hi he.first x hxg)
    obtain ⟨i, hi'⟩ := List.mem_iff_getElem?.mp hp1
    exact h3 p (List.mem_append_right _ hp1) (key i i (Nat.le_refl _) p hi') x (by rw [hp2]; exact hp.self x hxg)
  refine h Z h1 (fun x j r h0 h0' ht hr hz => ?_) fun w hw' hz => ?_
  · rcases he.at' x h0 h0' with e | ⟨p, hp1, e1, hpb, j', r', b1, _⟩
    · exact h2 x j r h0 h0' (e ▸ ht) hr hz
    · by_cases hxb : x = b
      · have := (he.mem p hp1).2
        rw [e1, hxb] at this
        exact absurd this hpb
      · have := hfree x (e1 ▸ (he.mem p hp1).1) hxb
        rw [this] at ht; cases ht
  · rcases List.mem_append.mp hw' with hw' | hw'
    · exact h3 w (List.mem_append_left _ hw') hz
    · rw [List.mem_singleton.mp hw'] at hz ⊢
      exact hZg hz
structure Span (m root : Int) (R : List Rd) (L : List Int) (Wt : List Pr) (T : List (Option Int)) : Prop where
  cov : Cov m root R Wt T
  inn : ∀ w ∈ Wt, Inn R L w.1 w.2
theorem Span.pop {m root : Int} {R : List Rd} {L : List Int} {Wt : List Pr} {g : List Int} {b : Int} {T : List (Option Int)} (h : Span m root R L (Wt ++ [(g, b)]) T) (hb : b ∈ g) (hl : g.length ≤ 1) : Span m root R L Wt T :=
  ⟨h.cov.pop hb hl, fun w hw => h.inn w (List.mem_append_left _ hw)⟩
theorem Span.go {m root : Int} {R : List Rd} {L : List Int} {F : List (List Int)} {Wt : List Pr} {g : List Int} {b : Int} {T T' : List (Option Int)} {pf : Int → List Int} {M : List Pr} (h : Span m root R L (Wt ++ [(g, b)]) T) (hch : Chp m R L F (Wt ++ [(g, b)]) T) (hF : Fam m F) (hI : ∀ s ∈ F, ∀ b ∈ s, Inn R L s b) (hp : PartsTo g F F.length pf) (he : Ent m R L g pf b T M T') (hx : EntX R L g pf M T' M.length 0) : Span m root R L (Wt ++ M) T' := by
  refine ⟨h.cov.go hch (hp.ok hF) he hx (h.inn _ (List.mem_append_right _ (List.mem_singleton.mpr rfl))), fun w hw => ?_⟩
  rcases List.mem_append.mp hw with hw | hw
  · exact h.inn w (List.mem_append_left _ hw)
  · obtain ⟨h1, h2⟩ := he.mem w hw
    rw [h2]
    have hs := hp.self _ h1
    rcases hp.kind _ h1 with e | ⟨e, _⟩
    · rw [e]
      exact fun Z hz _ y hy => by rw [List.mem_singleton.mp hy]; exact hz
    · exact hI _ e _ hs
theorem span_start {m root : Int} {R : List Rd} {L : List Int} (h : LoneTo m root R L m none) (hok : ∀ r ∈ R, (0 ≤ r.1 ∧ r.1 < m) ∧ 0 ≤ r.2.1 ∧ r.2.1 < m) (T : List (Option Int)) : Span m root R L [(places m fun _ => true, root)] T := by
  refine ⟨fun Z hz _ h3 x h0 h1 => h3 _ (List.mem_singleton.mpr rfl) hz x (by rw [places_mem]; exact ⟨⟨h0, h1⟩, rfl⟩), fun w hw => ?_⟩
  rw [List.mem_singleton.mp hw]
  exact inn_all h hok
end
set_option maxRecDepth 100000
set_option maxHeartbeats 4000000
open PySem PySem.W PySem.Calls PyProof.Rows
section
variable {C : Cx} {A : Around} {H : Hp} {n : Nat} {Q : MV → Hp → Prop}
/-! how long it goes on -/
def msr (Wt : List Pr) : Nat := (Wt.map fun w => 2 * w.1.length - 1).sum
theorem msr_append (a b : List Pr) : msr (a ++ b) = msr a + msr b := by unfold msr; rw [List.map_append, List.sum_append]
theorem msr_sum : ∀ (M : List Pr), (∀ w ∈ M, 0 < w.1.length) → msr M + M.length = 2 * ((M.map (·.1)).map List.length).sum
  | [], _ => rfl
  | w :: M, h => by
    have := msr_sum M fun v hv => h v (List.mem_cons_of_mem _ hv)
    have h1 := h w List.mem_cons_self
    unfold msr at this ⊢
    simp only [List.map_cons, List.sum_cons, List.length_cons]
    omega
theorem msr_lt {m b : Int} {R : List Rd} {L g : List Int} {F : List (List Int)} {Wt M : List Pr} {T T' : List (Option Int)} {pf : Int → List Int} (hg : 1 < g.length) (hp : PartsTo g F F.length pf) (hF : Fam m F) (he : Ent m R L g pf b T M T') (hc : Chp m R L F (Wt ++ M) T') : msr M < 2 * g.length - 1 := by
  have hne : ∀ w ∈ M, 0 < w.1.length := fun w hw => List.length_pos_of_mem (hc.self w (List.mem_append_right _ hw))
  have hlt : ∀ w ∈ M, w.1.length < g.length := fun w hw => by
    rw [(he.mem w hw).2]
    rcases hp.kind _ (he.mem w hw).1 with e | ⟨_, e⟩
    · rw [e]; exact hg
    · exact e.1
  have nd : (M.map (·.1)).flatten.Nodup := by
    refine List.pairwise_flatten.mpr ⟨fun l hl => ?_, ?_⟩
    · obtain ⟨w, hw, rfl⟩ := List.mem_map.mp hl
      exact rising_nodup (hc.rising w (List.mem_append_right _ hw))
    · refine List.pairwise_map.mpr (((List.pairwise_append.mp hc.apart).2.1).imp fun {v w} h x hx y hy (e : x = y) => h x hx (e ▸ hy))
  have hsub : (M.map (·.1)).flatten.length ≤ g.length := length_le_of_nodup nd fun x hx => by
    obtain ⟨l, hl, hx⟩ := List.mem_flatten.mp hx
    obtain ⟨w, hw, rfl⟩ := List.mem_map.mp hl
    exact (hp.ok hF).sub _ (he.mem w hw).1 x ((he.mem w hw).2 ▸ hx)
  rw [List.length_flatten] at hsub
  have hs := msr_sum M hne
  have h1 := get_lt he.first
  match M, h1, hs, hsub, hlt with
  | [w], _, hs, _, hlt =>
    have := hlt w List.mem_cons_self
    simp at hs
    omega
  | _ :: _ :: _, _, hs, hsub, _ =>
    simp only [List.length_cons] at hs
    omega
theorem concat_of {α : Type} : ∀ {l : List α}, 0 < l.length → ∃ l' x, l = l' ++ [x]
  | [a], _ => ⟨[], a, rfl⟩
  | a :: b :: l, _ => by
    obtain ⟨l', x, h⟩ := concat_of (l := b :: l) (by simp)
    exact ⟨a :: l', x, by rw [h]; rfl⟩
theorem erase_last {α : Type} : ∀ (l : List α) (x : α), (l ++ [x]).eraseIdx l.length = l
  | [], _ => rfl
  | a :: l, x => by simp [erase_last l x]

/-! cheapest -/
abbrev gsH : List Str := ["priced", "left_over", "range", "tuple", "len", "entered", "parts_of"]
abbrev sgH (m root : Int) (a : Addr) (prices groups left tree waiting group begin : Option MV) : Sg :=
  [("many", some (.int m)), ("roads", some (.ref a)), ("root", some (.int root)), ("prices", prices), ("groups", groups), ("left", left), ("tree", tree), ("waiting", waiting), ("group", group), ("begin", begin)]
theorem rangeL_ints (m : Int) : rangeL 0 m = (places m fun _ => true).map .int := by
  unfold rangeL places
  rw [List.filter_eq_self.mpr (by simp)]
  simp
theorem sp_cheapest (X : Fx C) (hA : AOk A (n + 8)) {a : Addr} {m root : Int} {R : List Rd} (hm : 1 ≤ m ∧ m ≤ 12) (hroot : 0 ≤ root ∧ root < m) (hR : R.length ≤ 60) (hok : ∀ r ∈ R, RdOk m r) (ha : (a, MO.list (R.map rdV)) ∈ H) (hreach : ∀ x, 0 ≤ x → x < m → Rch R root x)
    (q : ∀ (t : Addr) (P : List Pr) (T : List (Option Int)), Priced m root R P → Chp m R (lefts R P) (P.map (·.1)) [] T → Cov m root R [] T → Q (.ref t) ((t, .list (T.map ov)) :: H)) : WF C A H "cheapest" [.int m, .ref a, .int root] Q := by
  refine WF.intro X.p_cheapest hA ["many", "roads", "root"] ["prices", "groups", "left", "tree", "waiting", "group", "begin"] gsH [] (sgH m root a none none none none none none none) (by decide +kernel) rfl (by wtm_at "bind") rfl ?_
  intro env hA' K
  refine WSs.cons ?_
  repeat wtm_at "s"
  refine WE.callF (by wtm_at "mem") X.p_priced ?_
  repeat wtm_at "s"
  refine sp_priced X hA' (R := R) hm hroot hR hok ha hreach fun pr P hPl hP hI hN => ?_
  have hIF : ∀ s ∈ P.map (·.1), ∀ b ∈ s, Inn R (lefts R P) s b := fun s hs => by
    obtain ⟨p, hp, rfl⟩ := List.mem_map.mp hs
    exact hI p hp
  have sp0 := span_start hN (fun r hr => ⟨⟨(hok r hr).1, (hok r hr).2.1⟩, (hok r hr).2.2.1, (hok r hr).2.2.2.1⟩) (List.replicate m.toNat none)
  clear hI hN
  have hF := hP.fam
  repeat wtm_at "e"
  refine seq_next ?_
  refine WSs.cons (WS.assignComp (ys := []) [] K .nil (by decide +kernel) (WI.of ?_))
  repeat wtm_at "e"
  refine ItOf.list hA' (xs := P.map prV) (by wtm_at "mem") ?_
  refine comp_intro (fun i ys H' => ys = ((P.take i).map (·.1)).map tpV ∧ H' = (pr, .list (P.map prV)) :: H) (by simp [sizeLine]; omega) ⟨by simp, rfl⟩ ?_ ?_ ?_
  · rintro i ys H' ⟨rfl, rfl⟩
    exact ⟨by wtm_at "mem", by simp; omega⟩
  · rintro i v ys H' cenv hv ⟨rfl, rfl⟩
    obtain ⟨p, hp, rfl⟩ := get_map hv
    refine ct_nil (if_t ?_)
    repeat wtm_at "e"
    refine ⟨?_, rfl⟩
    rw [List.take_add_one, hp]; simp
  rintro ys H' ⟨rfl, rfl⟩ gr _
  rw [List.length_map, List.take_length]
  refine ⟨_, by wtm_at "put", seq_next ?_⟩
  refine WSs.cons ?_
  repeat wtm_at "e"
  refine WE.callF (by wtm_at "mem") X.p_left_over ?_
  repeat wtm_at "e"
  refine sp_left X (hA'.le (by omega : n + 1 ≤ n + 7)) (R := R) (P := P) hR (by wtm_at "mem") (by wtm_at "mem") fun lf _ => ?_
  rw [lefts_eq]
  repeat wtm_at "e"
  refine seq_next ?_
  refine WSs.cons (WS.assignComp (ys := []) [] K .nil (by decide +kernel) (WI.of ?_))
  refine WE.callT (by wtm_at "mem") X.g_range ?_
  repeat wtm_at "e"
  refine WC.range1 ?_
  refine ItOf.range hA' (by decide) (by decide) (by omega) (by omega) ?_
  have hlen : (rangeL 0 m).length = m.toNat := by rw [rangeL_length]; congr 1; omega
  refine comp_intro (fun i ys H' => ys = (List.replicate i (none : Option Int)).map ov ∧ H' = (lf, .list ((lefts R P).map .int)) :: (gr, .list ((P.map (·.1)).map tpV)) :: (pr, .list (P.map prV)) :: H) (by rw [hlen]; simp [sizeLine]; omega) ⟨rfl, rfl⟩ ?_ ?_ ?_
  · rintro i ys H' ⟨rfl, rfl⟩
    exact ⟨trivial, by simp⟩
  · rintro i v ys H' cenv hv ⟨rfl, rfl⟩
    refine ct_nil (if_t ?_)
    repeat wtm_at "e"
    refine ⟨?_, rfl⟩
    rw [List.replicate_succ', List.map_append]; rfl
  rintro ys H' ⟨rfl, rfl⟩ t _
  rw [hlen]
  refine ⟨_, by wtm_at "put", seq_next ?_⟩
  refine WSs.cons ?_
  repeat wtm_at "e"
  refine WE.callT (by wtm_at "mem") X.g_tuple ?_
  refine WEs.cons (WE.callT (by wtm_at "mem") X.g_range ?_)
  repeat wtm_at "e"
  refine WC.range1 ?_
  repeat wtm_at "e"
  refine WC.tupR hA' (by omega) (by omega) ?_
  rw [rangeL_ints]
  repeat wtm_at "e"
  intro w0 _
  repeat wtm_at "e"
  refine seq_next ?_
  have ch0 : Chp m R (lefts R P) (P.map (·.1)) [(places m fun _ => true, root)] (List.replicate m.toNat none) := by
    have hall : ∀ x, x ∈ places m (fun _ => true) ↔ 0 ≤ x ∧ x < m := fun x => by rw [places_mem]; simp
    have hno : ∀ (x : Int) (j : Int), (List.replicate m.toNat (none : Option Int))[x.toNat]? ≠ some (some j) := fun x j e => by
      have := List.eq_of_mem_replicate (List.mem_of_getElem? e); cases this
    refine ⟨by simp; omega, fun w hw => ?_, fun w hw => ?_, fun w hw => ?_, fun w hw s hs => ?_, by simp, fun w hw x hx _ => ?_, fun x j _ _ e => absurd e (hno x j), fun s _ x _ y _ ⟨j, _, e, _⟩ => absurd e (hno x j)⟩ <;> (rw [List.mem_singleton.mp hw] at *)
    · exact places_rising _ _
    · exact fun x hx => (hall x).mp hx
    · exact (hall root).mpr hroot
    · exact .inl fun x hx => (hall x).mpr (hF.within s hs x hx)
    · have := (hall x).mp hx
      rw [List.getElem?_replicate, if_pos (by omega)]
  refine WSs.cons ?_
  refine WS.while (fun k S H2 => ∃ (Wt : List Pr) (T : List (Option Int)) (w : Addr) (o1 o2 : Option MV), S = sgH m root a (some (.ref pr)) (some (.ref gr)) (some (.ref lf)) (some (.ref t)) (some (.ref w)) o1 o2 ∧ ((w, MO.list (Wt.map prV)) :: (t, MO.list (T.map ov)) :: (lf, .list ((lefts R P).map .int)) :: (gr, .list ((P.map (·.1)).map tpV)) :: (pr, .list (P.map prV)) :: H).Sublist H2 ∧ Chp m R (lefts R P) (P.map (·.1)) Wt T ∧ Span m root R (lefts R P) Wt T ∧ k = msr Wt ∧ Wt.length ≤ 12) (msr [(places m fun _ => true, root)]) ⟨_, _, w0, none, none, rfl, List.Sublist.refl _, ch0, sp0, rfl, by simp⟩ ?_
  rintro k S H2 ⟨Wt, T, w, o1, o2, rfl, hs2, hch, hsp, rfl, hWl⟩
  refine WT.plain (WE.var (by wtm_at "at") (WB.list (xs := Wt.map prV) (hs2.subset List.mem_cons_self) (by simp; omega) ?_))
  rw [List.length_map]
  refine if_d (fun hpos => ?_) (fun hz => ?_)
  · obtain ⟨Wt, ⟨g, b⟩, rfl⟩ := concat_of hpos
    have hgm : (g, b) ∈ Wt ++ [(g, b)] := List.mem_append_right _ (List.mem_singleton.mpr rfl)
    have hgr : g.Pairwise (· < ·) := hch.rising _ hgm
    have hgl : (g.length : Int) ≤ m := within_short (by omega) (rising_nodup hgr) (hch.within _ hgm)
    have hgp : 0 < g.length := List.length_pos_of_mem (hch.self _ hgm)
    refine WSs.sub ?_ hs2
    refine WSs.cons (WS.assignT (WE.popLast ?_))
    repeat wtm_at "e"
    refine ⟨w, (Wt ++ [(g, b)]).map prV, .tup [.tup (g.map .int), .int b], _, rfl, by wtm_at "mem", by simp, by simp [sizeLine]; simp at hWl; omega, by wtm_at "upd", ?_⟩
    rw [show ((Wt ++ [(g, b)]).map prV).eraseIdx (((Wt ++ [(g, b)]).map prV).length - 1) = Wt.map prV by
      rw [List.map_append, List.map_cons, List.map_nil, List.length_append, List.length_singleton, Nat.add_sub_cancel]; exact erase_last _ _]
    refine WA.tup2 hA' (by wtm_at "put") (by wtm_at "put") ?_
    refine seq_next ?_
    have hms : msr (Wt ++ [(g, b)]) = msr Wt + (2 * g.length - 1) := by rw [msr_append]; simp [msr]
    have hWl' : Wt.length ≤ 11 := by simp at hWl; omega
    refine WSs.cons ?_
    repeat wtm_at "e"
    refine if_d (fun h1 => ?_) (fun h1 => ?_)
    · rw [List.length_map] at h1
      refine WSs.cons ?_
      repeat wtm_at "e"
      refine WE.callF (by wtm_at "mem") X.p_entered ?_
      repeat wtm_at "e"
      refine WE.callF (by wtm_at "mem") X.p_parts_of ?_
      repeat wtm_at "e"
      refine sp_parts X (hA'.le (by omega : n + 2 ≤ n + 7)) (g := g) (F := P.map (·.1)) (by omega) (rising_nodup hgr) (fun s hs => by
        have := within_short (by omega) (rising_nodup (hF.rising s hs)) (hF.within s hs)
        omega) (by wtm_at "mem") fun D pf hpf => ?_
      repeat wtm_at "e"
      refine sp_entered X (hA'.le (by omega : n + 1 ≤ n + 7)) (m := m) (R := R) (L := lefts R P) (T := T) hm hR hok (by simp [lefts]) hch.len (by omega) (rising_nodup hgr) (hch.within _ hgm) (hpf.ok hF) (hch.self _ hgm) (by wtm_at "mem") (by wtm_at "mem") fun E M T' he hx => ?_
      have hsp2 := hsp.go hch hF hIF hpf he hx
      have hch2 := hch.go hF hpf he
      have hlt := msr_lt (by omega) hpf hF he hch2
      have hWM : (Wt ++ M).length ≤ 12 := by
        have nd : ((Wt ++ M).map (·.2)).Nodup := by
          refine List.pairwise_map.mpr (List.Pairwise.imp_of_mem (fun {p q} hp hq hpq e => ?_) hch2.apart)
          exact hpq _ (hch2.self p hp) (e ▸ hch2.self q hq)
        have := within_short (m := m) (by omega) nd fun x hx => by
          obtain ⟨p, hp, rfl⟩ := List.mem_map.mp hx
          exact hch2.within p hp _ (hch2.self p hp)
        rw [List.length_map] at this
        omega
      refine W2.addL (xs := Wt.map prV) (ys := M.map prV) (by wtm_at "mem") (by wtm_at "mem") (by simp [sizeLine]; simp at hWM; omega) fun w2 _ => ?_
      rw [← List.map_append]
      repeat wtm_at "e"
      refine seq_next (WSs.nil (seq_next (WSs.nil (loop_next ?_))))
      exact ⟨msr (Wt ++ M), by rw [msr_append, hms]; omega, Wt ++ M, T', w2, _, _, rfl, .cons_cons _ (.cons _ (.cons _ (.cons _ (.refl _)))), hch2, hsp2, rfl, hWM⟩
    · rw [List.length_map] at h1
      refine WSs.nil (seq_next (WSs.nil (loop_next ?_)))
      exact ⟨msr Wt, by rw [hms]; omega, Wt, T, w, _, _, rfl, List.Sublist.refl _, hch.pop, hsp.pop (hch.self _ hgm) (by omega), rfl, by omega⟩
  · have : Wt = [] := List.length_eq_zero_iff.mp (by omega)
    subst this
    refine seq_next (WSs.sub ?_ hs2)
    refine WSs.cons ?_
    repeat wtm_at "s"
    exact ⟨_, .cons _ (.cons_cons _ (.cons _ (.cons _ (.cons _ (.refl _))))), q t P T hP hch hsp.cov⟩
end
set_option maxRecDepth 100000
set_option maxHeartbeats 4000000
open PySem PySem.W PySem.Calls PyProof.Rows
section
variable {C : Cx} {A : Around} {H : Hp} {n : Nat} {Q : MV → Hp → Prop}
/-! what a road bears -/
def bo (r : Rd) (P : List Pr) : Int := (P.map fun p => if Enters r p.1 then p.2 else 0).sum
theorem fold_bo (r : Rd) : ∀ (P : List Pr) (l : Int), P.foldl (fun l p => if r.2.1 ∈ p.1 ∧ ¬ r.1 ∈ p.1 then l - p.2 else l) l = l - bo r P
  | [], l => by simp [bo]
  | p :: P, l => by
    rw [List.foldl_cons, fold_bo r P]
    unfold bo
    rw [List.map_cons, List.sum_cons]
    by_cases h : Enters r p.1
    · rw [if_pos h, if_pos h]; omega
    · rw [if_neg h, if_neg h]; omega
theorem left_bo (r : Rd) (P : List Pr) : leftF r P P.length = r.2.2 - bo r P := by
  unfold leftF; rw [List.take_length]; exact fold_bo r P _
def rO (R : List Rd) : Option Int → Option Rd
  | none => none
  | some j => R[j.toNat]?
def cO (R : List Rd) (o : Option Int) : Int := match rO R o with
  | some r => r.2.2
  | none => 0
def bO (R : List Rd) (P : List Pr) (o : Option Int) : Int := match rO R o with
  | some r => bo r P
  | none => 0
def eO (R : List Rd) (p : Pr) (o : Option Int) : Int := match rO R o with
  | some r => if Enters r p.1 then p.2 else 0
  | none => 0
theorem total_c (R : List Rd) : ∀ (T : List (Option Int)), ((T.map ov).filterMap (cst R)).sum = (T.map (cO R)).sum
  | [] => rfl
  | o :: T => by
    have ih := total_c R T
    rw [List.map_cons, List.map_cons, List.sum_cons, List.filterMap_cons]
    cases o with
    | none => simp only [ov, cst, cO, rO]; omega
    | some j =>
      simp only [ov, cst, cO, rO]
      cases hr : R[j.toNat]? with
      | none => simp only [Option.map_none]; omega
      | some r => simp only [Option.map_some, List.sum_cons]; omega
theorem bO_cons (R : List Rd) (p : Pr) (P : List Pr) (o : Option Int) : bO R (p :: P) o = eO R p o + bO R P o := by
  unfold bO eO
  cases rO R o with
  | none => rfl
  | some r => simp [bo]
theorem sum_zero {α : Type} {f : α → Int} : ∀ {l : List α}, (∀ x ∈ l, f x = 0) → (l.map f).sum = 0
  | [], _ => rfl
  | a :: l, h => by rw [List.map_cons, List.sum_cons, h a List.mem_cons_self, sum_zero fun x hx => h x (List.mem_cons_of_mem _ hx)]; rfl
theorem sum_once {α : Type} {f : α → Int} {c : Int} (hc : 0 ≤ c) : ∀ {l : List α}, (∀ x ∈ l, f x = 0 ∨ f x = c) → (∀ (i j : Nat) (x y : α), l[i]? = some x → l[j]? = some y → f x ≠ 0 → f y ≠ 0 → i = j) → (l.map f).sum ≤ c
  | [], _, _ => hc
  | a :: l, h, h1 => by
    rw [List.map_cons, List.sum_cons]
    by_cases ha : f a = 0
    · have := sum_once hc (l := l) (fun x hx => h x (List.mem_cons_of_mem _ hx)) fun i j x y hi hj hx hy => by
        have := h1 (i + 1) (j + 1) x y (by simpa using hi) (by simpa using hj) hx hy
        omega
      omega
    · have hz := sum_zero (f := f) (l := l) fun x hx => by
        apply Classical.byContradiction
        intro hne
        obtain ⟨i, hi⟩ := List.mem_iff_getElem?.mp hx
        have := h1 0 (i + 1) a x rfl (by simpa using hi) ha hne
        omega
      rcases h a List.mem_cons_self with h2 | h2
      · exact absurd h2 ha
      · omega
theorem sum_add {α : Type} (f g : α → Int) : ∀ (l : List α), (l.map fun x => f x + g x).sum = (l.map f).sum + (l.map g).sum
  | [] => rfl
  | a :: l => by simp only [List.map_cons, List.sum_cons]; rw [sum_add f g l]; omega
theorem once_le {R : List Rd} {T : List (Option Int)} : ∀ (P : List Pr), (∀ p ∈ P, 0 ≤ p.2 ∧ ∀ (i j : Nat) (x y : Option Int), T[i]? = some x → T[j]? = some y → eO R p x ≠ 0 → eO R p y ≠ 0 → i = j) → (T.map (bO R P)).sum ≤ (P.map (·.2)).sum
  | [], _ => by
    rw [sum_zero]
    · exact Int.le_refl _
    · intro x _; unfold bO bo; cases rO R x <;> rfl
  | p :: P, h => by
    have e : (T.map (bO R (p :: P))) = T.map fun o => eO R p o + bO R P o := List.map_congr_left fun o _ => bO_cons R p P o
    rw [e, sum_add, List.map_cons, List.sum_cons]
    have h1 := once_le P fun q hq => h q (List.mem_cons_of_mem _ hq)
    obtain ⟨h2, h3⟩ := h p List.mem_cons_self
    have h4 := sum_once (f := eO R p) (c := p.2) h2 (l := T) (fun o _ => by
      unfold eO
      cases rO R o with
      | none => exact .inl rfl
      | some r => by_cases he : Enters r p.1 <;> simp [he]) h3
    omega
theorem tot_le {m root : Int} {R : List Rd} {P : List Pr} {T : List (Option Int)} (hP : Priced m root R P) (hc : Chp m R (lefts R P) (P.map (·.1)) [] T) : (T.map (cO R)).sum ≤ (P.map (·.2)).sum := by
  have hlen := hc.len
  have at_ : ∀ (x : Nat) (j : Int), T[x]? = some (some j) → ∃ (i : Nat) (r : Rd), j = (i : Int) ∧ R[i]? = some r ∧ r.2.1 = (x : Int) ∧ leftF r P P.length = 0 := fun x j hx => by
    have hl := get_lt hx
    obtain ⟨i, r, h1, h2, h3, h4⟩ := hc.ok (x : Int) j (by omega) (by omega) (by simpa using hx)
    rw [lefts_get h2] at h4
    injection h4 with h4
    exact ⟨i, r, h1, h2, h3, h4⟩
  have e : T.map (cO R) = T.map (bO R P) := List.map_congr_left fun o ho => by
    obtain ⟨x, hx⟩ := List.mem_iff_getElem?.mp ho
    cases o with
    | none => rfl
    | some j =>
      obtain ⟨i, r, rfl, hr, _, h0⟩ := at_ x j hx
      rw [left_bo] at h0
      simp only [cO, bO, rO, Int.toNat_natCast, hr]
      omega
  rw [e]
  refine once_le P fun p hp => ⟨by have := hP.pos p hp; omega, ?_⟩
  have ent : ∀ (i : Nat) (x : Option Int), T[i]? = some x → eO R p x ≠ 0 → (i : Int) ∈ p.1 ∧ EntAt R T (i : Int) p.1 := fun i x hi hne => by
    cases x with
    | none => exact absurd rfl hne
    | some j =>
      obtain ⟨k, r, rfl, hr, hx, _⟩ := at_ i j hi
      simp only [eO, rO, Int.toNat_natCast, hr] at hne
      by_cases he : Enters r p.1
      · exact ⟨hx ▸ he.1, k, r, by simpa using hi, hr, he.2⟩
      · simp [he] at hne
  intro i j x y hi hj hx hy
  obtain ⟨h1, h2⟩ := ent i x hi hx
  obtain ⟨h3, h4⟩ := ent j y hj hy
  have := hc.once p.1 (List.mem_map.mpr ⟨p, hp, rfl⟩) _ h1 _ h3 h2 h4
  omega
theorem sum_nonneg {α : Type} {f : α → Int} : ∀ {l : List α}, (∀ x ∈ l, 0 ≤ f x) → 0 ≤ (l.map f).sum
  | [], _ => Int.le_refl _
  | a :: l, h => by
    rw [List.map_cons, List.sum_cons]
    have := h a List.mem_cons_self
    have := sum_nonneg (f := f) (l := l) fun x hx => h x (List.mem_cons_of_mem _ hx)
    omega
theorem sum_ge {α : Type} {f : α → Int} : ∀ {l : List α}, (∀ x ∈ l, 0 ≤ f x) → ∀ x ∈ l, f x ≤ (l.map f).sum
  | a :: l, h, x, hx => by
    rw [List.map_cons, List.sum_cons]
    have h1 := h a List.mem_cons_self
    have h2 := sum_nonneg (f := f) (l := l) fun x hx => h x (List.mem_cons_of_mem _ hx)
    rcases List.mem_cons.mp hx with rfl | hx
    · omega
    · have := sum_ge (f := f) (l := l) (fun x hx => h x (List.mem_cons_of_mem _ hx)) x hx
      omega
theorem sum_le {α : Type} {f g : α → Int} : ∀ {l : List α}, (∀ x ∈ l, f x ≤ g x) → (l.map f).sum ≤ (l.map g).sum
  | [], _ => Int.le_refl _
  | a :: l, h => by
    rw [List.map_cons, List.map_cons, List.sum_cons, List.sum_cons]
    have := h a List.mem_cons_self
    have := sum_le (f := f) (g := g) (l := l) fun x hx => h x (List.mem_cons_of_mem _ hx)
    omega
theorem bear_ge {Sel : List Rd} : ∀ (P : List Pr), (∀ p ∈ P, 0 ≤ p.2 ∧ ∃ r ∈ Sel, Enters r p.1) → (P.map (·.2)).sum ≤ (Sel.map fun r => bo r P).sum
  | [], _ => by rw [sum_zero (f := fun r => bo r [])]; · exact Int.le_refl _
                · intro r _; rfl
  | p :: P, h => by
    have e : (Sel.map fun r => bo r (p :: P)) = Sel.map fun r => (if Enters r p.1 then p.2 else 0) + bo r P := List.map_congr_left fun r _ => by simp [bo]
    rw [e, sum_add, List.map_cons, List.sum_cons]
    have h1 := bear_ge P fun q hq => h q (List.mem_cons_of_mem _ hq)
    obtain ⟨h2, r, hr, he⟩ := h p List.mem_cons_self
    have h3 := sum_ge (f := fun r => if Enters r p.1 then p.2 else 0) (l := Sel) (fun x _ => by split <;> omega) r hr
    simp only [if_pos he] at h3
    omega
/-- no set of roads that enters each set costs less than the prices -/
theorem dual {m root : Int} {R : List Rd} {P : List Pr} {Sel : List Rd} (hP : Priced m root R P) (hs : ∀ r ∈ Sel, r ∈ R) (he : ∀ p ∈ P, ∃ r ∈ Sel, Enters r p.1) : (P.map (·.2)).sum ≤ (Sel.map (·.2.2)).sum := by
  refine Int.le_trans (bear_ge P fun p hp => ⟨by have := hP.pos p hp; omega, he p hp⟩) (sum_le fun r hr => ?_)
  have := hP.nonneg r (hs r hr)
  rw [left_bo] at this
  omega

/-! the tree found -/
def selT (R : List Rd) (T : List (Option Int)) : List Rd := T.filterMap (rO R)
theorem selT_cost (R : List Rd) : ∀ (T : List (Option Int)), ((selT R T).map (·.2.2)).sum = (T.map (cO R)).sum
  | [] => rfl
  | o :: T => by
    have ih := selT_cost R T
    unfold selT at ih ⊢
    rw [List.filterMap_cons, List.map_cons, List.sum_cons]
    unfold cO at ih ⊢
    cases rO R o with
    | none => simp only; omega
    | some r => simp only [List.map_cons, List.sum_cons]; omega
theorem cov_enters {m root : Int} {R : List Rd} {T : List (Option Int)} (h : Cov m root R [] T) {g : List Int} (hr : root ∉ g) (hw : Within m g) (hne : ∃ x, x ∈ g) (hok : ∀ (x j : Int), 0 ≤ x → x < m → T[x.toNat]? = some (some j) → ∃ (i : Nat) (r : Rd), j = (i : Int) ∧ R[i]? = some r ∧ r.2.1 = x) : ∃ r ∈ selT R T, Enters r g := by
  apply Classical.byContradiction
  intro hno
  obtain ⟨y, hy⟩ := hne
  obtain ⟨h0, h1⟩ := hw y hy
  refine h (fun x => x ∉ g) hr (fun x j r hx0 hx1 ht hr' hz hxg => hno ⟨r, ?_, ?_, hz⟩) (fun w hw => nomatch hw) y h0 h1 hy
  · exact List.mem_filterMap.mpr ⟨_, List.mem_of_getElem? ht, by simpa [rO] using hr'⟩
  · obtain ⟨i, r', e, e1, e2⟩ := hok x j hx0 hx1 ht
    have : i = j := by omega
    subst this
    rw [hr'] at e1; cases e1
    rw [e2]; exact hxg
/-! the least: what the law asks -/
structure Sol (m root : Int) (R Sel : List Rd) : Prop where
  sub : ∀ r ∈ Sel, r ∈ R
  ent : ∀ g : List Int, root ∉ g → Within m g → (∃ x, x ∈ g) → ∃ r ∈ Sel, Enters r g
def costs (Sel : List Rd) : Int := (Sel.map (·.2.2)).sum
structure Least (m root : Int) (R : List Rd) (v : Int) : Prop where
  some : ∃ Sel, Sol m root R Sel ∧ costs Sel = v ∧ (Sel.map (·.2.1)).Nodup
  least : ∀ Sel, Sol m root R Sel → v ≤ costs Sel
theorem selT_nodup {m : Int} {R : List Rd} {T : List (Option Int)} (hT : (T.length : Int) = m) (hok : ∀ (x j : Int), 0 ≤ x → x < m → T[x.toNat]? = some (some j) → ∃ (i : Nat) (r : Rd), j = (i : Int) ∧ R[i]? = some r ∧ r.2.1 = x) : ((selT R T).map (·.2.1)).Nodup := by
  have key : ∀ (T2 : List (Option Int)) (k : Nat), (∀ (i : Nat) (o : Option Int), T2[i]? = some o → T[k + i]? = some o) → ((selT R T2).map (·.2.1)).Pairwise (· ≠ ·) ∧ ∀ y ∈ (selT R T2).map (·.2.1), (k : Int) ≤ y := by
    intro T2
    induction T2 with
    | nil => intro k _; exact ⟨List.Pairwise.nil, fun y hy => nomatch hy⟩
    | cons o T2 ih =>
      intro k hk
      obtain ⟨i1, i2⟩ := ih (k + 1) fun i o' h => by
        have := hk (i + 1) o' (by simpa using h)
        rwa [show k + 1 + i = k + (i + 1) by omega]
      have h0 := hk 0 o rfl
      have hl := get_lt h0
      unfold selT at i1 i2 ⊢
      rw [List.filterMap_cons]
      cases o with
      | none => exact ⟨i1, fun y hy => by have := i2 y hy; omega⟩
      | some j =>
        obtain ⟨i, r, e1, e2, e3⟩ := hok (k : Int) j (by omega) (by omega) (by simpa using h0)
        subst e1
        simp only [rO, Int.toNat_natCast, e2]
        refine ⟨List.pairwise_cons.mpr ⟨fun y hy => ?_, i1⟩, fun y hy => ?_⟩
        · have := i2 y hy
          show r.2.1 ≠ y
          omega
        · rcases List.mem_cons.mp hy with rfl | hy
          · show (k : Int) ≤ r.2.1; omega
          · have := i2 y hy; omega
  exact (key T 0 fun i o h => by simpa using h).1
theorem least_of {m root : Int} {R : List Rd} {P : List Pr} {T : List (Option Int)} (hP : Priced m root R P) (hc : Chp m R (lefts R P) (P.map (·.1)) [] T) (hv : Cov m root R [] T) : Least m root R (T.map (cO R)).sum := by
  have hok : ∀ (x j : Int), 0 ≤ x → x < m → T[x.toNat]? = some (some j) → ∃ (i : Nat) (r : Rd), j = (i : Int) ∧ R[i]? = some r ∧ r.2.1 = x := fun x j h0 h1 ht => by
    obtain ⟨i, r, e1, e2, e3, _⟩ := hc.ok x j h0 h1 ht
    exact ⟨i, r, e1, e2, e3⟩
  have hsub : ∀ r ∈ selT R T, r ∈ R := fun r hr => by
    obtain ⟨o, _, ho⟩ := List.mem_filterMap.mp hr
    unfold rO at ho
    cases o with
    | none => cases ho
    | some j => exact List.mem_of_getElem? ho
  refine ⟨⟨selT R T, ⟨hsub, fun g h1 h2 h3 => cov_enters hv h1 h2 h3 hok⟩, selT_cost R T, selT_nodup hc.len hok⟩, fun Sel hs => ?_⟩
  exact Int.le_trans (tot_le hP hc) (dual hP hs.sub fun p hp => hs.ent p.1 (hP.rt p hp) (hP.within p hp) (hP.ne p hp))
theorem Least.mono {m root : Int} {R R' : List Rd} {v v' : Int} (h : Least m root R v) (h' : Least m root R' v') (hs : ∀ r ∈ R, r ∈ R') : v' ≤ v := by
  obtain ⟨Sel, h1, h2, _⟩ := h.some
  rw [← h2]
  exact h'.least Sel ⟨fun r hr => hs r (h1.sub r hr), h1.ent⟩
theorem Least.uniq {m root : Int} {R R' : List Rd} {v v' : Int} (h : Least m root R v) (h' : Least m root R' v') (hs : ∀ r, r ∈ R ↔ r ∈ R') : v' = v :=
  Int.le_antisymm (h.mono h' fun r => (hs r).mp) (h'.mono h fun r => (hs r).mpr)
def dear (p c : Int) (r : Rd) : Rd := (r.1, r.2.1, r.2.2 + c * (if r.2.1 = p then 1 else 0))
theorem ent_map {Sel : List Rd} {f : Rd → Rd} (hf : ∀ r, (f r).1 = r.1 ∧ (f r).2.1 = r.2.1) {g : List Int} (h : ∃ r ∈ Sel, Enters r g) : ∃ r ∈ Sel.map f, Enters r g := by
  obtain ⟨r, hr, h1, h2⟩ := h
  exact ⟨f r, List.mem_map.mpr ⟨r, hr, rfl⟩, by rw [(hf r).2]; exact h1, by rw [(hf r).1]; exact h2⟩
theorem costs_map_add {p c : Int} : ∀ (Sel : List Rd), costs (Sel.map (dear p c)) = costs Sel + c * (Sel.countP fun r => decide (r.2.1 = p))
  | [] => by simp [costs]
  | r :: Sel => by
    have ih := costs_map_add (p := p) (c := c) Sel
    unfold costs at ih ⊢
    simp only [List.map_cons, List.sum_cons, List.countP_cons]
    rw [ih]
    by_cases e : r.2.1 = p
    · simp only [dear, e, if_true, decide_true]
      rw [show ((List.countP (fun r => decide (r.2.1 = p)) Sel + 1 : Nat) : Int) = (List.countP (fun r => decide (r.2.1 = p)) Sel : Int) + 1 from rfl, Int.mul_add]
      omega
    · simp only [dear, e, if_false, decide_false]
      simp
      omega
theorem count_nodup {p : Int} : ∀ {Sel : List Rd}, (Sel.map (·.2.1)).Nodup → Sel.countP (fun r => decide (r.2.1 = p)) ≤ 1
  | [], _ => by simp
  | r :: Sel, h => by
    rw [List.map_cons, List.nodup_cons] at h
    have ih := count_nodup (p := p) h.2
    rw [List.countP_cons]
    by_cases e : r.2.1 = p
    · have : Sel.countP (fun r => decide (r.2.1 = p)) = 0 := by
        rw [List.countP_eq_zero]
        intro r' hr' h'
        rw [decide_eq_true_eq] at h'
        exact h.1 (List.mem_map.mpr ⟨r', hr', by rw [h', e]⟩)
      simp [e, this]
    · simp [e]; exact ih
theorem dear_dear {p c : Int} (r : Rd) : dear p (-c) (dear p c r) = r := by
  obtain ⟨a, b, d⟩ := r
  simp only [dear]
  by_cases e : b = p <;> simp [e] <;> omega
theorem costs_filter (q : Rd → Bool) : ∀ {Sel : List Rd}, (∀ r ∈ Sel, 0 ≤ r.2.2) → costs (Sel.filter q) ≤ costs Sel
  | [], _ => Int.le_refl _
  | r :: Sel, h => by
    have ih := costs_filter q (Sel := Sel) fun r hr => h r (List.mem_cons_of_mem _ hr)
    have h0 := h r List.mem_cons_self
    unfold costs at ih ⊢
    rw [List.filter_cons]
    by_cases e : q r = true
    · rw [if_pos e]; simp only [List.map_cons, List.sum_cons]; omega
    · rw [if_neg e]; simp only [List.map_cons, List.sum_cons]; omega
theorem Least.dearer {m root p c v v' : Int} {R : List Rd} (h : Least m root R v) (h' : Least m root (R.map (dear p c)) v') (hc : 0 ≤ c) (hp : 0 ≤ p ∧ p < m) (hn : ∀ r ∈ R, 0 ≤ r.2.2) : v' = if p = root then v else v + c := by
  have fw : ∀ (c : Int) (Sel : List Rd), (∀ g : List Int, root ∉ g → Within m g → (∃ x, x ∈ g) → ∃ r ∈ Sel, Enters r g) → ∀ g : List Int, root ∉ g → Within m g → (∃ x, x ∈ g) → ∃ r ∈ Sel.map (dear p c), Enters r g :=
    fun c Sel hs g h1 h2 h3 => ent_map (f := dear p c) (fun r => ⟨rfl, rfl⟩) (hs g h1 h2 h3)
  have back : ∀ Sel, Sol m root (R.map (dear p c)) Sel → Sol m root R (Sel.map (dear p (-c))) := fun Sel hs => ⟨fun r hr => by
    obtain ⟨r', hr', rfl⟩ := List.mem_map.mp hr
    obtain ⟨r2, hr2, rfl⟩ := List.mem_map.mp (hs.sub r' hr')
    rw [dear_dear]; exact hr2, fw (-c) Sel hs.ent⟩
  obtain ⟨Sel, s1, s2, s3⟩ := h.some
  obtain ⟨Sel', t1, t2, t3⟩ := h'.some
  have e2 := h.least _ (back Sel' t1)
  rw [costs_map_add, t2] at e2
  have hk : 0 ≤ c * (Sel'.countP fun r => decide (r.2.1 = p)) := Int.mul_nonneg hc (by omega)
  rw [Int.neg_mul] at e2
  by_cases e : p = root
  · rw [if_pos e]
    have e1 := h'.least (Sel.filter fun r => !decide (r.2.1 = root)) ⟨fun r hr => by
      rw [List.mem_filter] at hr
      have hne : ¬ r.2.1 = p := by rw [e]; simpa using hr.2
      exact List.mem_map.mpr ⟨r, s1.sub r hr.1, by simp [dear, hne]⟩, fun g h1 h2 h3 => by
      obtain ⟨r, hr, hE⟩ := s1.ent g h1 h2 h3
      exact ⟨r, List.mem_filter.mpr ⟨hr, by simpa using fun (q : r.2.1 = root) => h1 (q ▸ hE.1)⟩, hE⟩⟩
    have e3 := costs_filter (fun r => !decide (r.2.1 = root)) (Sel := Sel) fun r hr => hn r (s1.sub r hr)
    omega
  · rw [if_neg e]
    have e1 := h'.least (Sel.map (dear p c)) ⟨fun r hr => by
      obtain ⟨r', hr', rfl⟩ := List.mem_map.mp hr
      exact List.mem_map.mpr ⟨r', s1.sub r' hr', rfl⟩, fw c Sel s1.ent⟩
    rw [costs_map_add, s2] at e1
    have hle : c * (Sel.countP fun r => decide (r.2.1 = p)) ≤ c * 1 := Int.mul_le_mul_of_nonneg_left (by have := count_nodup (p := p) s3; omega) hc
    have hge : c * 1 ≤ c * (Sel'.countP fun r => decide (r.2.1 = p)) := by
      refine Int.mul_le_mul_of_nonneg_left ?_ hc
      obtain ⟨r, hr, hE⟩ := t1.ent [p] (by simpa using fun q => e q.symm) (fun x hx => by rw [List.mem_singleton.mp hx]; exact hp) ⟨p, by simp⟩
      have : 0 < Sel'.countP fun r => decide (r.2.1 = p) := List.countP_pos_iff.mpr ⟨r, hr, by simpa using hE.1⟩
      omega
    omega
theorem Least.nil {m root v : Int} (h : Least m root [] v) : v = 0 := by
  obtain ⟨Sel, s1, s2, _⟩ := h.some
  have : Sel = [] := by
    cases Sel with
    | nil => rfl
    | cons r Sel => exact nomatch s1.sub r List.mem_cons_self
  subst this
  exact s2.symm
/-! least -/
def Whole (m root : Int) (R : List Rd) : Prop := ∀ x, 0 ≤ x → x < m → Rch R root x
theorem cut_some {m root : Int} {R : List Rd} {W : List Int} (h : ¬ Whole m root R) (net : Net m R root W) : (places m fun x => !decide (x ∈ W)) ≠ [] := fun e => h fun x h0 h1 => by
  refine net.rch x (Classical.byContradiction fun hn => ?_)
  have : x ∈ places m fun x => !decide (x ∈ W) := by rw [places_mem]; exact ⟨⟨h0, h1⟩, by simpa using hn⟩
  rw [e] at this; cases this
theorem sp_least (X : Fx C) (hA : AOk A (n + 9)) {a : Addr} {m root : Int} {R : List Rd} (hm : 1 ≤ m ∧ m ≤ 12) (hroot : 0 ≤ root ∧ root < m) (hR : R.length ≤ 60) (hok : ∀ r ∈ R, RdOk m r) (ha : (a, MO.list (R.map rdV)) ∈ H)
    (q0 : ¬ Whole m root R → Q .none H) (q : Whole m root R → ∀ v : Int, Least m root R v → Q (.int v) H) : WF C A H "least" [.int m, .ref a, .int root] Q := by
  refine WF.intro X.p_least hA ["many", "roads", "root"] [] ["cut_off", "total", "cheapest"] [] [("many", some (.int m)), ("roads", some (.ref a)), ("root", some (.int root))] (by decide +kernel) rfl (by wtm_at "bind") rfl ?_
  intro env hA' K
  refine WSs.cons ?_
  repeat wtm_at "s"
  refine WE.callF (by wtm_at "mem") X.p_cut_off ?_
  repeat wtm_at "s"
  refine sp_cut X (hA'.le (by omega : n + 6 ≤ n + 8)) (R := R) hm hroot hR hok ha fun D0 W hD0 net hs => ?_
  repeat wtm_at "s"
  intro D1 _
  by_cases hreach : Whole m root R
  · rw [cut_none hreach net hs]
    refine W2.neSame (d := .list []) hA' (.list (a := D0) (xs := []) (by exact List.mem_cons_of_mem _ List.mem_cons_self) .nil) (.list (a := D1) (xs := []) (by wtm_at "mem") .nil) (by decide) ?_
    repeat wtm_at "e"
    refine seq_next (WSs.sub ?_ (.cons _ (.cons _ (.refl _))))
    refine WSs.cons ?_
    repeat wtm_at "e"
    refine WE.callF (by wtm_at "mem") X.p_total ?_
    repeat wtm_at "e"
    refine WE.callF (by wtm_at "mem") X.p_cheapest ?_
    repeat wtm_at "e"
    refine sp_cheapest X hA' (R := R) hm hroot hR hok ha hreach fun t P T hP hc hv => ?_
    have hlen := hc.len
    repeat wtm_at "e"
    refine sp_total X (hA'.le (by omega : n + 1 ≤ n + 8)) (R := R) (T := T.map ov) hR (by simp; omega) (by wtm_at "mem") (by wtm_at "mem") (fun x hx => ?_) ?_
    · obtain ⟨o, ho, rfl⟩ := List.mem_map.mp hx
      obtain ⟨i, hi⟩ := List.mem_iff_getElem?.mp ho
      have hil := get_lt hi
      cases o with
      | none => exact .inl rfl
      | some j =>
        obtain ⟨k, r, rfl, hr, _⟩ := hc.ok (i : Int) j (by omega) (by omega) (by simpa using hi)
        exact .inr ⟨_, r, rfl, by omega, by simpa using hr⟩
    · rw [total_c]
      exact ⟨_, List.sublist_cons_self _ _, q hreach _ (least_of hP hc hv)⟩
  · refine W2.neD hA' (.list (a := D0) (by exact List.mem_cons_of_mem _ List.mem_cons_self) (dps_ints _)) (.list (a := D1) (xs := []) (by wtm_at "mem") .nil) (shaped_listI _) (by decide) ?_
    rw [show PyData.eqv (.list ((places m fun x => !decide (x ∈ W)).map .int)) (.list []) = decide ((places m fun x => !decide (x ∈ W)) = []) from eqvAll_ints _ [], decide_eq_false (cut_some hreach net)]
    repeat wtm_at "e"
    refine WSs.cons ?_
    repeat wtm_at "s"
    exact ⟨_, .cons _ (.cons _ (.refl _)), q0 hreach⟩
end
set_option maxRecDepth 100000
set_option maxHeartbeats 4000000
open PySem PySem.W PySem.Calls PyProof.Rows
section
variable {C : Cx} {A : Around} {H : Hp} {n : Nat} {Q : MV → Hp → Prop}
def cellF (ns : List Int) (k : Int) : Int := if k < (ns.length : Int) then ns.getD k.toNat 0 else 0

theorem sp_cell (X : Fx C) (hA : AOk A (n + 1)) {ns : List Int} {k : Int} (hk : 0 ≤ k) (hl : ns.length ≤ 63) (q : Q (.int (cellF ns k)) H) : WF C A H "_law_cell_at" [.fl ns, .int k] Q := by
  refine WF.intro X.f_cell hA ["_law_script", "_law_k"] [] ["len"] [] [("_law_script", some (.fl ns)), ("_law_k", some (.int k))] (by decide +kernel) rfl (by wtm_at "bind") rfl ?_
  intro env hA' K
  refine WSs.cons (WS.if (WT.cmp ?_))
  refine WE.var (by wtm_at "at") ?_
  refine WE.callB (by wtm_at "mem") X.g_len ?_
  refine WEs.cons (WE.var (by wtm_at "at") (WEs.nil ?_))
  refine WC.lenF (by omega) ?_
  refine W2.lt ?_
  refine ⟨_, rfl, ?_⟩
  by_cases h : k < (ns.length : Int)
  · rw [if_pos (by simpa using h)]
    refine WSs.cons (WS.ret ?_)
    refine WE.sub (WE.var (by wtm_at "at") (WE.var (by wtm_at "at") ?_))
    refine W2.itemF (x := ns.getD k.toNat 0) hk ?_ (by omega) ?_
    · have : k.toNat < ns.length := by omega
      simp [this]
    · refine ⟨H, List.Sublist.refl _, ?_⟩
      simp only [cellF, if_pos h] at q
      exact q
  · rw [if_neg (by simpa using h)]
    refine WSs.nil ?_
    refine WSs.cons (WS.ret (WE.int ?_))
    refine ⟨H, List.Sublist.refl _, ?_⟩
    simp only [cellF, if_neg h] at q
    exact q

theorem WE.cellC (X : Fx C) (hA : AOk A (n + 1)) {env : Env} {gs : List Str} {S : Sg} {ns : List Int} {k : Int} {kk : Nat} {p p1 p2 pos : Pos} (hl : ns.length ≤ 63) (hx : Str.ofString "_law_cell_at" ∈ gs) (a : At S "_law_script" (.fl ns)) (hk : 0 ≤ k) (q : Q (.int (cellF ns k)) H) :
    WE C A env gs S H (.Call (.Name "_law_cell_at" p) [.Name "_law_script" p1, .Constant (.int k) kk p2] [] pos) Q :=
  WE.callF hx X.f_cell (WEs.cons (WE.var a (WEs.cons (WE.int (WEs.nil (sp_cell X hA hk hl q))))))

theorem cell_bd {ns : List Int} (hb : ∀ x ∈ ns, Bd x) (k : Int) : Bd (cellF ns k) := by
  unfold cellF
  split
  · by_cases h : k.toNat < ns.length
    · have : ns.getD k.toNat 0 = ns[k.toNat] := by simp [h]
      rw [this]; exact hb _ (List.getElem_mem h)
    · have : ns.getD k.toNat 0 = 0 := by simp [h]
      rw [this]; exact Bd.small (by decide) (by decide)
  · exact Bd.small (by decide) (by decide)
def mixedF (c k : Int) : Int := (c * 16807 + k * k * 7919 + k * 48271 + 11) % 2147483647
theorem sp_mixed (X : Fx C) (hA : AOk A (n + 1)) {c k : Int} (hk : 0 ≤ k) (hk' : k < 1000) (q : Q (.int (mixedF c k)) H) : WF C A H "_law_mixed" [.int c, .int k] Q := by
  refine WF.intro X.f_mixed hA ["_law_cell", "_law_k"] [] [] [] [("_law_cell", some (.int c)), ("_law_k", some (.int k))] (by decide +kernel) rfl (by wtm_at "bind") rfl ?_
  intro env hA' K
  have hkk : k * k < 1000000 := by
    have : k * k ≤ 999 * 999 := Int.mul_le_mul (by omega) (by omega) (by omega) (by omega)
    omega
  have hkk0 : 0 ≤ k * k := Int.mul_nonneg hk hk
  refine WSs.cons ?_
  repeat wtm_at "s"
  exact ⟨H, List.Sublist.refl _, q⟩

theorem mixed_range (c k : Int) : 0 ≤ mixedF c k ∧ mixedF c k < 2147483647 := by
  unfold mixedF; omega
theorem mixed_bd (c k : Int) : Bd (mixedF c k) := by
  have := mixed_range c k
  exact Bd.small (by omega) (by omega)
def costF (c : Int) : Int := if c % 4 = 0 then c / 4 % 4 else if c % 4 = 1 then c / 4 % 30 else if c % 4 = 2 then c / 4 * 7919 % 1000003 else c / 4 * 48271 ^ 9 % 10 ^ 39
theorem costF_low (c : Int) : 0 ≤ costF c ∧ costF c < 10 ^ 39 := by
  unfold costF
  repeat' split
  all_goals omega
theorem costF_range (c : Int) : 0 ≤ costF c ∧ costF c < 10 ^ 40 := by
  have := costF_low c
  omega
theorem sp_cost (X : Fx C) (hA : AOk A (n + 1)) {c : Int} (hc : Bd c) (q : Q (.int (costF c)) H) : WF C A H "_law_cost" [.int c] Q := by
  refine WF.intro X.f_cost hA ["_law_cell"] [] [] [] [("_law_cell", some (.int c))] (by decide +kernel) rfl (by wtm_at "bind") rfl ?_
  intro env hA' K
  refine WSs.cons ?_
  repeat wtm_at "s"
  refine W2.powL (r := 48271 ^ 9) (by omega) (by decide) (by rfl) ?_
  refine W2.mulB (hc.div (by omega)) (by decide) ?_
  repeat wtm_at "s"
  refine W2.powL (r := 10 ^ 39) (by omega) (by decide) (by rfl) ?_
  repeat wtm_at "s"
  intro a ha
  repeat wtm_at "s"
  have h0 := Int.emod_nonneg c (by omega : (4 : Int) ≠ 0)
  have h4 := Int.emod_lt_of_pos c (by omega : (0 : Int) < 4)
  unfold costF at q
  refine W2.itemL (x := .int (if c % 4 = 0 then c / 4 % 4 else if c % 4 = 1 then c / 4 % 30 else if c % 4 = 2 then c / 4 * 7919 % 1000003 else c / 4 * 48271 ^ 9 % 10 ^ 39)) (by wtm_at "mem") h0 ?_ (by omega) ⟨H, List.sublist_cons_self _ _, q⟩
  rcases (by omega : c % 4 = 0 ∨ c % 4 = 1 ∨ c % 4 = 2 ∨ c % 4 = 3) with e | e | e | e <;> rw [e] <;> rfl
def roadF (c m : Int) : Rd := (c % m, (c % m + 1 + c / m % (m - 1)) % m, costF (c / m / m))
theorem sp_road (X : Fx C) (hA : AOk A (n + 2)) {c m : Int} (hc : Bd c) (hm : 2 ≤ m) (hm' : m ≤ 12) (q : Q (rdV (roadF c m)) H) : WF C A H "_law_road" [.int c, .int m] Q := by
  refine WF.intro X.f_road hA ["_law_cell", "_law_many"] ["_law_start", "_law_end"] ["_law_cost"] [] [("_law_cell", some (.int c)), ("_law_many", some (.int m)), ("_law_start", none), ("_law_end", none)] (by decide +kernel) rfl (by wtm_at "bind") rfl ?_
  intro env hA' K
  refine WSs.cons ?_
  repeat wtm_at "s"
  refine WE.callF (by wtm_at "mem") X.f_cost ?_
  repeat wtm_at "s"
  refine sp_cost X hA' ((hc.div (by omega)).div (by omega)) ?_
  repeat wtm_at "s"
  exact ⟨H, List.Sublist.refl _, q⟩

theorem wrap_at {m s d : Int} (hs : 0 ≤ s) (hs' : s < m) (hd : 0 ≤ d) (hd' : d < m) : (s + d) % m = if s + d < m then s + d else s + d - m := by
  split
  · exact Int.emod_eq_of_lt (by omega) (by omega)
  · rw [← Int.sub_emod_right]
    exact Int.emod_eq_of_lt (by omega) (by omega)
theorem wrap_ne {m s a b : Int} (hs : 0 ≤ s) (hs' : s < m) (ha : 0 ≤ a) (hab : a < b) (hb : b < m) : (s + a) % m ≠ (s + b) % m := by
  rw [wrap_at hs hs' ha (by omega), wrap_at hs hs' (by omega) hb]
  split <;> split <;> omega
theorem road_at_ok {m s d c : Int} (hs : 0 ≤ s) (hs' : s < m) (hd : 0 < d) (hd' : d < m) (hc : 0 ≤ c ∧ c < 10 ^ 40) : RdOk m (s, (s + d) % m, c) := by
  have e := wrap_at hs hs' (by omega : 0 ≤ d) hd'
  refine ⟨hs, hs', Int.emod_nonneg _ (by omega), Int.emod_lt_of_pos _ (by omega), ?_, hc.1, hc.2⟩
  show s ≠ (s + d) % m
  rw [e]
  split <;> omega
theorem tree_rd_ok {m s a b c : Int} (hs : 0 ≤ s) (hs' : s < m) (ha : 0 ≤ a) (hab : a < b) (hb : b < m) (hc : 0 ≤ c ∧ c < 10 ^ 40) : RdOk m ((s + a) % m, (s + b) % m, c) :=
  ⟨Int.emod_nonneg _ (by omega), Int.emod_lt_of_pos _ (by omega), Int.emod_nonneg _ (by omega), Int.emod_lt_of_pos _ (by omega), wrap_ne hs hs' ha hab hb, hc.1, hc.2⟩
theorem roadF_ok (c : Int) {m : Int} (hm : 2 ≤ m) : RdOk m (roadF c m) := by
  have h1 := Int.emod_nonneg c (by omega : m ≠ 0)
  have h2 := Int.emod_lt_of_pos c (by omega : 0 < m)
  have h3 := Int.emod_nonneg (c / m) (by omega : m - 1 ≠ 0)
  have h4 := Int.emod_lt_of_pos (c / m) (by omega : 0 < m - 1)
  have := road_at_ok h1 h2 (d := 1 + c / m % (m - 1)) (by omega) (by omega) (costF_range (c / m / m))
  rw [← Int.add_assoc] at this
  exact this
/-! least, as none or a number -/
def IsL (m root : Int) (R : List Rd) (o : Option Int) : Prop := (¬ Whole m root R ∧ o = none) ∨ (Whole m root R ∧ ∃ v, o = some v ∧ Least m root R v)
theorem Rch.mono {R R' : List Rd} {root x : Int} (h : Rch R root x) (hs : ∀ r ∈ R, r ∈ R') : Rch R' root x := by
  induction h with
  | root => exact .root
  | step _ hm ih => exact .step ih (hs _ hm)
theorem Rch.map {R : List Rd} {root x : Int} (f : Rd → Rd) (hf : ∀ r, (f r).1 = r.1 ∧ (f r).2.1 = r.2.1) (h : Rch R root x) : Rch (R.map f) root x := by
  induction h with
  | root => exact .root
  | @step r _ hm ih =>
    have := Rch.step (r := f r) (by rw [(hf r).1]; exact ih) (List.mem_map.mpr ⟨r, hm, rfl⟩)
    rwa [(hf r).2] at this
theorem Rch.unmap {R : List Rd} {root x : Int} (f : Rd → Rd) (hf : ∀ r, (f r).1 = r.1 ∧ (f r).2.1 = r.2.1) (h : Rch (R.map f) root x) : Rch R root x := by
  induction h with
  | root => exact .root
  | @step r _ hm ih =>
    obtain ⟨r', hr', rfl⟩ := List.mem_map.mp hm
    rw [(hf r').2]
    rw [(hf r').1] at ih
    exact .step ih hr'
theorem IsL.uniq {m root : Int} {R R' : List Rd} {o o' : Option Int} (h : IsL m root R o) (h' : IsL m root R' o') (hs : ∀ r, r ∈ R ↔ r ∈ R') : o' = o := by
  rcases h with ⟨h1, rfl⟩ | ⟨h1, v, rfl, h2⟩ <;> rcases h' with ⟨h3, rfl⟩ | ⟨h3, v', rfl, h4⟩
  · rfl
  · exact absurd (fun x a b => (h3 x a b).mono fun r => (hs r).mpr) h1
  · exact absurd (fun x a b => (h1 x a b).mono fun r => (hs r).mp) h3
  · rw [h2.uniq h4 hs]
theorem IsL.dearer {m root p c : Int} {R : List Rd} {o o' : Option Int} (h : IsL m root R o) (h' : IsL m root (R.map (dear p c)) o') (hc : 0 ≤ c) (hp : 0 ≤ p ∧ p < m) (hn : ∀ r ∈ R, 0 ≤ r.2.2) : o' = o.map fun v => if p = root then v else v + c := by
  rcases h with ⟨h1, rfl⟩ | ⟨h1, v, rfl, h2⟩ <;> rcases h' with ⟨h3, rfl⟩ | ⟨h3, v', rfl, h4⟩
  · rfl
  · exact absurd (fun x a b => (h3 x a b).unmap (dear p c) fun r => ⟨rfl, rfl⟩) h1
  · exact absurd (fun x a b => (h1 x a b).map (dear p c) fun r => ⟨rfl, rfl⟩) h3
  · rw [h2.dearer h4 hc hp hn]; rfl
theorem IsL.more {m root v : Int} {R R' : List Rd} {o' : Option Int} (h : IsL m root R (some v)) (h' : IsL m root R' o') (hs : ∀ r ∈ R, r ∈ R') : ∃ v', o' = some v' ∧ v' ≤ v := by
  rcases h with ⟨_, e⟩ | ⟨h1, v2, e, h2⟩
  · cases e
  · cases e
    rcases h' with ⟨h3, rfl⟩ | ⟨h3, v', rfl, h4⟩
    · exact absurd (fun x a b => (h1 x a b).mono hs) h3
    · exact ⟨v', rfl, h2.mono h4 hs⟩
theorem sp_leastO (X : Fx C) (hA : AOk A (n + 9)) {a : Addr} {m root : Int} {R : List Rd} (hm : 1 ≤ m ∧ m ≤ 12) (hroot : 0 ≤ root ∧ root < m) (hR : R.length ≤ 60) (hok : ∀ r ∈ R, RdOk m r) (ha : (a, MO.list (R.map rdV)) ∈ H)
    (q : ∀ o, IsL m root R o → Q (ov o) H) : WF C A H "least" [.int m, .ref a, .int root] Q :=
  sp_least X hA hm hroot hR hok ha (fun h => q none (.inl ⟨h, rfl⟩)) fun h v hv => q (some v) (.inr ⟨h, v, rfl, hv⟩)
theorem sp_is (X : Fx C) (hA : AOk A (n + 1)) (o : Option Int) (q : Q (.bool true) H) : WF C A H "_law_is" [ov o, ov o] Q := by
  refine WF.intro X.f_is hA ["_law_found", "_law_due"] [] ["isinstance", "int", "bool"] [] [("_law_found", some (ov o)), ("_law_due", some (ov o))] (by decide +kernel) rfl (by wtm_at "bind") rfl ?_
  intro env hA' K
  refine WSs.cons ?_
  cases o with
  | none =>
    unfold ov
    repeat wtm_at "s"
    refine W2.isNone rfl ?_
    repeat wtm_at "s"
    refine if_t ?_
    repeat wtm_at "s"
    refine W2.isNone rfl ?_
    exact ⟨H, List.Sublist.refl _, q⟩
  | some v =>
    unfold ov
    repeat wtm_at "s"
    refine W2.isNone rfl ?_
    repeat wtm_at "s"
    refine if_f ?_
    repeat wtm_at "s"
    refine ⟨H, List.Sublist.refl _, ?_⟩
    rw [beq_self_eq_true]
    exact q
/-! the net -/
def getIf : Option Stmt → List Stmt
  | some (.If _ b _ _) => b
  | _ => []
theorem sp_roads (X : Fx C) (hA : AOk A (n + 3)) {ns : List Int} {m root : Int} (hl : ns.length ≤ 63) (hb : ∀ x ∈ ns, Bd x) (hm : 1 ≤ m ∧ m ≤ 12) (hr : 0 ≤ root ∧ root < m)
    (q : ∀ (D : Addr) (R : List Rd), R.length ≤ 40 → (∀ r ∈ R, RdOk m r ∧ r.2.2 < 10 ^ 39) → (m = 1 → R = []) → Q (.ref D) ((D, .list (R.map rdV)) :: H)) : WF C A H "_law_roads" [.fl ns, .int m, .int root] Q := by
  refine WF.intro X.f_roads hA ["_law_script", "_law_many", "_law_root"] ["_law_roads_here", "_law_count", "_law_k", "_law_number"] ["range", "_law_mixed", "_law_cell_at", "_law_cost"] ["_law_many"]
    [("_law_script", some (.fl ns)), ("_law_many", some (.int m)), ("_law_root", some (.int root)), ("_law_roads_here", none), ("_law_count", none), ("_law_k", none), ("_law_number", none)] (by decide +kernel) rfl (by wtm_at "bind") rfl ?_
  intro env hA' K
  have hC : AOk (A.deeper env) (n + 1) := hA'.le (by omega)
  refine WSs.cons ?_
  repeat wtm_at "s"
  intro D hD
  repeat wtm_at "s"
  refine if_d (fun h => ?_) (fun h => ?_)
  · have fin : ∀ c : Int, 0 ≤ c ∧ c < m → WSs C (A.deeper env) env ["range", "_law_mixed", "_law_cell_at", "_law_cost"] [("_law_script", some (.fl ns)), ("_law_many", some (.int m)), ("_law_root", some (.int root)), ("_law_roads_here", some (.ref D)), ("_law_count", some (.int c)), ("_law_k", none), ("_law_number", none)] ((D, .list []) :: H) ((getIf ((dd 36).body[1]?)).drop 2) (Seq (Ret Q) fun S' H' => WSs C (A.deeper env) env ["range", "_law_mixed", "_law_cell_at", "_law_cost"] S' H' ((dd 36).body.drop 2) (Ret Q)) := by
      intro c hc
      refine WSs.cons ?_
      refine WS.for (WI.of ?_)
      refine WE.callT (by wtm_at "mem") X.g_range ?_
      repeat wtm_at "e"
      refine WC.range2 ?_
      refine ItOf.range hA' (by decide) (by decide) (by omega) (by omega) ?_
      refine for_intro (fun i S H' => ∃ (R : List Rd) (o1 o2 : Option MV), S = ([("_law_script", some (.fl ns)), ("_law_many", some (.int m)), ("_law_root", some (.int root)), ("_law_roads_here", some (.ref D)), ("_law_count", some (.int c)), ("_law_k", o1), ("_law_number", o2)] : Sg) ∧ H' = (D, .list (R.map rdV)) :: H ∧ R.length = i ∧ ∀ r ∈ R, RdOk m r ∧ r.2.2 < 10 ^ 39) ⟨[], none, none, rfl, rfl, rfl, by simp⟩ (fun _ _ _ _ => trivial) ?_ ?_
      · rintro i x S H' hx ⟨R, o1, o2, rfl, rfl, hRl, hRo⟩
        obtain ⟨rfl, hlt⟩ := rangeL_get hx
        refine WA.name (by wtm_at "put") ?_
        repeat wtm_at "s"
        refine WE.callF (by wtm_at "mem") X.f_mixed ?_
        refine WEs.cons (WE.cellC X hC hl (by wtm_at "mem") (by wtm_at "at") (by decide) ?_)
        repeat wtm_at "s"
        refine sp_mixed X hC (by omega) (by omega) ?_
        have mr := mixed_range (cellF ns 3) (1 + (i : Int))
        have mb := mixed_bd (cellF ns 3) (1 + (i : Int))
        generalize mixedF (cellF ns 3) (1 + (i : Int)) = num at mr mb ⊢
        repeat wtm_at "s"
        refine WE.append ?_
        repeat wtm_at "s"
        refine ⟨D, _, rfl, by wtm_at "mem", ?_⟩
        repeat wtm_at "s"
        refine WE.callF (by wtm_at "mem") X.f_cost ?_
        repeat wtm_at "s"
        refine sp_cost X hC (mb.div (by omega)) ?_
        repeat wtm_at "s"
        have ok : RdOk m ((root + num % (1 + (i : Int))) % m, (root + (1 + (i : Int))) % m, costF (num / (1 + (i : Int)))) :=
          tree_rd_ok hr.1 hr.2 (Int.emod_nonneg _ (by omega)) (Int.emod_lt_of_pos _ (by omega)) (by omega) (costF_range _)
        refine ⟨_, _, by wtm_at "mem", by wtm_at "upd", by simp [sizeLine]; omega, rfl, ?_⟩
        repeat wtm_at "s"
        refine ⟨R ++ [((root + num % (1 + (i : Int))) % m, (root + (1 + (i : Int))) % m, costF (num / (1 + (i : Int))))], _, _, rfl, by simp, by simp [hRl], ?_⟩
        intro r hr'
        rcases List.mem_append.mp hr' with h1 | h1
        · exact hRo r h1
        · rw [List.mem_singleton.mp h1]; exact ⟨ok, (costF_low _).2⟩
      · rintro S H' ⟨R, o1, o2, rfl, rfl, hRl, hRo⟩
        rw [rangeL_length] at hRl
        refine seq_next ?_
        refine WSs.cons (WS.assign (WE.bin ?_))
        repeat wtm_at "e"
        refine WE.comp (ys := ["_law_many"]) ["_law_road"] K (.cons (y := "_law_many") (by wtm_at "at") (by wtm_at "mem") .nil) (by decide +kernel) (WI.of ?_)
        repeat wtm_at "e"
        refine ⟨_, .inr ⟨ns, rfl, rfl⟩, by rw [List.length_map]; simp [sizeLine]; omega, fun D1 hD1 => ?_⟩
        refine ItOf.list hA' (by wtm_at "mem") ?_
        rw [sliceL_map]
        have hsl : (sliceL (some 8) (some 28) ns).length ≤ 20 := by simp [sliceL]; omega
        refine comp_intro (fun i ys H' => ∃ R' : List Rd, ys = R'.map rdV ∧ R'.length = i ∧ (∀ r ∈ R', RdOk m r ∧ r.2.2 < 10 ^ 39) ∧ H' = (D1, MO.list ((sliceL (some 8) (some 28) ns).map .int)) :: (D, MO.list (R.map rdV)) :: H) (by simp [sizeLine]; omega) ⟨[], rfl, rfl, by simp, rfl⟩ ?_ ?_ ?_
        · rintro i ys H' ⟨R', rfl, hRi, _, rfl⟩
          exact ⟨List.mem_cons_self, by simp [hRi]⟩
        · rintro i v ys H' cenv hv ⟨R', rfl, hRi, hRo', rfl⟩
          obtain ⟨c, hc, rfl⟩ := get_map hv
          have hcb : Bd c := hb c (by
            have := List.mem_of_getElem? hc
            simp only [sliceL] at this
            exact List.mem_of_mem_drop (List.mem_of_mem_take this))
          refine ct_nil (if_t ?_)
          refine WE.callF (by wtm_at "mem") X.f_road ?_
          repeat wtm_at "e"
          refine sp_road X hA' hcb (by omega) hm.2 ?_
          refine ⟨R' ++ [roadF c m], by simp, by simp [hRi], ?_, rfl⟩
          intro r hr'
          rcases List.mem_append.mp hr' with h1 | h1
          · exact hRo' r h1
          · rw [List.mem_singleton.mp h1]; exact ⟨roadF_ok c (by omega), (costF_low _).2⟩
        · rintro ys H' ⟨R', rfl, hRi, hRo', rfl⟩ D2 hD2
          rw [List.length_map] at hRi
          refine W2.addL (xs := R.map rdV) (ys := R'.map rdV) (by wtm_at "mem") (by wtm_at "mem") (by simp [sizeLine]; omega) fun D3 hD3 => ?_
          rw [← List.map_append]
          repeat wtm_at "e"
          refine seq_next (WSs.nil (seq_next ?_))
          refine WSs.cons ?_
          repeat wtm_at "s"
          refine ⟨_, .cons_cons _ (.cons _ (.cons _ (.cons _ (.refl _)))), q D3 (R ++ R') (by simp; omega) (fun r hr' => ?_) (fun e => by omega)⟩
          rcases List.mem_append.mp hr' with h1 | h1
          · exact hRo r h1
          · exact hRo' r h1
    refine WSs.cons ?_
    repeat wtm_at "e"
    refine seq_next ?_
    refine WSs.cons ?_
    repeat wtm_at "e"
    refine WE.cellC X hC hl (by wtm_at "mem") (by wtm_at "at") (by decide) ?_
    repeat wtm_at "e"
    have hq0 := Int.emod_nonneg (cellF ns 2 / 6) (by omega : m ≠ 0)
    have hq1 := Int.emod_lt_of_pos (cellF ns 2 / 6) (by omega : 0 < m)
    refine if_eq (fun h => ?_) (fun h => ?_)
    · refine WSs.cons ?_
      repeat wtm_at "e"
      refine WE.cellC X hC hl (by wtm_at "mem") (by wtm_at "at") (by decide) ?_
      repeat wtm_at "e"
      refine seq_next (WSs.nil (seq_next ?_))
      exact fin _ ⟨hq0, hq1⟩
    · refine WSs.nil (seq_next ?_)
      exact fin _ (by omega)
  · refine WSs.nil (seq_next ?_)
    refine WSs.cons ?_
    repeat wtm_at "s"
    exact ⟨_, List.Sublist.refl _, q D [] (by simp) (by simp) fun _ => rfl⟩
end
set_option maxRecDepth 100000
set_option maxHeartbeats 4000000
open PySem PySem.W PySem.Calls PyProof.Rows
section
variable {C : Cx} {A : Around} {H : Hp} {n : Nat} {Q : MV → Hp → Prop}
abbrev gsL : List Str := ["_law_cell_at", "_law_roads", "least", "list", "_law_is", "reversed", "_law_road", "len"]
abbrev nsL : List Str := ["_law_script", "_law_many", "_law_root", "_law_roads_here", "_law_due", "_law_place", "_law_cell", "_law_more", "_law_dearer", "_law_grown", "_law_at", "_law_found"]
abbrev csL : List Str := ["_law_more", "_law_place"]
abbrev sgL (ns : List Int) (m root : Int) (roads due place cell more dearer grown at' found : Option MV) : Sg :=
  [("_law_script", some (.fl ns)), ("_law_many", some (.int m)), ("_law_root", some (.int root)), ("_law_roads_here", roads), ("_law_due", due), ("_law_place", place), ("_law_cell", cell), ("_law_more", more), ("_law_dearer", dearer), ("_law_grown", grown), ("_law_at", at'), ("_law_found", found)]
abbrev OkR (m : Int) (R : List Rd) : Prop := ∀ r ∈ R, RdOk m r ∧ r.2.2 < 10 ^ 39
theorem ov_none : ov none = MV.none := rfl
theorem ov_some (v : Int) : ov (some v) = MV.int v := rfl
theorem isSelf (X : Fx C) {env : Env} (hA' : AOk (A.deeper env) (n + 1)) {gs : List Str} {S : Sg} {x : Str} {o : Option Int} {p p1 p2 pos : Pos} {Q : MV → Hp → Prop} (hx : Str.ofString "_law_is" ∈ gs) (a : At S x (ov o)) (q : Q (.bool true) H) :
    WE C (A.deeper env) env gs S H (.Call (.Name "_law_is" p) [.Name x p1, .Name x p2] [] pos) Q :=
  WE.callF hx X.f_is (WEs.cons (WE.var a (WEs.cons (WE.var a (WEs.nil (sp_is X hA' o q))))))
/-- from `if _law_many == 1` on -/
theorem law_d (X : Fx C) {env : Env} (hA' : AOk (A.deeper env) (n + 9)) {ns : List Int} {m root : Int} {a : Addr} {R : List Rd} {o : Option Int} {o1 o2 o3 o4 o5 : Option MV} (hl : ns.length ≤ 63) (hbd : ∀ x ∈ ns, Bd x) (hm : 1 ≤ m ∧ m ≤ 12) (hroot : 0 ≤ root ∧ root < m)
    (hR : R.length ≤ 40) (hok : OkR m R) (h1 : m = 1 → R = []) (ha : (a, MO.list (R.map rdV)) ∈ H) (ho : IsL m root R o) :
    WSs C (A.deeper env) env gsL (sgL ns m root (some (.ref a)) (some (ov o)) o1 o2 o3 o4 o5 none none) H ((dd 38).body.drop 14) (Ret fun v _ => v = .bool true) := by
  have hC : AOk (A.deeper env) (n + 8 + 1) := hA'
  refine WSs.cons ?_
  repeat wtm_at "e"
  refine if_eq (fun h => ?_) (fun h => ?_)
  · have hR0 := h1 h
    subst hR0
    obtain ⟨v, rfl, hv⟩ : ∃ v, o = some v ∧ Least m root [] v := by
      rcases ho with ⟨h2, _⟩ | ⟨_, h3⟩
      · refine absurd (fun x h0 hx => ?_) h2
        have : x = root := by omega
        subst this
        exact .root
      · exact h3
    have := hv.nil
    subst this
    unfold ov
    refine WSs.cons ?_
    repeat wtm_at "s"
    exact ⟨_, List.Sublist.refl _, by simp⟩
  · refine WSs.nil (seq_next ?_)
    refine WSs.cons ?_
    repeat wtm_at "e"
    refine WE.cellC X hC hl (by wtm_at "mem") (by wtm_at "at") (by decide) ?_
    repeat wtm_at "e"
    have hk0 := Int.emod_nonneg (cellF ns 6) (by omega : (R.length : Int) + 1 ≠ 0)
    generalize cellF ns 6 % ((R.length : Int) + 1) = cut at hk0
    refine seq_next ?_
    refine WSs.cons ?_
    repeat wtm_at "e"
    refine WE.callF (by wtm_at "mem") X.p_least ?_
    repeat wtm_at "e"
    refine ⟨R.map rdV, .inl ⟨a, rfl, by wtm_at "mem"⟩, by simp [sizeLine]; omega, fun D1 _ => ?_⟩
    repeat wtm_at "e"
    refine WE.callF (by wtm_at "mem") X.f_road ?_
    repeat wtm_at "e"
    refine WE.cellC X hC hl (by wtm_at "mem") (by wtm_at "at") (by decide) ?_
    repeat wtm_at "e"
    refine sp_road X (hA'.le (by omega : n + 2 ≤ n + 9)) (cell_bd hbd _) (by omega) hm.2 ?_
    have rok : RdOk m (roadF (cellF ns 7) m) := roadF_ok _ (by omega)
    generalize roadF (cellF ns 7) m = rn at rok
    repeat wtm_at "e"
    intro D2 _
    rw [sliceL_map]
    refine W2.addL (xs := (sliceL none (some cut) R).map rdV) (ys := [rn].map rdV) (by wtm_at "mem") (by exact List.mem_cons_self) (by have := sliceL_length_le none (some cut) R; simp [sizeLine]; omega) fun D3 _ => ?_
    rw [← List.map_append]
    repeat wtm_at "e"
    refine ⟨R.map rdV, .inl ⟨a, rfl, by wtm_at "mem"⟩, by simp [sizeLine]; omega, fun D4 _ => ?_⟩
    rw [sliceL_map]
    refine W2.addL (xs := (sliceL none (some cut) R ++ [rn]).map rdV) (ys := (sliceL (some cut) none R).map rdV) (by wtm_at "mem") (by wtm_at "mem") (by have := sliceL_length_le none (some cut) R; have := sliceL_length_le (some cut) none R; simp [sizeLine]; omega) fun D5 _ => ?_
    rw [← List.map_append]
    have hlen : (sliceL none (some cut) R ++ [rn] ++ sliceL (some cut) none R).length ≤ 60 := by
      have := sliceL_length_le none (some cut) R
      have := sliceL_length_le (some cut) none R
      have : (sliceL none (some cut) R).length + (sliceL (some cut) none R).length = R.length := by simp [sliceL]; omega
      simp
      omega
    have hsub : ∀ r ∈ R, r ∈ sliceL none (some cut) R ++ [rn] ++ sliceL (some cut) none R := fun r hr => by
      rw [← List.take_append_drop cut.toNat R] at hr
      rcases List.mem_append.mp hr with hr | hr
      · exact List.mem_append_left _ (List.mem_append_left _ hr)
      · exact List.mem_append_right _ hr
    have hokn : ∀ r ∈ sliceL none (some cut) R ++ [rn] ++ sliceL (some cut) none R, RdOk m r := fun r hr => by
      rcases List.mem_append.mp hr with hr | hr
      · rcases List.mem_append.mp hr with hr | hr
        · exact (hok r (List.mem_of_mem_take hr)).1
        · rw [List.mem_singleton.mp hr]; exact rok
      · exact (hok r (List.mem_of_mem_drop hr)).1
    generalize sliceL none (some cut) R ++ [rn] ++ sliceL (some cut) none R = R' at hlen hsub hokn
    repeat wtm_at "e"
    refine sp_leastO X (hA'.le (by omega : n + 9 ≤ n + 9)) (R := R') hm hroot hlen hokn (by wtm_at "mem") fun o' ho' => ?_
    repeat wtm_at "e"
    refine seq_next ?_
    refine WSs.cons ?_
    cases o with
    | none =>
      rw [ov_none]
      repeat wtm_at "e"
      refine W2.isNone rfl ?_
      repeat wtm_at "e"
      refine if_t ?_
      refine WSs.cons (WS.ret (isSelf X hC (o := o') (by wtm_at "mem") (by wtm_at "at") ?_))
      repeat wtm_at "s"
      exact ⟨_, List.Sublist.refl _, rfl⟩
    | some v =>
      obtain ⟨v', rfl, hv⟩ := ho.more ho' hsub
      rw [ov_some, ov_some]
      repeat wtm_at "e"
      refine W2.isNone rfl ?_
      repeat wtm_at "e"
      refine if_f ?_
      refine WSs.nil (seq_next ?_)
      refine WSs.cons (WS.ret (WE.and (isSelf X hC (o := some v') (by wtm_at "mem") (by rw [ov_some]; wtm_at "at") ?_)))
      repeat wtm_at "e"
      refine W2.isNotNone rfl ?_
      repeat wtm_at "e"
      refine if_t ?_
      repeat wtm_at "s"
      exact ⟨_, List.Sublist.refl _, by simp [hv]⟩
/-- from `_law_place = ..` on -/
theorem law_c (X : Fx C) {env : Env} (hA' : AOk (A.deeper env) (n + 9)) (K : EnvK env nsL csL) {ns : List Int} {m root : Int} {a : Addr} {R : List Rd} {o : Option Int} (hl : ns.length ≤ 63) (hbd : ∀ x ∈ ns, Bd x) (hm : 1 ≤ m ∧ m ≤ 12) (hroot : 0 ≤ root ∧ root < m)
    (hR : R.length ≤ 40) (hok : OkR m R) (h1 : m = 1 → R = []) (ha : (a, MO.list (R.map rdV)) ∈ H) (ho : IsL m root R o) :
    WSs C (A.deeper env) env gsL (sgL ns m root (some (.ref a)) (some (ov o)) none none none none none none none) H ((dd 38).body.drop 7) (Ret fun v _ => v = .bool true) := by
  have hC : AOk (A.deeper env) (n + 8 + 1) := hA'
  refine WSs.cons ?_
  repeat wtm_at "e"
  refine WE.cellC X hC hl (by wtm_at "mem") (by wtm_at "at") (by decide) ?_
  repeat wtm_at "e"
  have hp0 := Int.emod_nonneg (cellF ns 4) (by omega : m ≠ 0)
  have hp1 := Int.emod_lt_of_pos (cellF ns 4) (by omega : 0 < m)
  generalize cellF ns 4 % m = pl at hp0 hp1
  refine seq_next ?_
  refine WSs.cons ?_
  repeat wtm_at "e"
  refine WE.cellC X hC hl (by wtm_at "mem") (by wtm_at "at") (by decide) ?_
  have hb5 := cell_bd hbd 5
  generalize cellF ns 5 = c at hb5
  repeat wtm_at "e"
  refine seq_next ?_
  refine WSs.cons ?_
  repeat wtm_at "e"
  refine W2.powL (r := 48271 ^ 8) (by omega) (by decide) (by rfl) ?_
  refine W2.mulB hb5 (by decide) ?_
  repeat wtm_at "e"
  refine W2.powL (r := 10 ^ 39) (by omega) (by decide) (by rfl) ?_
  repeat wtm_at "e"
  intro D1 _
  repeat wtm_at "e"
  have h0 := Int.emod_nonneg c (by omega : (2 : Int) ≠ 0)
  have h2 := Int.emod_lt_of_pos c (by omega : (0 : Int) < 2)
  obtain ⟨mo, hmo, hm0, hm1⟩ : ∃ mo : Int, [MV.int (c / 2 % 9), MV.int (c * 48271 ^ 8 % 10 ^ 39)][(c % 2).toNat]? = some (.int mo) ∧ 0 ≤ mo ∧ mo < 10 ^ 39 := by
    rcases (by omega : c % 2 = 0 ∨ c % 2 = 1) with e | e <;> rw [e]
    · exact ⟨_, rfl, by omega, by omega⟩
    · exact ⟨_, rfl, by omega, by omega⟩
  refine W2.itemL (x := .int mo) (by wtm_at "mem") h0 hmo (by omega) ?_
  repeat wtm_at "e"
  refine seq_next (WSs.sub ?_ (List.sublist_cons_self _ _))
  refine WSs.cons (WS.assignComp (ys := ["_law_more", "_law_place"]) ["int"] K (.cons (y := "_law_more") (by wtm_at "at") (by wtm_at "mem") (.cons (y := "_law_place") (by wtm_at "at") (by wtm_at "mem") .nil)) (by decide +kernel) (WI.of ?_))
  repeat wtm_at "e"
  refine ItOf.list hA' ha ?_
  refine comp_intro (fun i ys H' => ys = ((R.take i).map (dear pl mo)).map rdV ∧ H' = H) (by simp [sizeLine]; omega) ⟨by simp, rfl⟩ ?_ ?_ ?_
  · rintro i ys H' ⟨rfl, rfl⟩
    exact ⟨ha, by simp; omega⟩
  · rintro i v ys H' cenv hv ⟨rfl, rfl⟩
    obtain ⟨r, hr, rfl⟩ := get_map hv
    refine ct_nil (if_t ?_)
    repeat wtm_at "e"
    refine WE.callT (by wtm_at "mem") X.g_int ?_
    repeat wtm_at "e"
    refine WC.intB ?_
    refine W2.mulR (by split <;> omega) (by split <;> omega) ?_
    repeat wtm_at "e"
    refine ⟨?_, rfl⟩
    rw [List.take_add_one, hr]
    simp [dear]
  rintro ys H' ⟨rfl, rfl⟩ dr _
  rw [List.length_map, List.take_length]
  refine ⟨_, by wtm_at "put", seq_next ?_⟩
  refine WSs.cons ?_
  repeat wtm_at "e"
  refine seq_next ?_
  have hokd : ∀ r ∈ R.map (dear pl mo), RdOk m r := fun r hr => by
    obtain ⟨r', hr', rfl⟩ := List.mem_map.mp hr
    obtain ⟨⟨g1, g2, g3, g4, g5, g6, g7⟩, g8⟩ := hok r' hr'
    refine ⟨g1, g2, g3, g4, g5, ?_, ?_⟩
    · show 0 ≤ r'.2.2 + mo * _
      split <;> omega
    · show r'.2.2 + mo * _ < 10 ^ 40
      split <;> omega
  have fin : ∀ (g : Option Int), g = (o.map fun v => if pl = root then v else v + mo) → WSs C (A.deeper env) env gsL (sgL ns m root (some (.ref a)) (some (ov o)) (some (.int pl)) (some (.int c)) (some (.int mo)) (some (.ref dr)) (some (ov g)) none none) ((dr, .list ((R.map (dear pl mo)).map rdV)) :: H') ((dd 38).body.drop 13) (Ret fun v _ => v = .bool true) := by
    intro g hg
    refine WSs.cons (WS.if (WT.not (WT.plain (WE.callF (by wtm_at "mem") X.f_is (WEs.cons (WE.callF (by wtm_at "mem") X.p_least ?_))))))
    repeat wtm_at "e"
    refine sp_leastO X hA' (R := R.map (dear pl mo)) hm hroot (by simp; omega) hokd (by wtm_at "mem") fun o' ho' => ?_
    have e := ho.dearer ho' hm0 ⟨hp0, hp1⟩ fun r hr => (hok r hr).1.2.2.2.2.2.1
    rw [← hg] at e
    subst e
    repeat wtm_at "e"
    refine sp_is X hC o' ?_
    repeat wtm_at "e"
    refine seq_next (WSs.sub ?_ (List.sublist_cons_self _ _))
    exact law_d X hA' hl hbd hm hroot hR hok h1 ha ho
  refine WSs.cons ?_
  cases o with
  | none =>
    unfold ov
    repeat wtm_at "e"
    refine W2.isNotNone rfl ?_
    repeat wtm_at "e"
    refine if_f ?_
    repeat wtm_at "e"
    refine seq_next ?_
    exact fin none rfl
  | some v =>
    unfold ov
    repeat wtm_at "e"
    refine W2.isNotNone rfl ?_
    repeat wtm_at "e"
    refine if_t ?_
    repeat wtm_at "e"
    refine if_ne (fun h => ?_) (fun h => ?_)
    · repeat wtm_at "e"
      refine WSs.cons ?_
      repeat wtm_at "e"
      refine seq_next (WSs.nil (seq_next ?_))
      exact fin (some (v + mo)) (by simp [h])
    · repeat wtm_at "e"
      refine seq_next ?_
      exact fin (some v) (by simp [h])
/-- from `_law_roads_here = ..` on -/
theorem law_b (X : Fx C) {env : Env} (hA' : AOk (A.deeper env) (n + 9)) (K : EnvK env nsL csL) {ns : List Int} {m root : Int} (hl : ns.length ≤ 63) (hbd : ∀ x ∈ ns, Bd x) (hm : 1 ≤ m ∧ m ≤ 12) (hroot : 0 ≤ root ∧ root < m) :
    WSs C (A.deeper env) env gsL (sgL ns m root none none none none none none none none none) [] ((dd 38).body.drop 3) (Ret fun v _ => v = .bool true) := by
  have hC : AOk (A.deeper env) (n + 8 + 1) := hA'
  refine WSs.cons ?_
  repeat wtm_at "e"
  refine WE.callF (by wtm_at "mem") X.f_roads ?_
  repeat wtm_at "e"
  refine sp_roads X (hA'.le (by omega : n + 3 ≤ n + 9)) hl hbd hm hroot fun a R hR hok h1 => ?_
  repeat wtm_at "e"
  refine seq_next ?_
  refine WSs.cons ?_
  repeat wtm_at "e"
  refine WE.callF (by wtm_at "mem") X.p_least ?_
  repeat wtm_at "e"
  refine WE.callT (by wtm_at "mem") X.g_list ?_
  repeat wtm_at "e"
  refine WC.listL (xs := R.map rdV) (by wtm_at "mem") (by simp [sizeLine]; omega) fun b _ => ?_
  repeat wtm_at "e"
  refine sp_leastO X hA' (R := R) hm hroot (by omega) (fun r hr => (hok r hr).1) (by wtm_at "mem") fun o ho => ?_
  repeat wtm_at "e"
  refine seq_next (WSs.sub ?_ (List.sublist_cons_self _ _))
  refine WSs.cons (WS.if (WT.not (WT.plain (isSelf X hC (o := o) (by wtm_at "mem") (by wtm_at "at") ?_))))
  repeat wtm_at "e"
  refine seq_next ?_
  refine WSs.cons (WS.if (WT.not (WT.plain (WE.callF (by wtm_at "mem") X.f_is (WEs.cons (WE.callF (by wtm_at "mem") X.p_least ?_))))))
  repeat wtm_at "e"
  refine WE.comp (ys := []) [] K .nil (by decide +kernel) (WI.rev hA' (by wtm_at "mem") X.g_reversed ?_)
  repeat wtm_at "e"
  refine ⟨a, _, rfl, by wtm_at "mem", ?_⟩
  rw [← List.map_reverse]
  refine comp_intro (fun i ys H' => ys = (R.reverse.take i).map rdV ∧ H' = [(a, .list (R.map rdV))]) (by simp [sizeLine]; omega) ⟨by simp, rfl⟩ ?_ ?_ ?_
  · rintro i ys H' ⟨rfl, rfl⟩
    exact ⟨List.mem_cons_self, by simp; omega⟩
  · rintro i v ys H' cenv hv ⟨rfl, rfl⟩
    obtain ⟨r, hr, rfl⟩ := get_map hv
    refine ct_nil (if_t ?_)
    repeat wtm_at "e"
    refine ⟨?_, rfl⟩
    rw [List.take_add_one, hr]; simp
  rintro ys H' ⟨rfl, rfl⟩ D _
  rw [List.length_map, List.take_length]
  repeat wtm_at "e"
  refine sp_leastO X hA' (R := R.reverse) hm hroot (by simp; omega) (fun r hr => (hok r (List.mem_reverse.mp hr)).1) (by wtm_at "mem") fun o' ho' => ?_
  have e := ho.uniq ho' fun r => List.mem_reverse.symm
  subst e
  repeat wtm_at "e"
  refine sp_is X hC o' ?_
  repeat wtm_at "e"
  refine seq_next (WSs.sub ?_ (List.sublist_cons_self _ _))
  exact law_c X hA' K hl hbd hm hroot hR hok h1 (by wtm_at "mem") ho
theorem sp_law (X : Fx C) (hA : AOk A (n + 10)) {ns : List Int} (hl : ns.length ≤ 63) (hbd : ∀ x ∈ ns, Bd x) : WF C A [] "law" [.fl ns] fun v _ => v = .bool true := by
  refine WF.intro X.f_law hA ["_law_script"] ["_law_many", "_law_root", "_law_roads_here", "_law_due", "_law_place", "_law_cell", "_law_more", "_law_dearer", "_law_grown", "_law_at", "_law_found"] gsL csL
    [("_law_script", some (.fl ns)), ("_law_many", none), ("_law_root", none), ("_law_roads_here", none), ("_law_due", none), ("_law_place", none), ("_law_cell", none), ("_law_more", none), ("_law_dearer", none), ("_law_grown", none), ("_law_at", none), ("_law_found", none)] (by decide +kernel) rfl (by wtm_at "bind") rfl ?_
  intro env hA' K
  have hC : AOk (A.deeper env) (n + 8 + 1) := hA'
  have fin : ∀ m : Int, 1 ≤ m ∧ m ≤ 12 → WSs C (A.deeper env) env gsL [("_law_script", some (.fl ns)), ("_law_many", some (.int m)), ("_law_root", none), ("_law_roads_here", none), ("_law_due", none), ("_law_place", none), ("_law_cell", none), ("_law_more", none), ("_law_dearer", none), ("_law_grown", none), ("_law_at", none), ("_law_found", none)] [] ((dd 38).body.drop 2) (Ret fun v _ => v = .bool true) := by
    intro m hm
    have h0 := Int.emod_nonneg (cellF ns 1) (by omega : m ≠ 0)
    have h1 := Int.emod_lt_of_pos (cellF ns 1) (by omega : 0 < m)
    refine WSs.cons ?_
    repeat wtm_at "e"
    refine WE.cellC X hC hl (by wtm_at "mem") (by wtm_at "at") (by decide) ?_
    repeat wtm_at "e"
    refine seq_next ?_
    exact law_b X hA' K hl hbd hm ⟨h0, h1⟩
  refine WSs.cons ?_
  repeat wtm_at "s"
  refine WE.cellC X hC hl (by wtm_at "mem") (by wtm_at "at") (by decide) ?_
  repeat wtm_at "s"
  refine WE.cellC X hC hl (by wtm_at "mem") (by wtm_at "at") (by decide) ?_
  repeat wtm_at "s"
  refine if_eq (fun h => ?_) (fun h => ?_)
  · refine WSs.cons ?_
    repeat wtm_at "e"
    refine WE.cellC X hC hl (by wtm_at "mem") (by wtm_at "at") (by decide) ?_
    repeat wtm_at "e"
    refine seq_next (WSs.nil (seq_next ?_))
    exact fin _ (by omega)
  · refine WSs.nil (seq_next ?_)
    exact fin _ (by omega)
end
theorem weight_mem : ∀ {ns : List Int} {x : Int}, x ∈ ns → Builtin.Int.intBits x ≤ PyData.weightAll (ns.map .int)
  | y :: ns, x, h => by
    simp only [List.map_cons, PyData.weightAll, PyData.weight]
    rcases List.mem_cons.mp h with rfl | h
    · show (if (x == 0) = true then 0 else _) ≤ _
      omega
    · have := weight_mem h
      omega
theorem bd_of_layable {ns : List Int} (h : (PyData.list (ns.map PyData.int)).layable0 = true) : ∀ x ∈ ns, Bd x := fun x hx => by
  have h1 := weight_mem hx
  have h2 : PyData.weight (.list (ns.map .int)) ≤ 2 ^ 20 := of_decide_eq_true (Bool.and_eq_true_iff.mp h).2
  simp only [PyData.weight] at h2
  unfold Bd
  omega
theorem len_of {ns : List Int} (h : ¬ ((63 : Nat) : Int) < (ns.length : Int)) : ns.length ≤ 63 := by omega
set_option maxRecDepth 100000
set_option maxHeartbeats 8000000
open PySem PySem.W PyProof.Rows
/-! the head: the top's run, from where the start-up ends, over a tree of objects, by the library's quick twins -/
def pick (l : List Stmt) : List Nat → List Stmt
  | [] => []
  | i :: r => match l[i]? with
    | some s => s :: pick l r
    | none => pick l r
def topAns (p q : Program) (Xt : Shared → Bool) (h₀ : Heap) (s : Shared) :=
  (staticsOk (importedModules p.main.body) h₀ s.heap && namesBound p s.heap && gensDone s && laidKept h₀ s.heap, openSeen q [] (importedModules p.main.body) Xt true s)
theorem left_boot {p q : Program} {Xt : Shared → Bool} {N : Nat} (e : opening p = plainProg p.main.scope.names) (hN : Nat.ble 600 N = true) (f : ∀ s, fenceModules? p s = some s)
    (size : ∀ P, (boot_heap P).isNs mainGlobals = true)
    (hrun : ∀ (w : World) (os : OsState), (topRun treeTable p w (boot_heap w.params).objs.size ((boot_heap w.params).nsMap mainGlobals "__annotations__") N ⟨boot_heap w.params, #[], boot_drawn, boot_toks, os⟩ (topStub p)).map (topAns p q Xt (boot_heap w.params)) = some (true, openGood q [])) :
    LeftO p q [] Xt (Hook.obs Hook.none) (Hook.val Hook.none) N := fun w => by
  obtain ⟨⟨h, gs, d, k, os⟩, e1, e2⟩ := Option.map_eq_some_iff.mp (boot_open e hN f w)
  obtain ⟨rfl, rfl, rfl, rfl⟩ : h = boot_heap w.params ∧ gs = #[] ∧ d = boot_drawn ∧ k = boot_toks := by simpa using e2
  obtain ⟨s, e3, e4⟩ := Option.map_eq_some_iff.mp (hrun w os)
  obtain ⟨e5, e6⟩ := Prod.mk.inj e4
  have t : topFrom treeTable p w N ⟨boot_heap w.params, #[], boot_drawn, boot_toks, os⟩ = some s := by
    unfold topFrom
    dsimp only
    rw [size w.params, e3]
    show (match staticsOk (importedModules p.main.body) (boot_heap w.params) s.heap && namesBound p s.heap && gensDone s && laidKept (boot_heap w.params) s.heap with | true => _ | false => _) = _
    rw [e5]
  unfold openEnds
  rw [e1]
  show (topFrom treeTable p w N _).map _ = _
  rw [t]
  exact congrArg some (Prod.ext e6 rfl)
def topRunG (st : SharedT → Thread → Option (SharedT × Thread)) (ok : Thread → Bool) : Nat → SharedT → Thread → Option SharedT
  | 0, _, _ => none
  | n + 1, s, t => match through t with
    | true => some s
    | false => match ok t with
      | false => none
      | true => match st s t with
        | some (s', t') => topRunG st ok n s' t'
        | none => none
theorem topRun_of {tb : String → Option Builtin} {p : Program} {w : World} {n₀ : Nat} {ann : Option Value} : ∀ {n : Nat} {s s' : SharedT} {t : Thread}, topRunG (stepT (denote tb) p w) (stepOk n₀ ann) n s t = some s' → topRun tb p w n₀ ann n s.abs t = some s'.abs
  | 0, _, _, _, h => by cases h
  | n + 1, s, s', t, h => by
    unfold topRunG at h
    unfold topRun
    cases he : through t with
    | true => rw [he] at h; cases h; rfl
    | false =>
      rw [he] at h
      cases hk : stepOk n₀ ann t with
      | false => rw [hk] at h; cases h
      | true =>
        rw [hk] at h
        cases hs : stepT (denote tb) p w s t with
        | none => rw [hs] at h; cases h
        | some r => obtain ⟨s₂, t₂⟩ := r; rw [hs] at h; rw [stepT_spec hs]; exact topRun_of h
def treeOf : List Obj → Nat → BT → BT
  | [], _, t => t
  | o :: l, n, t => treeOf l (n + 1) (t.ins n o)
noncomputable def topAnsQ (p q : Program) (Xt : Shared → Bool) (h₀ : Heap) (s : Shared) :=
  (staticsOk (importedModules p.main.body) h₀ s.heap && namesBound p s.heap && gensDone s && laidKept h₀ s.heap, PySem.W.Fast.tw4187177175401517315 q [] (importedModules p.main.body) Xt true s)
theorem left_tree {p q : Program} {Xt : Shared → Bool} {N n : Nat} {life : Life} {ann : Option Value} {T : Params → BT} (e : opening p = plainProg p.main.scope.names) (hN : Nat.ble 600 N = true) (f : ∀ s, fenceModules? p s = some s)
    (size : ∀ P, (boot_heap P).isNs mainGlobals = true) (hs : ∀ P, (boot_heap P).objs.size = n) (ha : ∀ P, (boot_heap P).nsMap mainGlobals "__annotations__" = ann) (hT : ∀ P, absHeap (T P) n life = boot_heap P)
    (hrun : ∀ (w : World) (os : OsState), (topRunG (PySem.W.Fast.tw10156331382660048174 (PySem.W.Fast.tw11892475500146522536 PySem.W.Fast.tw14364793385576792824) p w) (PySem.W.Fast.tw6613529449190102663 n ann) N ⟨T w.params, n, life, #[], boot_drawn, boot_toks, os⟩ (topStub p)).map (fun s => topAnsQ p q Xt (boot_heap w.params) s.abs) = some (true, openGood q [])) :
    LeftO p q [] Xt (Hook.obs Hook.none) (Hook.val Hook.none) N := by
  refine left_boot e hN f size fun w os => ?_
  rw [hs, ha]
  have hr := hrun w os
  unfold topAnsQ at hr
  rw [← PySem.W.Fast.te10156331382660048174, ← PySem.W.Fast.te11892475500146522536, ← PySem.W.Fast.te14364793385576792824, ← PySem.W.Fast.te6613529449190102663, ← PySem.W.Fast.te4187177175401517315] at hr
  obtain ⟨s, e3, e4⟩ := Option.map_eq_some_iff.mp hr
  have := topRun_of e3
  unfold SharedT.abs at this
  dsimp only at this
  rw [hT] at this
  rw [this]
  exact congrArg some e4
def vw : Program := { pw with main := { pw.main with body := pick pw.main.body [1,2,3,4,6,7,8,9,10,11,12,13,14,15,16,17,19,21,23,24,25,26,27,28,29,30,32,33,34,35,36,37,38] } }
theorem left_w : LeftO (OpenRow.toRowW (OpenLaw.row PySem.Challenge.rw_uf050005_11)).prog vw [] (fun s => xlAt vw [] s && recOk (RowW.records (OpenRow.toRowW (OpenLaw.row PySem.Challenge.rw_uf050005_11))) s) (Hook.obs Hook.none) (Hook.val Hook.none) 3574 := by
  refine left_tree (n := 11) (life := { debug := 0, thresholds := [2000, 10, 10] }) (ann := some (.ref 6)) (T := fun P => treeOf (boot_heap P).objs.toList 0 .nil) (by kernel_rfl) (by decide) (fun s => by kernel_rfl) (fun P => by kernel_rfl) (fun P => by kernel_rfl) (fun P => by kernel_rfl) (fun P => by kernel_rfl) ?_
  intro w os
  kernel_rfl
end Mine
open PySem PySem.W PyProof.Rows Mine
theorem PySem.Challenge.cw_uf050005_11_holds : PySem.Challenge.rw_uf050005_11.Holds := by
  w_on; o_law
  refine holds_open (q := vw) (loose := []) (Xt := fun s => xlAt vw [] s && recOk (RowW.records (OpenRow.toRowW (OpenLaw.row PySem.Challenge.rw_uf050005_11))) s) (XP := XL vw []) (Yf := Hook.obs Hook.none) (Ya := Hook.val Hook.none) (YP := Hook.says Hook.none) (N := 3574) ?hl (Hook.of Hook.none) (Hook.keeps Hook.none) (fun s e => xl_of s (Bool.and_eq_true_iff.mp e).1) XL.keeps (by rfl) (by rfl) (by rfl) (fun s e => recFacts_of (Bool.and_eq_true_iff.mp e).2) (by rfl) (by first | assumption | decide +kernel) (by decide +kernel) ⟨rfl, rfl, rfl, rfl, rfl, by decide +kernel⟩ ?hw ?hc
  case hw => w_witness2
  case hl => exact left_w
  intro w s₀ s₁ mg mb G y fa o pm cd doc dV kV ho hd hcd hD hmg hg args vals as hpre hlay hrd hwl hlo
  clear hd hcd hD y
  refine Ground.open G ?_
  intro T B D TE TW
  wrow_args hpre hlay hrd hwl hlo
  refine law_end (T := T) (by assumption) (by assumption) hg hmg ?_
  refine sp_law (n := 0) ⟨fn_of T (d := dd 9) (List.mem_of_getElem? (i := 0) (by kernel_rfl)) (by decide +kernel),
    fn_of T (d := dd 10) (List.mem_of_getElem? (i := 1) (by kernel_rfl)) (by decide +kernel),
    fn_of T (d := dd 11) (List.mem_of_getElem? (i := 2) (by kernel_rfl)) (by decide +kernel),
    fn_of T (d := dd 12) (List.mem_of_getElem? (i := 3) (by kernel_rfl)) (by decide +kernel),
    fn_of T (d := dd 13) (List.mem_of_getElem? (i := 4) (by kernel_rfl)) (by decide +kernel),
    fn_of T (d := dd 14) (List.mem_of_getElem? (i := 5) (by kernel_rfl)) (by decide +kernel),
    fn_of T (d := dd 15) (List.mem_of_getElem? (i := 6) (by kernel_rfl)) (by decide +kernel),
    fn_of T (d := dd 16) (List.mem_of_getElem? (i := 7) (by kernel_rfl)) (by decide +kernel),
    fn_of T (d := dd 17) (List.mem_of_getElem? (i := 8) (by kernel_rfl)) (by decide +kernel),
    fn_of T (d := dd 19) (List.mem_of_getElem? (i := 9) (by kernel_rfl)) (by decide +kernel),
    fn_of T (d := dd 21) (List.mem_of_getElem? (i := 10) (by kernel_rfl)) (by decide +kernel),
    fn_of T (d := dd 23) (List.mem_of_getElem? (i := 11) (by kernel_rfl)) (by decide +kernel),
    fn_of T (d := dd 24) (List.mem_of_getElem? (i := 12) (by kernel_rfl)) (by decide +kernel),
    fn_of T (d := dd 25) (List.mem_of_getElem? (i := 13) (by kernel_rfl)) (by decide +kernel),
    fn_of T (d := dd 26) (List.mem_of_getElem? (i := 14) (by kernel_rfl)) (by decide +kernel),
    fn_of T (d := dd 27) (List.mem_of_getElem? (i := 15) (by kernel_rfl)) (by decide +kernel),
    fn_of T (d := dd 28) (List.mem_of_getElem? (i := 16) (by kernel_rfl)) (by decide +kernel),
    fn_of T (d := dd 29) (List.mem_of_getElem? (i := 17) (by kernel_rfl)) (by decide +kernel),
    fn_of T (d := dd 30) (List.mem_of_getElem? (i := 18) (by kernel_rfl)) (by decide +kernel),
    fn_of T (d := dd 32) (List.mem_of_getElem? (i := 19) (by kernel_rfl)) (by decide +kernel),
    fn_of T (d := dd 33) (List.mem_of_getElem? (i := 20) (by kernel_rfl)) (by decide +kernel),
    fn_of T (d := dd 34) (List.mem_of_getElem? (i := 21) (by kernel_rfl)) (by decide +kernel),
    fn_of T (d := dd 35) (List.mem_of_getElem? (i := 22) (by kernel_rfl)) (by decide +kernel),
    fn_of T (d := dd 36) (List.mem_of_getElem? (i := 23) (by kernel_rfl)) (by decide +kernel),
    fn_of T (d := dd 37) (List.mem_of_getElem? (i := 24) (by kernel_rfl)) (by decide +kernel),
    fn_of T (d := dd 38) (List.mem_of_getElem? (i := 25) (by kernel_rfl)) (by decide +kernel),
    const_of T (by kernel_rfl),
    const_of T (by kernel_rfl),
    const_of T (by kernel_rfl),
    gl_of T (by decide +kernel) (by kernel_rfl),
    gl_of T (by decide +kernel) (by kernel_rfl),
    gl_of T (by decide +kernel) (by kernel_rfl),
    gl_of T (by decide +kernel) (by kernel_rfl),
    gl_of T (by decide +kernel) (by kernel_rfl),
    gl_of T (by decide +kernel) (by kernel_rfl),
    gl_of T (by decide +kernel) (by kernel_rfl),
    gl_of T (by decide +kernel) (by kernel_rfl),
    gl_of T (by decide +kernel) (by kernel_rfl),
    gl_of T (by decide +kernel) (by kernel_rfl),
    gl_of T (by decide +kernel) (by kernel_rfl),
    gl_of T (by decide +kernel) (by kernel_rfl)⟩ (aok_caller.le (by decide)) (len_of (by assumption)) (bd_of_layable (by assumption))
