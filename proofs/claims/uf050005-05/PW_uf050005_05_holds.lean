import PyProof.Rows.All
import Wide.All
import Open.Pieces
import Wide.FinOn
import PyProof.CompObj
import PyProof.Rows.TupIn
import PyProof.PureInt
import PyProof.Cells
import PyProof.CompFree
import PyProof.RangeFor
import PyProof.TupleKey
import PyProof.DictKinds
import PyProof.Rows.StrTemp
import PyProof.Rows.Chain
import PyProof.Rows.Nodes
import PyProof.Rows.Globals
import PyProof.Rows.RuleB_mul
import PyProof.Rows.RuleB_mod
import PyProof.Rows.RuleB_floordiv
import PyProof.Rows.RuleB_pow
import PyProof.AutoIntOps
import PyProof.P3In
import PyProof.EqLayable
import PyProof.IsiPairs
import PyProof.IsiHeapPairs
import PyProof.IsRules
import PyProof.ListCopy
import PyProof.TupleOfSeq
import PyProof.TupleCall
import PyProof.Rows.News
import PyProof.Rows.TupReads
import PyProof.Rows.IntRules
import PyProof.Rows.RuleC_int
import PyProof.ForAny
import PyProof.EnumFor
import PyProof.EnumMake
import PyProof.EnumStmt
import PyProof.TupleIter
import PyProof.Dict
import PyProof.Rows.TupAssign
import PyProof.Seq
import PyProof.RangeIter
import PyProof.WalksMore
import PyProof.StrBlock
import PyProof.Rows.SeqMore
import PyProof.FactsAll.list_4
import PyProof.FactsAll.list_3
import PyProof.Rows.TupAdd
import KE.KDictList
import PyProof.DictStraight
import PyProof.Rows.SortWalk
import PyProof.ListIndex
import PyProof.IsiNone
import PyProof.NeKinds
import PyProof.EqKinds
import PyProof.StationsW
import PyProof.Rows.OwnQ
import PyProof.ExcBaseAll.ValueError
import PyProof.RulesTry
import PyProof.RulesAs
import PyProof.IsInstance
import KE.KRevIter
import PyProof.AutoListH
import Open.FastLooks
import PySem.Challenge.RW_uf050005_05
set_option Elab.async false
set_option linter.all false
namespace Mine
open PySem PySem.Calls PyProof.Rows

/-! abstract values -/
inductive MV where
  | none
  | bool (b : Bool)
  | int (i : Int)
  | str (s : Str)
  | tup (l : List MV)
  | ref (a : Addr)
  | fl (l : List Int)
  | rng (a b : Int)
  | raw (v : Value)

mutual
def VR (b h : Heap) : MV → Value → Prop
  | .none, v => v = .none
  | .bool x, v => v = .bool x
  | .int i, v => ∃ t, v = .int i t
  | .str x, v => ∃ t, v = .str x t
  | .ref a, v => v = .ref a
  | .raw u, v => v = u
  | .fl ns, v => ∃ a vs, v = .ref a ∧ b.IsList a vs.toArray ∧ IntsAre vs ns
  | .rng lo hi, v => ∃ r t u w, v = .ref r ∧ IsRange h r lo hi 1 t u w
  | .tup xs, v => ∃ a vs, v = .ref a ∧ h.IsTuple a vs.toArray ∧ VRs b h xs vs
def VRs (b h : Heap) : List MV → List Value → Prop
  | [], vs => vs = []
  | x :: xs, vs => ∃ v r, vs = v :: r ∧ VR b h x v ∧ VRs b h xs r
end

def Imm (o : Obj) : Prop := (o.cls = .type "tuple" ∧ ∃ items n, o.data = .seq items n) ∨ (o.cls = .type "range" ∧ ∃ vs, o.data = .fields vs)
def TupKeep (h h' : Heap) : Prop := ∀ a o, h.get? a = some o → Imm o → h'.get? a = some o
theorem TupKeep.trans {h h' h'' : Heap} (p : TupKeep h h') (q : TupKeep h' h'') : TupKeep h h'' := fun a o e c => q a o (p a o e c) c
theorem TupKeep.of_keeps {h h' : Heap} (p : ∀ b o, h.get? b = some o → h'.get? b = some o) : TupKeep h h' := fun a o e _ => p a o e

mutual
theorem VR.keep {b h h' : Heap} (k : TupKeep h h') : ∀ (x : MV) {v : Value}, VR b h x v → VR b h' x v
  | .none, _, r => r
  | .bool _, _, r => r
  | .int _, _, r => r
  | .str _, _, r => r
  | .ref _, _, r => r
  | .raw _, _, r => r
  | .fl _, _, r => r
  | .rng _ _, v, r => by
    unfold VR at r ⊢
    obtain ⟨a, t, u, w, rfl, e⟩ := r
    exact ⟨a, t, u, w, rfl, k _ _ e (.inr ⟨rfl, _, rfl⟩)⟩
  | .tup xs, v, r => by
    unfold VR at r ⊢
    obtain ⟨a, vs, rfl, ⟨o, ho, hc, n, hd⟩, hr⟩ := r
    exact ⟨a, vs, rfl, ⟨o, k a o ho (.inl ⟨hc, _, n, hd⟩), hc, n, hd⟩, VRs.keep k xs hr⟩
theorem VRs.keep {b h h' : Heap} (k : TupKeep h h') : ∀ (xs : List MV) {vs : List Value}, VRs b h xs vs → VRs b h' xs vs
  | [], _, r => r
  | x :: xs, vs, r => by
    unfold VRs at r ⊢
    obtain ⟨v, t, rfl, h1, h2⟩ := r
    exact ⟨v, t, rfl, VR.keep k x h1, VRs.keep k xs h2⟩
end

theorem VRs.length {b h : Heap} : ∀ {xs : List MV} {vs : List Value}, VRs b h xs vs → vs.length = xs.length
  | [], _, r => by unfold VRs at r; rw [r]; rfl
  | x :: xs, _, r => by
    unfold VRs at r
    obtain ⟨v, t, rfl, h1, h2⟩ := r
    rw [List.length_cons, List.length_cons, VRs.length h2]
theorem VRs.get {b h : Heap} : ∀ {xs : List MV} {vs : List Value}, VRs b h xs vs → ∀ {i : Nat} {x : MV}, xs[i]? = some x → ∃ v, vs[i]? = some v ∧ VR b h x v
  | [], _, _, i, x, e => by simp at e
  | y :: xs, _, r, i, x, e => by
    unfold VRs at r
    obtain ⟨v, t, rfl, h1, h2⟩ := r
    cases i with
    | zero => simp at e; subst e; exact ⟨v, rfl, h1⟩
    | succ i => simp at e; obtain ⟨u, hu, hv⟩ := VRs.get h2 e; exact ⟨u, by simpa using hu, hv⟩
theorem VRs.append {b h : Heap} : ∀ {xs : List MV} {vs : List Value} {ys : List MV} {us : List Value}, VRs b h xs vs → VRs b h ys us → VRs b h (xs ++ ys) (vs ++ us)
  | [], _, _, _, r, q => by unfold VRs at r; subst r; exact q
  | x :: xs, _, _, _, r, q => by
    unfold VRs at r
    obtain ⟨v, t, rfl, h1, h2⟩ := r
    show VRs b h (x :: (xs ++ _)) _
    unfold VRs
    exact ⟨v, _, rfl, h1, VRs.append h2 q⟩
theorem VRs.one {b h : Heap} {x : MV} {v : Value} (r : VR b h x v) : VRs b h [x] [v] := by
  unfold VRs VRs; exact ⟨v, [], rfl, r, rfl⟩
theorem VRs.nil {b h : Heap} : VRs b h [] [] := by unfold VRs; rfl
theorem VRs.cons {b h : Heap} {x : MV} {v : Value} {xs : List MV} {vs : List Value} (r : VR b h x v) (rs : VRs b h xs vs) : VRs b h (x :: xs) (v :: vs) := by
  unfold VRs; exact ⟨v, vs, rfl, r, rs⟩
theorem VRs.inv {b h : Heap} {x : MV} {xs : List MV} {vs : List Value} (r : VRs b h (x :: xs) vs) : ∃ v t, vs = v :: t ∧ VR b h x v ∧ VRs b h xs t := by
  unfold VRs at r; exact r
theorem VRs.inv0 {b h : Heap} {vs : List Value} (r : VRs b h [] vs) : vs = [] := by
  unfold VRs at r; exact r
theorem VRs.set {b h : Heap} : ∀ {xs : List MV} {vs : List Value} {i : Nat} {x : MV} {v : Value}, VRs b h xs vs → VR b h x v → VRs b h (xs.set i x) (vs.set i v)
  | [], _, i, x, v, r, q => by unfold VRs at r; subst r; exact VRs.nil
  | y :: xs, _, i, x, v, r, q => by
    obtain ⟨u, t, rfl, h1, h2⟩ := r.inv
    cases i with
    | zero => exact .cons q h2
    | succ i => exact .cons h1 (VRs.set h2 q)
theorem VRs.take {b h : Heap} : ∀ {xs : List MV} {vs : List Value}, VRs b h xs vs → ∀ n, VRs b h (xs.take n) (vs.take n)
  | [], _, r, n => by unfold VRs at r; subst r; simpa using VRs.nil
  | y :: xs, _, r, n => by
    obtain ⟨u, t, rfl, h1, h2⟩ := r.inv
    cases n with
    | zero => exact VRs.nil
    | succ n => exact .cons h1 (VRs.take h2 n)
theorem VRs.drop {b h : Heap} : ∀ {xs : List MV} {vs : List Value}, VRs b h xs vs → ∀ n, VRs b h (xs.drop n) (vs.drop n)
  | [], _, r, n => by unfold VRs at r; subst r; simpa using VRs.nil
  | y :: xs, _, r, n => by
    obtain ⟨u, t, rfl, h1, h2⟩ := r.inv
    cases n with
    | zero => exact .cons h1 h2
    | succ n => exact VRs.drop h2 n
theorem VRs.reverse {b h : Heap} : ∀ {xs : List MV} {vs : List Value}, VRs b h xs vs → VRs b h xs.reverse vs.reverse
  | [], _, r => by unfold VRs at r; subst r; exact VRs.nil
  | y :: xs, _, r => by
    obtain ⟨u, t, rfl, h1, h2⟩ := r.inv
    simp only [List.reverse_cons]
    exact VRs.append (VRs.reverse h2) (VRs.one h1)

/-! the ledger -/
inductive MO where
  | list (xs : List MV)
  | dict (es : List (MV × MV))
abbrev Hp := List (Addr × MO)

/-- what a key's hash is -/
def HashOk : MV → Int → Prop
  | .int k, hs => hs = hashInt k
  | .tup l, hs => ∀ (prog : Program) (w : World) (ks : List Int), l = ks.map .int → hs = tupleKeyHash (intKind prog w) ks
  | _, _ => True
def DRs (b h : Heap) : List (MV × MV) → List DictEntry → Prop
  | [], ds => ds = []
  | p :: ps, ds => ∃ d r, ds = d :: r ∧ VR b h p.1 d.key ∧ VR b h p.2 d.val ∧ HashOk p.1 d.hash ∧ DRs b h ps r
theorem DRs.keep {b h h' : Heap} (k : TupKeep h h') : ∀ (xs : List (MV × MV)) {vs : List DictEntry}, DRs b h xs vs → DRs b h' xs vs
  | [], _, r => r
  | x :: xs, vs, r => by
    unfold DRs at r ⊢
    obtain ⟨v, t, rfl, h1, h2, h3, h4⟩ := r
    exact ⟨v, t, rfl, h1.keep k, h2.keep k, h3, DRs.keep k xs h4⟩

def OR (b h : Heap) (a : Addr) : MO → Prop
  | .list xs => ∃ vs n, h.get? a = some { cls := .type "list", data := .seq vs.toArray n } ∧ VRs b h xs vs
  | .dict es => (a == sysModules) = false ∧ ∃ ds n, h.get? a = some { cls := .type "dict", data := .dict ds.toArray n } ∧ DRs b h es ds

structure Cx where
  prog : Program
  w : World
  h₀ : Heap
  gens : Array GenState
  os : OsState
  mg : Str → Option Value
  mb : Str → Option Value
  hg : h₀.Ns mainGlobals mg
  hb : h₀.Ns builtinsNs mb
  hbl : ∀ x : Str, x ≠ "__name__" → mb x = bootBuiltins x
  hlim : h₀.NoLimit
  hd : Option Value
  hdOk : ∀ v, hd = some v → ∃ e o vs, v = .ref e ∧ h₀.get? e = some o ∧ o.data = .fields vs ∧ vs[2]? = some .none

structure Inv (C : Cx) (H : Hp) (s : Shared) : Prop where
  base : ∀ b o, C.h₀.get? b = some o → s.heap.get? b = some o
  objs : ∀ p ∈ H, OR C.h₀ s.heap p.1 p.2
  new : ∀ p ∈ H, C.h₀.get? p.1 = none
  nodup : (H.map (·.1)).Nodup
  gens : s.gens = C.gens
  os : s.os = C.os

def dom (H : Hp) (a : Addr) : Prop := a ∈ H.map (·.1)

def Kp (h : Heap) (H : Hp) (h' : Heap) (H' : Hp) : Prop :=
  ∀ b o, h.get? b = some o → ¬ dom H b → h'.get? b = some o ∧ ¬ dom H' b
theorem Kp.refl (h : Heap) (H : Hp) : Kp h H h H := fun _ _ e n => ⟨e, n⟩
theorem Kp.trans {h h' h'' : Heap} {H H' H'' : Hp} (p : Kp h H h' H') (q : Kp h' H' h'' H'') : Kp h H h'' H'' :=
  fun b o e n => let ⟨e', n'⟩ := p b o e n; q b o e' n'

theorem OR.exists {b h : Heap} {a : Addr} {o : MO} (x : OR b h a o) : ∃ ob, h.get? a = some ob ∧ ¬ Imm ob := by
  cases o with
  | list xs => obtain ⟨vs, n, e, _⟩ := x; exact ⟨_, e, by simp [Imm]⟩
  | dict es => obtain ⟨_, vs, n, e, _⟩ := x; exact ⟨_, e, by simp [Imm]⟩
theorem OR.keep {b h h' : Heap} {a : Addr} {o : MO} (x : OR b h a o) (k : TupKeep h h') (e : ∀ ob, h.get? a = some ob → h'.get? a = some ob) : OR b h' a o := by
  cases o with
  | list xs => obtain ⟨vs, n, e1, r⟩ := x; exact ⟨vs, n, e _ e1, r.keep k⟩
  | dict es => obtain ⟨hs, vs, n, e1, r⟩ := x; exact ⟨hs, vs, n, e _ e1, r.keep k⟩
theorem Inv.noTup {C : Cx} {H : Hp} {s : Shared} (I : Inv C H s) {a : Addr} {o : Obj} (e : s.heap.get? a = some o) (c : Imm o) : ¬ dom H a := by
  intro hd
  obtain ⟨p, hp, rfl⟩ := List.mem_map.mp hd
  obtain ⟨ob, e', n⟩ := (I.objs p hp).exists
  rw [e] at e'; cases e'; exact n c
theorem Inv.tupKeep {C : Cx} {H H' : Hp} {s : Shared} {h' : Heap} (I : Inv C H s) (k : Kp s.heap H h' H') : TupKeep s.heap h' :=
  fun a o e c => (k a o e (I.noTup e c)).1
theorem Inv.lt {C : Cx} {H : Hp} {s : Shared} (I : Inv C H s) {a : Addr} (d : dom H a) : a < s.heap.objs.size := by
  obtain ⟨p, hp, rfl⟩ := List.mem_map.mp d
  obtain ⟨ob, e', _⟩ := (I.objs p hp).exists
  exact Heap.lt_size e'
theorem Inv.fresh {C : Cx} {H : Hp} {s : Shared} (I : Inv C H s) : ¬ dom H s.heap.objs.size := fun d => Nat.lt_irrefl _ (I.lt d)
/-- a state with the same heap -/
theorem Inv.toks {C : Cx} {H : Hp} {s : Shared} (I : Inv C H s) (t : Nat) : Inv C H { s with toks := t } := ⟨I.base, I.objs, I.new, I.nodup, I.gens, I.os⟩
/-- the heap grows, nothing else -/
theorem Inv.grow {C : Cx} {H : Hp} {s : Shared} (I : Inv C H s) {h' : Heap} (k : ∀ b o, s.heap.get? b = some o → h'.get? b = some o) (t : Nat) : Inv C H { s with heap := h', toks := t } :=
  ⟨fun b o e => k b o (I.base b o e), fun p hp => (I.objs p hp).keep (.of_keeps k) fun _ e => k _ _ e, I.new, I.nodup, I.gens, I.os⟩
theorem Kp.of_keeps {h h' : Heap} {H : Hp} (k : ∀ b o, h.get? b = some o → h'.get? b = some o) : Kp h H h' H := fun b o e n => ⟨k b o e, n⟩
theorem Inv.sub {C : Cx} {H H' : Hp} {s : Shared} (I : Inv C H s) (hs : H'.Sublist H) : Inv C H' s :=
  ⟨I.base, fun p hp => I.objs p (hs.subset hp), fun p hp => I.new p (hs.subset hp), (hs.map (·.1)).nodup I.nodup, I.gens, I.os⟩
theorem Kp.sub {h h' : Heap} {H H' H'' : Hp} (k : Kp h H h' H') (hs : H''.Sublist H') : Kp h H h' H'' :=
  fun b o e n => ⟨(k b o e n).1, fun d => (k b o e n).2 ((hs.map (·.1)).subset d)⟩

/-! frames: an ordered list of names and values -/
abbrev Sg := List (Str × Option MV)
inductive At : Sg → Str → MV → Prop
  | here {x v r} : At ((x, some v) :: r) x v
  | there {p r x v} : At r x v → At (p :: r) x v
inductive Put : Sg → Str → MV → Sg → Prop
  | here {x o r v} : Put ((x, o) :: r) x v ((x, some v) :: r)
  | there {p r x v r'} : Put r x v r' → Put (p :: r) x v (p :: r')
def names (S : Sg) : List Str := S.map (·.1)
theorem At.mem {S : Sg} {x : Str} {v : MV} (h : At S x v) : x ∈ names S := by
  induction h with
  | here => exact List.mem_cons_self
  | there _ ih => exact List.mem_cons_of_mem _ ih
theorem Put.names {S S' : Sg} {x : Str} {v : MV} (h : Put S x v S') : names S' = names S := by
  induction h with
  | here => rfl
  | there _ ih => simp only [Mine.names, List.map_cons] at ih ⊢; rw [ih]
theorem Put.mem {S S' : Sg} {x : Str} {v : MV} (h : Put S x v S') : x ∈ Mine.names S := by
  induction h with
  | here => exact List.mem_cons_self
  | there _ ih => exact List.mem_cons_of_mem _ ih
theorem Put.at {S S' : Sg} {x : Str} {v : MV} (h : Put S x v S') (nd : (Mine.names S).Nodup) {y : Str} {u : MV} (a : At S' y u) : (y = x ∧ u = v) ∨ (y ≠ x ∧ At S y u) := by
  induction h with
  | @here x o r v =>
    have hx : x ∉ Mine.names r := (List.nodup_cons.mp nd).1
    cases a with
    | here => exact .inl ⟨rfl, rfl⟩
    | there a => exact .inr ⟨fun e => hx (e ▸ a.mem), .there a⟩
  | @there p r x v r' hp ih =>
    have hx := List.nodup_cons.mp nd
    cases a with
    | @here _ _ _ => exact .inr ⟨fun e => hx.1 (e ▸ hp.mem), .here⟩
    | there a =>
      rcases ih hx.2 a with h | h
      · exact .inl h
      · exact .inr ⟨h.1, .there h.2⟩

structure EnvOk (env : Env) (ns gs : List Str) : Prop where
  kind : env.scope.kind = .function
  glob : env.globals = mainGlobals
  blt : env.builtins = builtinsNs
  nodup : ns.Nodup
  nodbg : ∀ x ∈ ns, (x == ("__debug__" : Str)) = false
  vars : ∀ x ∈ ns, env.kindOf x = some .local ∨ ((env.kindOf x = some .cell ∨ env.kindOf x = some .free ∧ (x == ("__classdict__" : Str)) = false) ∧ ∃ c, env.cells.lookup x = some c)
  gl : ∀ x ∈ gs, env.kindOf x = some .globalImplicit
  apart : env.cells.Pairwise fun x y => x.2 ≠ y.2
  cfun : ∀ n c c', (n, c) ∈ env.cells → (n, c') ∈ env.cells → c = c'
  off : ∀ n c, (n, c) ∈ env.cells → env.locals ≠ c

structure Fm (C : Cx) (env : Env) (gs : List Str) (S : Sg) (H : Hp) (h : Heap) : Prop where
  ok : EnvOk env (names S) gs
  ns : ∃ mr, h.Ns env.locals mr ∧ ∀ x v, At S x v → env.kindOf x = some .local → ∃ u, mr x = some u ∧ VR C.h₀ h v u
  nl : ¬ dom H env.locals
  nl0 : C.h₀.get? env.locals = none
  cell : ∀ n c, (n, c) ∈ env.cells → ∃ vo, h.IsCell c vo ∧ ¬ dom H c ∧ C.h₀.get? c = none ∧ ∀ v, At S n v → env.kindOf n ≠ some .local → ∃ u, vo = some u ∧ VR C.h₀ h v u

theorem Fm.keep {C : Cx} {env : Env} {gs : List Str} {S : Sg} {H H' : Hp} {s : Shared} {h' : Heap} (F : Fm C env gs S H s.heap) (I : Inv C H s) (k : Kp s.heap H h' H') : Fm C env gs S H' h' := by
  obtain ⟨ok, ⟨mr, hn, hv⟩, nl, nl0, hc⟩ := F
  have tk := I.tupKeep k
  obtain ⟨oL, es, ep, hL, r⟩ := hn
  refine ⟨ok, ⟨mr, ⟨oL, es, ep, (k _ _ hL nl).1, r⟩, fun x v a e => ?_⟩, (k _ _ hL nl).2, nl0, fun n c e => ?_⟩
  · obtain ⟨u, h1, h2⟩ := hv x v a e; exact ⟨u, h1, h2.keep tk⟩
  · obtain ⟨vo, ⟨oc, ho, hd⟩, nd, n0, hv⟩ := hc n c e
    refine ⟨vo, ⟨oc, (k _ _ ho nd).1, hd⟩, (k _ _ ho nd).2, n0, fun v a e => ?_⟩
    obtain ⟨u, h1, h2⟩ := hv v a e; exact ⟨u, h1, h2.keep tk⟩

/-! rooms -/
structure AOk (C : Cx) (A : Around) (n : Nat) : Prop where
  handled : A.handled = C.hd
  depth : A.depth + n < recursionLimit
  units : A.units + 3 * n + 100 < cLine
theorem AOk.deeper {C : Cx} {A : Around} {n : Nat} (a : AOk C A (n + 1)) (env : Env) : AOk C (A.deeper env) n :=
  ⟨a.handled, by have := a.depth; show A.depth + 1 + n < _; omega, by have := a.units; show A.units + 3 + 3 * n + 100 < _; omega⟩
theorem AOk.le {C : Cx} {A : Around} {n k : Nat} (a : AOk C A n) (h : k ≤ n) : AOk C A k := ⟨a.handled, by have := a.depth; omega, by have := a.units; omega⟩

def NoE : Value → Shared → Prop := fun _ _ => False

/-! judgements -/
def EP (C : Cx) (H : Hp) (s : Shared) (Q : MV → Hp → Prop) : Value → Shared → Prop :=
  fun v s' => ∃ x H', VR C.h₀ s'.heap x v ∧ Inv C H' s' ∧ Kp s.heap H s'.heap H' ∧ Q x H'
def BP (C : Cx) (H : Hp) (s : Shared) (Q : Bool → Hp → Prop) : Bool → Shared → Prop :=
  fun b s' => ∃ H', Inv C H' s' ∧ Kp s.heap H s'.heap H' ∧ Q b H'
def LP (C : Cx) (H : Hp) (s : Shared) (Q : List MV → Hp → Prop) : List Value → Shared → Prop :=
  fun vs s' => ∃ xs H', VRs C.h₀ s'.heap xs vs ∧ Inv C H' s' ∧ Kp s.heap H s'.heap H' ∧ Q xs H'
theorem EP.from {C : Cx} {H H₁ : Hp} {s s₁ : Shared} {Q : MV → Hp → Prop} {v : Value} {s' : Shared} (k : Kp s.heap H s₁.heap H₁) (h : EP C H₁ s₁ Q v s') : EP C H s Q v s' :=
  let ⟨x, H', r, I, k', q⟩ := h; ⟨x, H', r, I, k.trans k', q⟩
theorem BP.from {C : Cx} {H H₁ : Hp} {s s₁ : Shared} {Q : Bool → Hp → Prop} {v : Bool} {s' : Shared} (k : Kp s.heap H s₁.heap H₁) (h : BP C H₁ s₁ Q v s') : BP C H s Q v s' :=
  let ⟨H', I, k', q⟩ := h; ⟨H', I, k.trans k', q⟩
abbrev Md (C : Cx) : Model := model C.prog C.w

/-- an expression in a frame -/
def WE (C : Cx) (A : Around) (env : Env) (gs : List Str) (S : Sg) (H : Hp) (e : Expr) (Q : MV → Hp → Prop) : Prop :=
  ∀ s, Inv C H s → Fm C env gs S H s.heap → wpAny (Md C) A (eval e env) (EP C H s Q) NoE s
/-- several, in order -/
def WEs (C : Cx) (A : Around) (env : Env) (gs : List Str) (S : Sg) (H : Hp) (es : List Expr) (Q : List MV → Hp → Prop) : Prop :=
  ∀ s pos, Inv C H s → Fm C env gs S H s.heap → wpAny (Md C) A (spliced (backTo pos (starEach es env))) (LP C H s Q) NoE s
/-- a test -/
def WT (C : Cx) (A : Around) (env : Env) (gs : List Str) (S : Sg) (H : Hp) (e : Expr) (Q : Bool → Hp → Prop) : Prop :=
  ∀ s, Inv C H s → Fm C env gs S H s.heap → wpAny (Md C) A (isTrue e env (eval e env)) (BP C H s Q) NoE s
def W2 (C : Cx) (A : Around) (H : Hp) (t : Value → Value → Sem Value) (x y : MV) (Q : MV → Hp → Prop) : Prop :=
  ∀ s u v, Inv C H s → VR C.h₀ s.heap x u → VR C.h₀ s.heap y v → wpAny (Md C) A (t u v) (EP C H s Q) NoE s
def WB (C : Cx) (A : Around) (H : Hp) (t : Value → Sem Bool) (x : MV) (Q : Bool → Hp → Prop) : Prop :=
  ∀ s v, Inv C H s → VR C.h₀ s.heap x v → wpAny (Md C) A (t v) (BP C H s Q) NoE s
/-- a call of a value with these arguments -/
def WC (C : Cx) (A : Around) (H : Hp) (f : Value) (xs : List MV) (Q : MV → Hp → Prop) : Prop :=
  ∀ s vs, Inv C H s → VRs C.h₀ s.heap xs vs → wpAny (Md C) A (call f vs []) (EP C H s Q) NoE s

theorem noE {E : Value → Shared → Prop} : ∀ e s, NoE e s → E e s := fun _ _ h => h.elim
end Mine
namespace Mine
open PySem PySem.Calls PyProof.Rows

section
variable {C : Cx} {A : Around} {env : Env} {S : Sg} {H : Hp} {gs : List Str} {Q : MV → Hp → Prop}

theorem EP.elim {s : Shared} {v : Value} {s' : Shared} {G : Prop} (h : EP C H s Q v s') (k : ∀ x H', VR C.h₀ s'.heap x v → Inv C H' s' → Kp s.heap H s'.heap H' → Q x H' → G) : G := by
  obtain ⟨x, H', r, I, kp, q⟩ := h
  exact k x H' r I kp q
theorem LP.elim {s : Shared} {Q : List MV → Hp → Prop} {v : List Value} {s' : Shared} {G : Prop} (h : LP C H s Q v s') (k : ∀ x H', VRs C.h₀ s'.heap x v → Inv C H' s' → Kp s.heap H s'.heap H' → Q x H' → G) : G := by
  obtain ⟨x, H', r, I, kp, q⟩ := h
  exact k x H' r I kp q
theorem BP.elim {s : Shared} {Q : Bool → Hp → Prop} {b : Bool} {s' : Shared} {G : Prop} (h : BP C H s Q b s') (k : ∀ H', Inv C H' s' → Kp s.heap H s'.heap H' → Q b H' → G) : G := by
  obtain ⟨H', I, kp, q⟩ := h
  exact k H' I kp q
theorem EP.same {s : Shared} {x : MV} {v : Value} {t : Nat} (I : Inv C H s) (r : VR C.h₀ s.heap x v) (q : Q x H) : EP C H s Q v { s with toks := t } :=
  ⟨x, H, r, I.toks t, Kp.refl _ _, q⟩
theorem EP.here {s : Shared} {x : MV} {v : Value} (I : Inv C H s) (r : VR C.h₀ s.heap x v) (q : Q x H) : EP C H s Q v s :=
  ⟨x, H, r, I, Kp.refl _ _, q⟩
theorem BP.here {s : Shared} {b : Bool} {Q : Bool → Hp → Prop} (I : Inv C H s) (q : Q b H) : BP C H s Q b s := ⟨H, I, Kp.refl _ _, q⟩
/-- the heap has grown by what nobody names -/
theorem EP.grown {s : Shared} {x : MV} {v : Value} {h' : Heap} {t : Nat} (I : Inv C H s) (k : ∀ b o, s.heap.get? b = some o → h'.get? b = some o) (r : VR C.h₀ h' x v) (q : Q x H) :
    EP C H s Q v { s with heap := h', toks := t } := ⟨x, H, r, I.grow k t, Kp.of_keeps k, q⟩

theorem EP.mono {s : Shared} {Q Q' : MV → Hp → Prop} {v : Value} {s' : Shared} (m : ∀ x H, Q x H → Q' x H) (h : EP C H s Q v s') : EP C H s Q' v s' :=
  let ⟨x, H', r, I, k, q⟩ := h; ⟨x, H', r, I, k, m _ _ q⟩
theorem WE.mono {e : Expr} {Q' : MV → Hp → Prop} (h : WE C A env gs S H e Q) (m : ∀ x H, Q x H → Q' x H) : WE C A env gs S H e Q' :=
  fun s I F => wpAny_mono (h s I F) (fun _ _ p => p.mono m) fun _ _ x => x
theorem WE.var {x : Str} {p : Pos} {v : MV} (a : At S x v) (q : Q v H) : WE C A env gs S H (.Name x p) Q := by
  intro s I F
  have hd := F.ok.nodbg x a.mem
  rcases F.ok.vars x a.mem with hl | ⟨hl, c, hc⟩
  · obtain ⟨mr, hn, hv⟩ := F.ns
    obtain ⟨u, hu, hr⟩ := hv x v a hl
    exact wpAny_Name (wpAny_loadName_local F.ok.kind hl hn hu (EP.here I hr q)) hd
  · obtain ⟨vo, hcell, _, _, hv⟩ := F.cell x c (mem_of_lookup hc)
    have hnl : env.kindOf x ≠ some .local := by
      rcases hl with h | h
      · rw [h]; decide
      · rw [h.1]; decide
    obtain ⟨u, hu, hr⟩ := hv v a hnl
    subst hu
    rcases hl with h | h
    · exact wpAny_Name (wpAny_loadName_cell F.ok.kind h hc hcell (EP.here I hr q)) hd
    · exact wpAny_Name (wpAny_loadName_free F.ok.kind h.1 hc hcell (EP.here I hr q) h.2) hd

theorem WE.glob {x : Str} {p : Pos} {v : Value} (hx : x ∈ gs) (hv : C.mg x = some v) (q : Q (.raw v) H) (hd : (x == ("__debug__" : Str)) = false) : WE C A env gs S H (.Name x p) Q := by
  intro s I F
  refine Name_function_global F.ok.kind (F.ok.gl x hx) (loadGlobal_global (env := env) (v := v) (mg := C.mg) ?_ hv (EP.here I ?_ q)) hd
  · rw [F.ok.glob]; exact C.hg.keeps I.base
  · unfold VR; rfl
theorem WE.builtin {x : Str} {p : Pos} {v : Value} (hx : x ∈ gs) (hm : C.mg x = none) (hv : bootBuiltins x = some v) (hn : x ≠ "__name__") (q : Q (.raw v) H) (hd : (x == ("__debug__" : Str)) = false) : WE C A env gs S H (.Name x p) Q := by
  intro s I F
  refine Name_function_global F.ok.kind (F.ok.gl x hx) (loadGlobal_builtin (env := env) (v := v) (mg := C.mg) (mb := C.mb) ?_ hm ?_ ((C.hbl x hn).trans hv) (EP.here I ?_ q)) hd
  · rw [F.ok.glob]; exact C.hg.keeps I.base
  · rw [F.ok.blt]; exact C.hb.keeps I.base
  · unfold VR; rfl

theorem WE.int {i : Int} {k : Nat} {p : Pos} (q : Q (.int i) H) : WE C A env gs S H (.Constant (.int i) k p) Q := fun s I _ =>
  wpAny_Constant_int (EP.same I (by unfold VR; exact ⟨_, rfl⟩) q)
theorem WE.str {x : Str} {k : Nat} {p : Pos} (q : Q (.str x) H) : WE C A env gs S H (.Constant (.str x) k p) Q := fun s I _ =>
  Constant_str (EP.same I (by unfold VR; exact ⟨_, rfl⟩) q)
theorem WE.bool {b : Bool} {k : Nat} {p : Pos} (q : Q (.bool b) H) : WE C A env gs S H (.Constant (.bool b) k p) Q := fun s I _ =>
  Constant_bool (EP.here I (by unfold VR; rfl) q)
theorem WE.none {k : Nat} {p : Pos} (q : Q .none H) : WE C A env gs S H (.Constant .none k p) Q := fun s I _ =>
  Constant_none (EP.here I (by unfold VR; rfl) q)

theorem WE.bin {l r : Expr} {op : Operator} {p : Pos} (h : WE C A env gs S H l (fun x H₁ => WE C A env gs S H₁ r (fun y H₂ => W2 C A H₂ (binaryOp op) x y Q))) : WE C A env gs S H (.BinOp l op r p) Q := by
  intro s I F
  refine wpAny_BinOp (wpAny_mono (h s I F) (fun u s₁ h₁ => ?_) noE)
  first | (refine EP.elim h₁ fun x H₁ r₁ I₁ k₁ q₁ => ?_; clear h₁) | (refine LP.elim h₁ fun x H₁ r₁ I₁ k₁ q₁ => ?_; clear h₁) | obtain ⟨x, H₁, r₁, I₁, k₁, q₁⟩ := h₁
  refine wpAny_mono (q₁ s₁ I₁ (F.keep I k₁)) (fun v s₂ h₂ => ?_) noE
  first | (refine EP.elim h₂ fun y H₂ r₂ I₂ k₂ q₂ => ?_; clear h₂) | (refine LP.elim h₂ fun y H₂ r₂ I₂ k₂ q₂ => ?_; clear h₂) | obtain ⟨y, H₂, r₂, I₂, k₂, q₂⟩ := h₂
  exact wpAny_mono (q₂ s₂ u v I₂ (r₁.keep (I₁.tupKeep k₂)) r₂) (fun _ _ h => h.from (k₁.trans k₂)) noE
theorem WE.cmp {l r : Expr} {op : CmpOp} {p : Pos} (h : WE C A env gs S H l (fun x H₁ => WE C A env gs S H₁ r (fun y H₂ => W2 C A H₂ (compareOp op) x y Q)))
    (hm : behindInMarks op r = false := by with_unfolding_all rfl) : WE C A env gs S H (.Compare l [op] [r] p) Q := by
  intro s I F
  refine wpAny_Compare1 (wpAny_mono (h s I F) (fun u s₁ h₁ => ?_) noE) hm
  first | (refine EP.elim h₁ fun x H₁ r₁ I₁ k₁ q₁ => ?_; clear h₁) | (refine LP.elim h₁ fun x H₁ r₁ I₁ k₁ q₁ => ?_; clear h₁) | obtain ⟨x, H₁, r₁, I₁, k₁, q₁⟩ := h₁
  refine wpAny_mono (q₁ s₁ I₁ (F.keep I k₁)) (fun v s₂ h₂ => ?_) noE
  first | (refine EP.elim h₂ fun y H₂ r₂ I₂ k₂ q₂ => ?_; clear h₂) | (refine LP.elim h₂ fun y H₂ r₂ I₂ k₂ q₂ => ?_; clear h₂) | obtain ⟨y, H₂, r₂, I₂, k₂, q₂⟩ := h₂
  exact wpAny_mono (q₂ s₂ u v I₂ (r₁.keep (I₁.tupKeep k₂)) r₂) (fun _ _ h => h.from (k₁.trans k₂)) noE

/-! tests -/
section
variable {Q : Bool → Hp → Prop}
theorem WB.bool {b : Bool} (q : Q b H) : WB C A H truthy (.bool b) Q := fun s v I r => by
  unfold VR at r; subst r; exact wpAny_truthy_bool (BP.here I q)
theorem WT.cmp {l r : Expr} {op : CmpOp} {p : Pos} (h : WE C A env gs S H l (fun x H₁ => WE C A env gs S H₁ r (fun y H₂ => W2 C A H₂ (compareOp op) x y fun z H₃ => ∃ b, z = .bool b ∧ Q b H₃)))
    (hm : behindInMarks op r = false := by with_unfolding_all rfl) : WT C A env gs S H (.Compare l [op] [r] p) Q := by
  intro s I F
  refine wpAny_isTrue_Compare1 (wpAny_mono (h s I F) (fun u s₁ h₁ => ?_) noE) hm
  first | (refine EP.elim h₁ fun x H₁ r₁ I₁ k₁ q₁ => ?_; clear h₁) | (refine LP.elim h₁ fun x H₁ r₁ I₁ k₁ q₁ => ?_; clear h₁) | obtain ⟨x, H₁, r₁, I₁, k₁, q₁⟩ := h₁
  refine wpAny_mono (q₁ s₁ I₁ (F.keep I k₁)) (fun v s₂ h₂ => ?_) noE
  first | (refine EP.elim h₂ fun y H₂ r₂ I₂ k₂ q₂ => ?_; clear h₂) | (refine LP.elim h₂ fun y H₂ r₂ I₂ k₂ q₂ => ?_; clear h₂) | obtain ⟨y, H₂, r₂, I₂, k₂, q₂⟩ := h₂
  refine wpAny_mono (q₂ s₂ u v I₂ (r₁.keep (I₁.tupKeep k₂)) r₂) (fun z s₃ h₃ => ?_) noE
  first | (refine EP.elim h₃ fun zz H₃ r₃ I₃ k₃ hq => ?_; clear h₃) | (refine LP.elim h₃ fun zz H₃ r₃ I₃ k₃ hq => ?_; clear h₃) | obtain ⟨zz, H₃, r₃, I₃, k₃, hq⟩ := h₃
  obtain ⟨b, rfl, q₃⟩ := hq
  unfold VR at r₃; subst r₃
  exact wpAny_truthy_bool ⟨H₃, I₃, (k₁.trans k₂).trans k₃, q₃⟩
theorem WT.not {x : Expr} {p : Pos} (h : WT C A env gs S H x (fun b H' => Q (!b) H')) : WT C A env gs S H (.UnaryOp .Not x p) Q := fun s I F =>
  isTrue_not (wpAny_mono (h s I F) (fun _ _ h => h) noE)
theorem WT.and0 {p : Pos} (q : Q true H) : WT C A env gs S H (.BoolOp .And [] p) Q := fun _ I _ => isTrue_and_nil (BP.here I q)
theorem WT.or0 {p : Pos} (q : Q false H) : WT C A env gs S H (.BoolOp .Or [] p) Q := fun _ I _ => isTrue_or_nil (BP.here I q)
theorem WT.and {x : Expr} {rest : List Expr} {p : Pos} (h : WT C A env gs S H x (fun b H' => if b = true then WT C A env gs S H' (.BoolOp .And rest p) Q else Q false H')) : WT C A env gs S H (.BoolOp .And (x :: rest) p) Q := by
  intro s I F
  refine isTrue_and (wpAny_mono (h s I F) (fun b s₁ h₁ => ?_) noE)
  first | (refine BP.elim h₁ fun H₁ I₁ k₁ q₁ => ?_; clear h₁) | obtain ⟨H₁, I₁, k₁, q₁⟩ := h₁
  cases b with
  | false => exact ⟨H₁, I₁, k₁, q₁⟩
  | true => exact wpAny_mono (q₁ s₁ I₁ (F.keep I k₁)) (fun _ _ h => h.from k₁) noE
theorem WT.or {x : Expr} {rest : List Expr} {p : Pos} (h : WT C A env gs S H x (fun b H' => if b = true then Q true H' else WT C A env gs S H' (.BoolOp .Or rest p) Q)) : WT C A env gs S H (.BoolOp .Or (x :: rest) p) Q := by
  intro s I F
  refine isTrue_or (wpAny_mono (h s I F) (fun b s₁ h₁ => ?_) noE)
  first | (refine BP.elim h₁ fun H₁ I₁ k₁ q₁ => ?_; clear h₁) | obtain ⟨H₁, I₁, k₁, q₁⟩ := h₁
  cases b with
  | true => exact ⟨H₁, I₁, k₁, q₁⟩
  | false => exact wpAny_mono (q₁ s₁ I₁ (F.keep I k₁)) (fun _ _ h => h.from k₁) noE
theorem WT.plain {e : Expr} (h : WE C A env gs S H e (fun x H' => WB C A H' truthy x Q)) (he : isTrue e env (eval e env) = (do let v ← eval e env; standAt e.pos; holding [v] (truthy v)) := by with_unfolding_all rfl) : WT C A env gs S H e Q := by
  intro s I F
  refine isTrue_plain (wpAny_mono (h s I F) (fun v s₁ h₁ => ?_) noE) he
  first | (refine EP.elim h₁ fun x H₁ r₁ I₁ k₁ q₁ => ?_; clear h₁) | (refine LP.elim h₁ fun x H₁ r₁ I₁ k₁ q₁ => ?_; clear h₁) | obtain ⟨x, H₁, r₁, I₁, k₁, q₁⟩ := h₁
  exact wpAny_mono (q₁ s₁ v I₁ r₁) (fun _ _ h => h.from k₁) noE
end

theorem WE.not {x : Expr} {p : Pos} (h : WE C A env gs S H x (fun v H' => WB C A H' truthy v fun b H₂ => Q (.bool (!b)) H₂)) : WE C A env gs S H (.UnaryOp .Not x p) Q := by
  intro s I F
  refine UnaryOp_ (wpAny_mono (h s I F) (fun v s₁ h₁ => ?_) noE)
  first | (refine EP.elim h₁ fun x H₁ r₁ I₁ k₁ q₁ => ?_; clear h₁) | (refine LP.elim h₁ fun x H₁ r₁ I₁ k₁ q₁ => ?_; clear h₁) | obtain ⟨x, H₁, r₁, I₁, k₁, q₁⟩ := h₁
  refine not_of (wpAny_mono (q₁ s₁ v I₁ r₁) (fun b s₂ h₂ => ?_) noE)
  first | (refine BP.elim h₂ fun H₂ I₂ k₂ q₂ => ?_; clear h₂) | obtain ⟨H₂, I₂, k₂, q₂⟩ := h₂
  exact ⟨_, H₂, by unfold VR; rfl, I₂, k₁.trans k₂, q₂⟩
theorem WE.bo1 {op : BoolOp} {e : Expr} {p : Pos} (h : WE C A env gs S H e Q) : WE C A env gs S H (.BoolOp op [e] p) Q := fun s I F => BoolOp_one (h s I F)
theorem WE.and {e₁ e₂ : Expr} {rest : List Expr} {p : Pos} (h : WE C A env gs S H e₁ (fun v H₁ => WB C A H₁ truthy v fun b H₂ => if b = true then WE C A env gs S H₂ (.BoolOp .And (e₂ :: rest) p) Q else Q v H₂)) :
    WE C A env gs S H (.BoolOp .And (e₁ :: e₂ :: rest) p) Q := by
  intro s I F
  refine BoolOp_and (wpAny_mono (h s I F) (fun v s₁ h₁ => ?_) noE)
  first | (refine EP.elim h₁ fun x H₁ r₁ I₁ k₁ q₁ => ?_; clear h₁) | (refine LP.elim h₁ fun x H₁ r₁ I₁ k₁ q₁ => ?_; clear h₁) | obtain ⟨x, H₁, r₁, I₁, k₁, q₁⟩ := h₁
  refine wpAny_mono (q₁ s₁ v I₁ r₁) (fun b s₂ h₂ => ?_) noE
  first | (refine BP.elim h₂ fun H₂ I₂ k₂ q₂ => ?_; clear h₂) | obtain ⟨H₂, I₂, k₂, q₂⟩ := h₂
  cases b with
  | false => exact ⟨x, H₂, r₁.keep (I₁.tupKeep k₂), I₂, k₁.trans k₂, q₂⟩
  | true => exact wpAny_mono (q₂ s₂ I₂ ((F.keep I k₁).keep I₁ k₂)) (fun _ _ h => h.from (k₁.trans k₂)) noE
/-! chains of two comparisons -/
theorem WE.cmp2 {l r₁ r₂ : Expr} {o₁ o₂ : CmpOp} {p : Pos}
    (h : WE C A env gs S H l (fun x H₁ => WE C A env gs S H₁ r₁ (fun y H₂ => W2 C A H₂ (compareOp o₁) x y fun z H₃ => ∃ b, z = .bool b ∧
      (if b = true then WE C A env gs S H₃ r₂ (fun u H₄ => W2 C A H₄ (compareOp o₂) y u Q) else Q (.bool false) H₃))))
    (hm : lastMarks [o₁, o₂] [r₁, r₂] = false := by with_unfolding_all rfl) : WE C A env gs S H (.Compare l [o₁, o₂] [r₁, r₂] p) Q := by
  intro s I F
  refine Compare_chain (wpAny_mono (h s I F) (fun u s₁ h₁ => ?_) noE) hm
  first | (refine EP.elim h₁ fun x H₁ q1 I₁ k₁ h₁ => ?_) | (refine LP.elim h₁ fun x H₁ q1 I₁ k₁ h₁ => ?_) | obtain ⟨x, H₁, q1, I₁, k₁, h₁⟩ := h₁
  have F₁ := F.keep I k₁
  refine chain_link (wpAny_mono (h₁ s₁ I₁ F₁) (fun v s₂ h₂ => ?_) noE)
  first | (refine EP.elim h₂ fun y H₂ q2 I₂ k₂ h₂ => ?_) | (refine LP.elim h₂ fun y H₂ q2 I₂ k₂ h₂ => ?_) | obtain ⟨y, H₂, q2, I₂, k₂, h₂⟩ := h₂
  have F₂ := F₁.keep I₁ k₂
  refine wpAny_mono (h₂ s₂ u v I₂ (q1.keep (I₁.tupKeep k₂)) q2) (fun z s₃ h₃ => ?_) noE
  first | (refine EP.elim h₃ fun zz H₃ q3 I₃ k₃ hq => ?_; clear h₃) | (refine LP.elim h₃ fun zz H₃ q3 I₃ k₃ hq => ?_; clear h₃) | obtain ⟨zz, H₃, q3, I₃, k₃, hq⟩ := h₃
  obtain ⟨b, rfl, h₃⟩ := hq
  have F₃ := F₂.keep I₂ k₃
  unfold VR at q3; subst q3
  refine wpAny_truthy_bool ?_
  cases b with
  | false => exact ⟨_, H₃, by unfold VR; rfl, I₃, (k₁.trans k₂).trans k₃, h₃⟩
  | true =>
    refine chain_last (wpAny_mono (h₃ s₃ I₃ F₃) (fun t s₄ h₄ => ?_) noE)
    first | (refine EP.elim h₄ fun w H₄ q4 I₄ k₄ h₄ => ?_) | (refine LP.elim h₄ fun w H₄ q4 I₄ k₄ h₄ => ?_) | obtain ⟨w, H₄, q4, I₄, k₄, h₄⟩ := h₄
    exact wpAny_mono (h₄ s₄ v t I₄ (q2.keep ((I₂.tupKeep k₃).trans (I₃.tupKeep k₄))) q4) (fun _ _ h => h.from (((k₁.trans k₂).trans k₃).trans k₄)) noE
/-! ints -/
theorem W2.ofInt {t : Value → Value → Sem Value} {a b : Int}
    (h : ∀ s u v, Inv C H s → wpAny (Md C) A (t (.int a u) (.int b v)) (EP C H s Q) NoE s) : W2 C A H t (.int a) (.int b) Q := by
  intro s u v I r₁ r₂
  unfold VR at r₁ r₂
  obtain ⟨t1, rfl⟩ := r₁
  obtain ⟨t2, rfl⟩ := r₂
  exact h s t1 t2 I
theorem W2.add {a b : Int} (q : Q (.int (a + b)) H) : W2 C A H (binaryOp .Add) (.int a) (.int b) Q :=
  .ofInt fun s _ _ I => AutoIntOps.add_0 (EP.same I (by unfold VR; exact ⟨_, rfl⟩) q)
theorem W2.sub {a b : Int} (q : Q (.int (a - b)) H) : W2 C A H (binaryOp .Sub) (.int a) (.int b) Q :=
  .ofInt fun s _ _ I => AutoIntOps.sub_0 (EP.same I (by unfold VR; exact ⟨_, rfl⟩) q)
theorem W2.mul {a b : Int} (hm : IntMulOk a b) (q : Q (.int (a * b)) H) : W2 C A H (binaryOp .Mult) (.int a) (.int b) Q :=
  .ofInt fun s _ _ I => mul_int (EP.same I (by unfold VR; exact ⟨_, rfl⟩) q) hm
theorem W2.mod {a b : Int} (hb : b ≠ 0) (q : Q (.int (a.fmod b)) H) : W2 C A H (binaryOp .Mod) (.int a) (.int b) Q :=
  .ofInt fun s _ _ I => mod_int' hb (EP.same I (by unfold VR; exact ⟨_, rfl⟩) q)
theorem W2.div {a b : Int} (hb : b ≠ 0) (hp : Builtin.divisionGoesByPylong a b = false) (q : Q (.int (a.fdiv b)) H) : W2 C A H (binaryOp .FloorDiv) (.int a) (.int b) Q :=
  .ofInt fun s _ _ I => AutoIntOps.floordiv_1 (by simpa using hb) (by rw [hp]; exact Bool.false_ne_true) (EP.same I (by unfold VR; exact ⟨_, rfl⟩) q)
theorem W2.pow {a b : Int} (hn : 0 ≤ b) (hsz : (Builtin.Int.intBits a : Int) * b ≤ 2 ^ 27) (q : Q (.int (a ^ b.toNat)) H) : W2 C A H (binaryOp .Pow) (.int a) (.int b) Q :=
  .ofInt fun s _ _ I => pow_int hn hsz (EP.same I (by unfold VR; exact ⟨_, rfl⟩) q)
end
end Mine
namespace Mine
open PySem PySem.Calls PyProof.Rows

section
variable {C : Cx} {A : Around} {env : Env} {S : Sg} {H : Hp} {gs : List Str} {Q : MV → Hp → Prop} {n : Nat}

/-! comparisons of ints -/
theorem W2.lt {a b : Int} (q : Q (.bool (decide (a < b))) H) : W2 C A H (compareOp .Lt) (.int a) (.int b) Q :=
  .ofInt fun s _ _ I => P.lt_int (EP.here I (by unfold VR; rfl) q)
theorem W2.le {a b : Int} (q : Q (.bool (decide (a ≤ b))) H) : W2 C A H (compareOp .LtE) (.int a) (.int b) Q :=
  .ofInt fun s _ _ I => P.le_int (EP.here I (by unfold VR; rfl) q)
theorem W2.gt {a b : Int} (q : Q (.bool (decide (a > b))) H) : W2 C A H (compareOp .Gt) (.int a) (.int b) Q :=
  .ofInt fun s _ _ I => P.gt_int (EP.here I (by unfold VR; rfl) q)
theorem W2.ge {a b : Int} (q : Q (.bool (decide (a ≥ b))) H) : W2 C A H (compareOp .GtE) (.int a) (.int b) Q :=
  .ofInt fun s _ _ I => P.ge_int (EP.here I (by unfold VR; rfl) q)
theorem W2.eq {a b : Int} (q : Q (.bool (a == b)) H) : W2 C A H (compareOp .Eq) (.int a) (.int b) Q :=
  .ofInt fun s _ _ I => P.eq_int (EP.here I (by unfold VR; rfl) q)
theorem W2.ne {a b : Int} (q : Q (.bool (a != b)) H) : W2 C A H (compareOp .NotEq) (.int a) (.int b) Q :=
  .ofInt fun s _ _ I => P.ne_int (EP.here I (by unfold VR; rfl) q)

/-! deep data -/
mutual
inductive Dp (H : Hp) : MV → PyData → Prop
  | none : Dp H .none .none
  | bool (b : Bool) : Dp H (.bool b) (.bool b)
  | int (i : Int) : Dp H (.int i) (.int i)
  | str (x : Str) : Dp H (.str x) (.str x)
  | tup {xs : List MV} {ds : List PyData} : Dps H xs ds → Dp H (.tup xs) (.tuple ds)
  | list {a : Addr} {xs : List MV} {ds : List PyData} : (a, MO.list xs) ∈ H → Dps H xs ds → Dp H (.ref a) (.list ds)
inductive Dps (H : Hp) : List MV → List PyData → Prop
  | nil : Dps H [] []
  | cons {x : MV} {xs : List MV} {d : PyData} {ds : List PyData} : Dp H x d → Dps H xs ds → Dps H (x :: xs) (d :: ds)
end
mutual
theorem Dp.reads {s : Shared} (I : Inv C H s) : ∀ {x : MV} {d : PyData}, Dp H x d → ∀ {v : Value}, VR C.h₀ s.heap x v → ∃ as, Reads s.heap v d as
  | _, _, .none, v, r => by unfold VR at r; subst r; exact ⟨[], .none⟩
  | _, _, .bool b, v, r => by unfold VR at r; subst r; exact ⟨[], .bool b⟩
  | _, _, .int i, v, r => by unfold VR at r; obtain ⟨t, rfl⟩ := r; exact ⟨[], .int i t⟩
  | _, _, .str x, v, r => by unfold VR at r; obtain ⟨t, rfl⟩ := r; exact ⟨[], .str x t⟩
  | _, _, .tup ds, v, r => by
    unfold VR at r
    obtain ⟨a, vs, rfl, ⟨o, ho, hc, n, hd⟩, hr⟩ := r
    obtain ⟨as, ra⟩ := Dps.reads I ds hr
    exact ⟨as, .tuple ho hc hd ra⟩
  | _, _, .list hm ds, v, r => by
    unfold VR at r; subst r
    obtain ⟨vs, n, ho, hr⟩ := I.objs _ hm
    obtain ⟨as, ra⟩ := Dps.reads I ds hr
    exact ⟨_, .list ho rfl rfl ra⟩
theorem Dps.reads {s : Shared} (I : Inv C H s) : ∀ {xs : List MV} {ds : List PyData}, Dps H xs ds → ∀ {vs : List Value}, VRs C.h₀ s.heap xs vs → ∃ as, ReadsAll s.heap vs ds as
  | _, _, .nil, vs, r => by have := r.inv0; subst this; exact ⟨[], .nil⟩
  | _, _, .cons h hs, vs, r => by
    obtain ⟨v, t, rfl, h1, h2⟩ := r.inv
    obtain ⟨as, ra⟩ := Dp.reads I h h1
    obtain ⟨bs, rb⟩ := Dps.reads I hs h2
    exact ⟨_, .cons ra rb⟩
end

theorem W2.eqD {x y : MV} {dx dy : PyData} (hA : AOk C A n) (hx : Dp H x dx) (hy : Dp H y dy) (sx : SeqAt.shaped dx = true) (sy : SeqAt.shaped dy = true) (q : Q (.bool (PyData.eqv dx dy)) H) : W2 C A H (compareOp .Eq) x y Q := by
  intro s u v I r₁ r₂
  obtain ⟨as, ra⟩ := hx.reads I r₁
  obtain ⟨bs, rb⟩ := hy.reads I r₂
  exact SeqAt.compareEq_shaped ra rb sx sy (by have := hA.units; omega) (EP.here I (by unfold VR; rfl) q)
theorem W2.inT {x : MV} {ys : List MV} {dx : PyData} {dys : List PyData} (hA : AOk C A n) (hx : Dp H x dx) (hy : Dps H ys dys) (sx : SeqAt.shaped dx = true) (sy : PyData.canLayAll0 dys = true) (q : Q (.bool (dys.any fun y => PyData.eqv y dx)) H) : W2 C A H (compareOp .In) x (.tup ys) Q := by
  intro s u v I r₁ r₂
  obtain ⟨as, ra⟩ := hx.reads I r₁
  obtain ⟨bs, rb⟩ := (Dp.tup hy).reads I r₂
  refine SeqAt.in_tuple_reads rb ra sy (SeqAt.canLay_of_shaped sx) ?_ (EP.here I (by unfold VR; rfl) q)
  have h1 := SeqAt.depth_of_shaped sx
  have h2 : min (PyData.depthAll dys) dx.depth ≤ dx.depth := Nat.min_le_right _ _
  have := hA.units; omega
theorem W2.inL {x : MV} {a : Addr} {ys : List MV} {dx : PyData} {dys : List PyData} (hA : AOk C A n) (hm : (a, MO.list ys) ∈ H) (hx : Dp H x dx) (hy : Dps H ys dys) (sx : SeqAt.shaped dx = true) (sy : PyData.canLayAll0 dys = true) (q : Q (.bool (dys.any fun y => PyData.eqv y dx)) H) : W2 C A H (compareOp .In) x (.ref a) Q := by
  intro s u v I r₁ r₂
  obtain ⟨as, ra⟩ := hx.reads I r₁
  obtain ⟨bs, rb⟩ := (Dp.list hm hy).reads I r₂
  refine SeqAt.in_list_reads rb ra sy (SeqAt.canLay_of_shaped sx) ?_ (EP.here I (by unfold VR; rfl) q)
  have h1 := SeqAt.depth_of_shaped sx
  have h2 : min (PyData.depthAll dys) dx.depth ≤ dx.depth := Nat.min_le_right _ _
  have := hA.units; omega
/-! arguments -/
theorem WEs.nil {Q : List MV → Hp → Prop} (q : Q [] H) : WEs C A env gs S H [] Q := fun _ _ I _ => args_nil ⟨[], H, VRs.nil, I, Kp.refl _ _, q⟩
theorem WEs.cons {Q : List MV → Hp → Prop} {e : Expr} {rest : List Expr} (h : WE C A env gs S H e (fun x H₁ => WEs C A env gs S H₁ rest fun xs H₂ => Q (x :: xs) H₂))
    (he : starEach (e :: rest) env = (false, eval e env) :: starEach rest env := by with_unfolding_all rfl) : WEs C A env gs S H (e :: rest) Q := by
  intro s pos I F
  refine args_cons (wpAny_mono (h s I F) (fun v s₁ h₁ => ?_) noE) he
  first | (refine EP.elim h₁ fun x H₁ r₁ I₁ k₁ q₁ => ?_; clear h₁) | (refine LP.elim h₁ fun x H₁ r₁ I₁ k₁ q₁ => ?_; clear h₁) | obtain ⟨x, H₁, r₁, I₁, k₁, q₁⟩ := h₁
  refine wpAny_mono (q₁ s₁ pos I₁ (F.keep I k₁)) (fun vs s₂ h₂ => ?_) noE
  first | (refine EP.elim h₂ fun xs H₂ r₂ I₂ k₂ q₂ => ?_; clear h₂) | (refine LP.elim h₂ fun xs H₂ r₂ I₂ k₂ q₂ => ?_; clear h₂) | obtain ⟨xs, H₂, r₂, I₂, k₂, q₂⟩ := h₂
  exact ⟨x :: xs, H₂, .cons (r₁.keep (I₁.tupKeep k₂)) r₂, I₂, k₁.trans k₂, q₂⟩

/-! new objects -/
theorem Inv.add {s : Shared} {h' : Heap} {a : Addr} {mo : MO} (I : Inv C H s) (hk : ∀ b o, s.heap.get? b = some o → h'.get? b = some o) (ha : s.heap.get? a = none) (hor : OR C.h₀ h' a mo) (t : Nat) :
    Inv C ((a, mo) :: H) { s with heap := h', toks := t } ∧ Kp s.heap H h' ((a, mo) :: H) ∧ ¬ dom H a := by
  have I' := I.grow hk t
  have hnd : ¬ dom H a := fun d => by
    obtain ⟨p, hp, rfl⟩ := List.mem_map.mp d
    obtain ⟨ob, e', _⟩ := (I.objs p hp).exists
    rw [ha] at e'; cases e'
  refine ⟨⟨I'.base, fun p hp => ?_, fun p hp => ?_, List.nodup_cons.mpr ⟨hnd, I.nodup⟩, I'.gens, I'.os⟩, fun b o e n => ⟨hk b o e, fun d => ?_⟩, hnd⟩
  · rcases List.mem_cons.mp hp with rfl | hp
    · exact hor
    · exact I'.objs p hp
  · rcases List.mem_cons.mp hp with rfl | hp
    · cases e : C.h₀.get? a with
      | none => rfl
      | some o => have := I.base _ _ e; rw [ha] at this; cases this
    · exact I.new p hp
  · rcases List.mem_cons.mp d with rfl | d
    · rw [ha] at e; cases e
    · exact n d
theorem get_size {h : Heap} : h.get? h.objs.size = none := by
  cases e : h.get? h.objs.size with
  | none => rfl
  | some o => exact absurd (Heap.lt_size e) (Nat.lt_irrefl _)
theorem EP.newTup {s : Shared} {xs : List MV} {vs : List Value} (I : Inv C H s) (r : VRs C.h₀ s.heap xs vs) (q : Q (.tup xs) H) (n : Nat := 0) :
    EP C H s Q (.ref s.heap.objs.size) { s with heap := s.heap.push { cls := .type "tuple", data := .seq vs.toArray n } } :=
  EP.grown (t := s.toks) I (fun b o e => Heap.get?_push_of_some _ e) (by
    unfold VR
    exact ⟨_, vs, rfl, ⟨_, Heap.get?_push_size _ rfl, rfl, n, rfl⟩, r.keep (.of_keeps fun b o e => Heap.get?_push_of_some _ e)⟩) q
theorem EP.newList {s : Shared} {xs : List MV} {vs : List Value} (I : Inv C H s) (r : VRs C.h₀ s.heap xs vs) (q : ∀ a, ¬ dom H a → Q (.ref a) ((a, .list xs) :: H)) (n : Nat := 0) :
    EP C H s Q (.ref s.heap.objs.size) { s with heap := s.heap.push { cls := .type "list", data := .seq vs.toArray n } } := by
  have hk : ∀ b o, s.heap.get? b = some o → (s.heap.push { cls := .type "list", data := .seq vs.toArray n }).get? b = some o := fun b o e => Heap.get?_push_of_some _ e
  obtain ⟨I', k, nd⟩ := I.add (mo := .list xs) hk get_size ⟨vs, n, Heap.get?_push_size _ rfl, r.keep (.of_keeps hk)⟩ s.toks
  exact ⟨_, _, by unfold VR; rfl, I', k, q _ nd⟩

theorem WE.tuple {es : List Expr} {k : Nat} {p : Pos} (h : WEs C A env gs S H es fun xs H' => xs.length ≤ sizeLine ∧ Q (.tup xs) H') : WE C A env gs S H (.Tuple es k p) Q := by
  intro s I F
  refine Tuple_ (wpAny_mono (h s p I F) (fun vs s₁ h₁ => ?_) noE)
  first | (refine EP.elim h₁ fun xs H₁ r₁ I₁ k₁ hq => ?_; clear h₁) | (refine LP.elim h₁ fun xs H₁ r₁ I₁ k₁ hq => ?_; clear h₁) | obtain ⟨xs, H₁, r₁, I₁, k₁, hq⟩ := h₁
  obtain ⟨hs, q₁⟩ := hq
  exact wpAny_newObj_type ((EP.newTup I₁ r₁ q₁).from k₁) (by show vs.toArray.size ≤ sizeLine; rw [List.size_toArray, r₁.length]; exact hs)
theorem WE.list {es : List Expr} {p : Pos} (h : WEs C A env gs S H es fun xs H' => xs.length ≤ sizeLine ∧ ∀ a, ¬ dom H' a → Q (.ref a) ((a, .list xs) :: H')) : WE C A env gs S H (.List es p) Q := by
  intro s I F
  refine List_ (wpAny_mono (h s p I F) (fun vs s₁ h₁ => ?_) noE)
  first | (refine EP.elim h₁ fun xs H₁ r₁ I₁ k₁ hq => ?_; clear h₁) | (refine LP.elim h₁ fun xs H₁ r₁ I₁ k₁ hq => ?_; clear h₁) | obtain ⟨xs, H₁, r₁, I₁, k₁, hq⟩ := h₁
  obtain ⟨hs, q₁⟩ := hq
  exact wpAny_newObj_type ((EP.newList I₁ r₁ q₁).from k₁) (by show vs.toArray.size ≤ sizeLine; rw [List.size_toArray, r₁.length]; exact hs)

/-! subscripts by an int -/
abbrev plainSlice (slice : Expr) : Prop := ∀ o i, subscripted slice false o i = operate [o, i] (getItem o i)
theorem WE.sub {value slice : Expr} {p : Pos} (h : WE C A env gs S H value (fun x H₁ => WE C A env gs S H₁ slice (fun y H₂ => W2 C A H₂ (subscriptTail value slice) x y Q))) : WE C A env gs S H (.Subscript value slice p) Q := by
  intro s I F
  refine Subscript_ (wpAny_mono (h s I F) (fun u s₁ h₁ => ?_) noE)
  first | (refine EP.elim h₁ fun x H₁ r₁ I₁ k₁ q₁ => ?_; clear h₁) | (refine LP.elim h₁ fun x H₁ r₁ I₁ k₁ q₁ => ?_; clear h₁) | obtain ⟨x, H₁, r₁, I₁, k₁, q₁⟩ := h₁
  refine wpAny_mono (q₁ s₁ I₁ (F.keep I k₁)) (fun v s₂ h₂ => ?_) noE
  first | (refine EP.elim h₂ fun y H₂ r₂ I₂ k₂ q₂ => ?_; clear h₂) | (refine LP.elim h₂ fun y H₂ r₂ I₂ k₂ q₂ => ?_; clear h₂) | obtain ⟨y, H₂, r₂, I₂, k₂, q₂⟩ := h₂
  exact wpAny_mono (q₂ s₂ u v I₂ (r₁.keep (I₁.tupKeep k₂)) r₂) (fun _ _ h => h.from (k₁.trans k₂)) noE
theorem W2.itemT {value slice : Expr} {xs : List MV} {k : Int} {x : MV} (h0 : 0 ≤ k) (hx : xs[k.toNat]? = some x) (hhi : k < 2 ^ 63) (q : Q x H) (hs : plainSlice slice := by intro _ _; with_unfolding_all rfl) :
    W2 C A H (subscriptTail value slice) (.tup xs) (.int k) Q := by
  intro s u v I r₁ r₂
  unfold VR at r₁ r₂
  obtain ⟨a, vs, rfl, ht, hr⟩ := r₁
  obtain ⟨t, rfl⟩ := r₂
  obtain ⟨w, hw, rw'⟩ := hr.get hx
  have hlt : k.toNat < vs.length := by
    rcases Nat.lt_or_ge k.toNat vs.length with h | h
    · exact h
    · rw [List.getElem?_eq_none h] at hw; cases hw
  refine item_tupleT (l := vs) (j := k.toNat) ht (by omega) hhi ?_ hw (EP.here I rw' q) (hs _ _)
  unfold seqIndex?
  have h1 : ¬ k < 0 := by omega
  have h2 : (decide (0 ≤ k) && decide (k < (vs.length : Int))) = true := by simp; omega
  simp only [h1, if_false]
  rw [if_pos h2]
theorem W2.itemL {value slice : Expr} {a : Addr} {xs : List MV} {k : Int} {x : MV} (hm : (a, MO.list xs) ∈ H) (h0 : 0 ≤ k) (hx : xs[k.toNat]? = some x) (hhi : k < 2 ^ 63) (q : Q x H) (hs : plainSlice slice := by intro _ _; with_unfolding_all rfl) :
    W2 C A H (subscriptTail value slice) (.ref a) (.int k) Q := by
  intro s u v I r₁ r₂
  unfold VR at r₁ r₂
  subst r₁
  obtain ⟨t, rfl⟩ := r₂
  obtain ⟨vs, n, ho, hr⟩ := I.objs _ hm
  obtain ⟨w, hw, rw'⟩ := hr.get hx
  have hl : s.heap.IsList a vs.toArray := ⟨_, ho, rfl, n, rfl⟩
  exact tail_any hl.typeIs slot_list_getitem.lookup (wpAny_getItem_list hl h0 hhi (by simpa using hw) (EP.here I rw' q)) (hs _ _)
theorem W2.itemF {value slice : Expr} {ns : List Int} {k : Int} {x : Int} (h0 : 0 ≤ k) (hx : ns[k.toNat]? = some x) (hhi : k < 2 ^ 63) (q : Q (.int x) H) (hs : plainSlice slice := by intro _ _; with_unfolding_all rfl) :
    W2 C A H (subscriptTail value slice) (.fl ns) (.int k) Q := by
  intro s u v I r₁ r₂
  unfold VR at r₁ r₂
  obtain ⟨a, vs, rfl, ⟨o, ho, hc, n, hd⟩, hi⟩ := r₁
  obtain ⟨t, rfl⟩ := r₂
  have hl : s.heap.IsList a vs.toArray := ⟨o, I.base _ _ ho, hc, n, hd⟩
  obtain ⟨tk, hw⟩ : ∃ tk, vs[k.toNat]? = some (.int x tk) := by
    clear ho hd hl
    generalize k.toNat = i at hx
    induction hi generalizing i with
    | nil => simp at hx
    | cons _ _ _ ih =>
      cases i with
      | zero => simp at hx; subst hx; exact ⟨_, rfl⟩
      | succ i => simp at hx; exact ih i hx
  exact tail_any hl.typeIs slot_list_getitem.lookup (wpAny_getItem_list hl h0 hhi (by simpa using hw) (EP.here I (by unfold VR; exact ⟨tk, rfl⟩) q)) (hs _ _)

/-! global names and calls -/
structure Gl (C : Cx) (f : Str) (v : Value) : Prop where
  nodbg : (f == ("__debug__" : Str)) = false
  val : C.mg f = some v ∨ (C.mg f = .none ∧ bootBuiltins f = some v ∧ f ≠ "__name__")
theorem WE.gl {f : Str} {p : Pos} {v : Value} (hx : f ∈ gs) (g : Gl C f v) (q : Q (.raw v) H) : WE C A env gs S H (.Name f p) Q := by
  rcases g.val with h | ⟨h1, h2, h3⟩
  · exact WE.glob hx h q g.nodbg
  · exact WE.builtin hx h1 h2 h3 q g.nodbg
theorem WE.callB {f : Str} {p pos : Pos} {id : String} {e : Expr} {rest : List Expr} (hx : f ∈ gs) (g : Gl C f (.builtin id))
    (h : WEs C A env gs S H (e :: rest) fun xs H' => WC C A H' (.builtin id) xs Q)
    (he : starEach (e :: rest) env = (false, eval e env) :: starEach rest env := by with_unfolding_all rfl) (hplain : (backTo pos (starEach rest env)).any (·.1) = false := by with_unfolding_all rfl) :
    WE C A env gs S H (.Call (.Name f p) (e :: rest) [] pos) Q := by
  intro s I F
  refine Call_ (wpAny_mono (WE.gl (Q := fun x H' => x = .raw (.builtin id) ∧ H' = H) hx g ⟨rfl, rfl⟩ s I F) (fun v s₁ h₁ => ?_) noE)
  first | (refine EP.elim h₁ fun x H₁ r₁ I₁ k₁ hq => ?_; clear h₁) | (refine LP.elim h₁ fun x H₁ r₁ I₁ k₁ hq => ?_; clear h₁) | obtain ⟨x, H₁, r₁, I₁, k₁, hq⟩ := h₁
  obtain ⟨rfl, rfl⟩ := hq
  unfold VR at r₁; subst r₁
  refine callWith_builtin1 (wpAny_mono (h s₁ pos I₁ (F.keep I k₁)) (fun vs s₂ h₂ => ?_) noE) he hplain
  first | (refine EP.elim h₂ fun xs H₂ r₂ I₂ k₂ q₂ => ?_; clear h₂) | (refine LP.elim h₂ fun xs H₂ r₂ I₂ k₂ q₂ => ?_; clear h₂) | obtain ⟨xs, H₂, r₂, I₂, k₂, q₂⟩ := h₂
  exact wpAny_mono (q₂ s₂ vs I₂ r₂) (fun _ _ h => h.from (k₁.trans k₂)) noE
theorem WE.callT {f : Str} {p pos : Pos} {T : String} {e : Expr} {rest : List Expr} (hx : f ∈ gs) (g : Gl C f (.type T))
    (h : WEs C A env gs S H (e :: rest) fun xs H' => WC C A H' (.type T) xs Q)
    (he : starEach (e :: rest) env = (false, eval e env) :: starEach rest env := by with_unfolding_all rfl) (hplain : (backTo pos (starEach rest env)).any (·.1) = false := by with_unfolding_all rfl) :
    WE C A env gs S H (.Call (.Name f p) (e :: rest) [] pos) Q := by
  intro s I F
  refine Call_ (wpAny_mono (WE.gl (Q := fun x H' => x = .raw (.type T) ∧ H' = H) hx g ⟨rfl, rfl⟩ s I F) (fun v s₁ h₁ => ?_) noE)
  first | (refine EP.elim h₁ fun x H₁ r₁ I₁ k₁ hq => ?_; clear h₁) | (refine LP.elim h₁ fun x H₁ r₁ I₁ k₁ hq => ?_; clear h₁) | obtain ⟨x, H₁, r₁, I₁, k₁, hq⟩ := h₁
  obtain ⟨rfl, rfl⟩ := hq
  unfold VR at r₁; subst r₁
  have hh := h s₁ pos I₁ (F.keep I k₁)
  rw [he] at hh ⊢
  refine PySem.callWith_type (by show (false || (backTo pos (starEach rest env)).any (·.1)) = false; rw [hplain]; rfl) (evalArgs_plain (wpAny_mono hh (fun vs s₂ h₂ => ?_) noE))
  first | (refine EP.elim h₂ fun xs H₂ r₂ I₂ k₂ q₂ => ?_; clear h₂) | (refine LP.elim h₂ fun xs H₂ r₂ I₂ k₂ q₂ => ?_; clear h₂) | obtain ⟨xs, H₂, r₂, I₂, k₂, q₂⟩ := h₂
  exact wpAny_mono (q₂ s₂ vs I₂ r₂) (fun _ _ h => h.from (k₁.trans k₂)) noE

/-- the def of this name -/
structure Fn (C : Cx) (f : Str) (name : Str) (params : Arguments) (body : List Stmt) (scope : Scope) : Prop where
  nodbg : (f == ("__debug__" : Str)) = false
  at' : ∃ a o pm cd doc, C.mg f = some (.ref a) ∧ C.h₀.get? a = some o ∧ o.data = .func (docDef name params body scope pm cd doc) ∧ C.h₀.CodeRec cd name
def WF (C : Cx) (A : Around) (H : Hp) (f : Str) (xs : List MV) (Q : MV → Hp → Prop) : Prop := ∀ a, C.mg f = some (.ref a) → WC C A H (.ref a) xs Q
theorem WE.callF {f nm : Str} {p pos : Pos} {pa : Arguments} {bo : List Stmt} {sc : Scope} {e : Expr} {rest : List Expr} (hx : f ∈ gs) (g : Fn C f nm pa bo sc)
    (h : WEs C A env gs S H (e :: rest) fun xs H' => WF C A H' f xs Q)
    (he : starEach (e :: rest) env = (false, eval e env) :: starEach rest env := by with_unfolding_all rfl) :
    WE C A env gs S H (.Call (.Name f p) (e :: rest) [] pos) Q := by
  intro s I F
  obtain ⟨a, o, pm, cd, doc, h1, h2, h3, h4⟩ := g.at'
  refine Call_ (wpAny_mono (WE.gl (Q := fun x H' => x = .raw (.ref a) ∧ H' = H) hx ⟨g.nodbg, .inl h1⟩ ⟨rfl, rfl⟩ s I F) (fun v s₁ h₁ => ?_) noE)
  first | (refine EP.elim h₁ fun x H₁ r₁ I₁ k₁ hq => ?_; clear h₁) | (refine LP.elim h₁ fun x H₁ r₁ I₁ k₁ hq => ?_; clear h₁) | obtain ⟨x, H₁, r₁, I₁, k₁, hq⟩ := h₁
  obtain ⟨rfl, rfl⟩ := hq
  unfold VR at r₁; subst r₁
  refine callWith_def h3 (wpAny_mono (h s₁ pos I₁ (F.keep I k₁)) (fun vs s₂ h₂ => ?_) noE) he
  first | (refine EP.elim h₂ fun xs H₂ r₂ I₂ k₂ q₂ => ?_; clear h₂) | (refine LP.elim h₂ fun xs H₂ r₂ I₂ k₂ q₂ => ?_; clear h₂) | obtain ⟨xs, H₂, r₂, I₂, k₂, q₂⟩ := h₂
  exact ⟨I₂.base _ _ h2, wpAny_mono (q₂ a h1 s₂ vs I₂ r₂) (fun _ _ h => h.from (k₁.trans k₂)) noE⟩

/-! built-in functions -/
theorem WC.of1 {f : Value} {x : MV} (h : ∀ s v, Inv C H s → VR C.h₀ s.heap x v → wpAny (Md C) A (call f [v] []) (EP C H s Q) NoE s) : WC C A H f [x] Q := by
  intro s vs I r
  obtain ⟨v, t, rfl, h1, h2⟩ := r.inv
  have := h2.inv0; subst this
  exact h s v I h1
theorem WC.of2 {f : Value} {x y : MV} (h : ∀ s u v, Inv C H s → VR C.h₀ s.heap x u → VR C.h₀ s.heap y v → wpAny (Md C) A (call f [u, v] []) (EP C H s Q) NoE s) : WC C A H f [x, y] Q := by
  intro s vs I r
  obtain ⟨u, t, rfl, h1, h2⟩ := r.inv
  obtain ⟨v, t, rfl, h3, h4⟩ := h2.inv
  have := h4.inv0; subst this
  exact h s u v I h1 h3
theorem WC.lenL {a : Addr} {xs : List MV} (hm : (a, MO.list xs) ∈ H) (hl : xs.length < 2 ^ 62) (q : Q (.int xs.length) H) : WC C A H (.builtin "len") [.ref a] Q := .of1 fun s v I r => by
  unfold VR at r; subst r
  obtain ⟨vs, n, ho, hr⟩ := I.objs _ hm
  have e : vs.toArray.size = xs.length := by rw [List.size_toArray, hr.length]
  refine call_len_list (items := vs.toArray) ⟨_, ho, rfl, n, rfl⟩ (by rw [e]; omega) ?_
  rw [e]
  exact EP.same I (by unfold VR; exact ⟨_, rfl⟩) q
theorem WC.lenT {xs : List MV} (hl : xs.length < 2 ^ 62) (q : Q (.int xs.length) H) : WC C A H (.builtin "len") [.tup xs] Q := .of1 fun s v I r => by
  unfold VR at r
  obtain ⟨a, vs, rfl, ht, hr⟩ := r
  have e : vs.toArray.size = xs.length := by rw [List.size_toArray, hr.length]
  refine len_tuple (items := vs.toArray) ht (by rw [e]; omega) ?_
  rw [e]
  exact EP.same I (by unfold VR; exact ⟨_, rfl⟩) q
theorem WC.lenF {ns : List Int} (hl : ns.length < 2 ^ 62) (q : Q (.int ns.length) H) : WC C A H (.builtin "len") [.fl ns] Q := .of1 fun s v I r => by
  unfold VR at r
  obtain ⟨a, vs, rfl, ⟨o, ho, hc, n, hd⟩, hr⟩ := r
  have e : vs.toArray.size = ns.length := by rw [List.size_toArray, hr.length]
  refine call_len_list (items := vs.toArray) ⟨_, I.base _ _ ho, hc, n, hd⟩ (by rw [e]; omega) ?_
  rw [e]
  exact EP.same I (by unfold VR; exact ⟨_, rfl⟩) q

theorem WC.isiII {i : Int} (q : Q (.bool true) H) : WC C A H (.builtin "isinstance") [.int i, .raw (.type "int")] Q := .of2 fun s u v I r₁ r₂ => by
  unfold VR at r₁ r₂; obtain ⟨t, rfl⟩ := r₁; subst r₂
  exact IsiPair.int_int (EP.here I (by unfold VR; rfl) q)
theorem WC.isiIB {i : Int} (q : Q (.bool false) H) : WC C A H (.builtin "isinstance") [.int i, .raw (.type "bool")] Q := .of2 fun s u v I r₁ r₂ => by
  unfold VR at r₁ r₂; obtain ⟨t, rfl⟩ := r₁; subst r₂
  exact IsiPair.int_bool (EP.same I (by unfold VR; rfl) q)
theorem WC.isiBB {b : Bool} (q : Q (.bool true) H) : WC C A H (.builtin "isinstance") [.bool b, .raw (.type "bool")] Q := .of2 fun s u v I r₁ r₂ => by
  unfold VR at r₁ r₂; subst r₁; subst r₂
  exact IsiPair.bool_bool (EP.here I (by unfold VR; rfl) q)
theorem WC.isiBI {b : Bool} (q : Q (.bool true) H) : WC C A H (.builtin "isinstance") [.bool b, .raw (.type "int")] Q := .of2 fun s u v I r₁ r₂ => by
  unfold VR at r₁ r₂; subst r₁; subst r₂
  exact IsiPair.bool_int (EP.here I (by unfold VR; rfl) q)
theorem WC.isiLL {a : Addr} {xs : List MV} (hm : (a, MO.list xs) ∈ H) (q : Q (.bool true) H) : WC C A H (.builtin "isinstance") [.ref a, .raw (.type "list")] Q := .of2 fun s u v I r₁ r₂ => by
  unfold VR at r₁ r₂; subst r₁; subst r₂
  obtain ⟨vs, n, ho, hr⟩ := I.objs _ hm
  exact IsiPair.list_list ho rfl (EP.here I (by unfold VR; rfl) q)
theorem WC.isiTT {xs : List MV} (q : Q (.bool true) H) : WC C A H (.builtin "isinstance") [.tup xs, .raw (.type "tuple")] Q := .of2 fun s u v I r₁ r₂ => by
  unfold VR at r₁ r₂; obtain ⟨a, vs, rfl, ⟨o, ho, hc, n, hd⟩, hr⟩ := r₁; subst r₂
  exact IsiPair.tuple_tuple ho hc (EP.here I (by unfold VR; rfl) q)

theorem WC.listL {a : Addr} {xs : List MV} (hm : (a, MO.list xs) ∈ H) (hsz : xs.length ≤ sizeLine) (q : ∀ b, ¬ dom H b → Q (.ref b) ((b, .list xs) :: H)) : WC C A H (.type "list") [.ref a] Q := .of1 fun s v I r => by
  unfold VR at r; subst r
  obtain ⟨vs, n, ho, hr⟩ := I.objs _ hm
  refine call_list_seq a (T := "list") (.inl rfl) ho rfl rfl (fun h' c' hk hn => ?_) (by rw [List.size_toArray, hr.length]; exact hsz)
  obtain ⟨I', k, nd⟩ := I.add (mo := .list xs) hk get_size ⟨vs, c', hn, hr.keep (.of_keeps hk)⟩ s.toks
  exact ⟨_, _, by unfold VR; rfl, I', k, q _ nd⟩
theorem WC.range1 {i : Int} (q : Q (.rng 0 i) H) : WC C A H (.type "range") [.int i] Q := .of1 fun s v I r => by
  unfold VR at r; obtain ⟨t, rfl⟩ := r
  refine call_range_1 (EP.grown I (fun b o e => Heap.get?_push_of_some _ e) ?_ q)
  unfold VR; exact ⟨_, _, _, _, rfl, Heap.get?_push_size _ rfl⟩
theorem WC.range2 {i j : Int} (q : Q (.rng i j) H) : WC C A H (.type "range") [.int i, .int j] Q := .of2 fun s u v I r₁ r₂ => by
  unfold VR at r₁ r₂; obtain ⟨t, rfl⟩ := r₁; obtain ⟨t', rfl⟩ := r₂
  refine call_range_2 (EP.grown I (fun b o e => Heap.get?_push_of_some _ e) ?_ q)
  unfold VR; exact ⟨_, _, _, _, rfl, Heap.get?_push_size _ rfl⟩
end
end Mine
namespace Mine
open PySem PySem.Calls PyProof.Rows

inductive Fl where
  | next | brk | cont
  | ret (v : MV)
def FR (b h : Heap) : Fl → Flow → Prop
  | .next, f => f = .next
  | .brk, f => f = .brk
  | .cont, f => f = .cont
  | .ret x, f => ∃ v, f = .ret v ∧ VR b h x v

def Own (env : Env) (b : Addr) : Prop := b = env.locals ∨ ∃ n, (n, b) ∈ env.cells
def KpS (env : Env) (h : Heap) (H : Hp) (h' : Heap) (H' : Hp) : Prop :=
  ∀ b o, h.get? b = some o → ¬ dom H b → ¬ dom H' b ∧ ∃ o', h'.get? b = some o' ∧ (¬ Own env b → o' = o)
theorem Kp.toS {env : Env} {h h' : Heap} {H H' : Hp} (k : Kp h H h' H') : KpS env h H h' H' := fun b o e n => ⟨(k b o e n).2, o, (k b o e n).1, fun _ => rfl⟩
theorem KpS.trans {env : Env} {h h' h'' : Heap} {H H' H'' : Hp} (p : KpS env h H h' H') (q : KpS env h' H' h'' H'') : KpS env h H h'' H'' := fun b o e n => by
  obtain ⟨n', o', e', r'⟩ := p b o e n
  obtain ⟨n'', o'', e'', r''⟩ := q b o' e' n'
  exact ⟨n'', o'', e'', fun ho => (r'' ho).trans (r' ho)⟩
theorem KpS.refl {env : Env} {h : Heap} {H : Hp} : KpS env h H h H := fun _ o e n => ⟨n, o, e, fun _ => rfl⟩

def NoFree (env : Env) (S : Sg) : Prop := ∀ x ∈ names S, env.kindOf x ≠ some .free

def SP (C : Cx) (env : Env) (gs : List Str) (S : Sg) (H : Hp) (s : Shared) (Q : Fl → Sg → Hp → Prop) : Flow → Shared → Prop :=
  fun f s' => ∃ fl S' H', FR C.h₀ s'.heap fl f ∧ Inv C H' s' ∧ Fm C env gs S' H' s'.heap ∧ KpS env s.heap H s'.heap H' ∧ names S' = names S ∧ Q fl S' H'
def WS (C : Cx) (A : Around) (env : Env) (gs : List Str) (S : Sg) (H : Hp) (st : Stmt) (Q : Fl → Sg → Hp → Prop) : Prop :=
  ∀ s, Inv C H s → Fm C env gs S H s.heap → NoFree env S → wpAny (Md C) A (exec st env) (SP C env gs S H s Q) NoE s
def WSs (C : Cx) (A : Around) (env : Env) (gs : List Str) (S : Sg) (H : Hp) (ss : List Stmt) (Q : Fl → Sg → Hp → Prop) : Prop :=
  ∀ s, Inv C H s → Fm C env gs S H s.heap → NoFree env S → wpAny (Md C) A (execs ss env) (SP C env gs S H s Q) NoE s
/-- an assignment of a value -/
def WA (C : Cx) (A : Around) (env : Env) (gs : List Str) (S : Sg) (H : Hp) (target : Expr) (x : MV) (K : Sg → Hp → Prop) : Prop :=
  ∀ s v, Inv C H s → Fm C env gs S H s.heap → NoFree env S → VR C.h₀ s.heap x v →
    wpAny (Md C) A (assign target env v) (fun _ s' => ∃ S' H', Inv C H' s' ∧ Fm C env gs S' H' s'.heap ∧ KpS env s.heap H s'.heap H' ∧ names S' = names S ∧ K S' H') NoE s

theorem SP.from {C : Cx} {env : Env} {gs : List Str} {S S₁ : Sg} {H H₁ : Hp} {s s₁ : Shared} {Q : Fl → Sg → Hp → Prop} {f : Flow} {s' : Shared}
    (k : KpS env s.heap H s₁.heap H₁) (hn : names S₁ = names S) (h : SP C env gs S₁ H₁ s₁ Q f s') : SP C env gs S H s Q f s' :=
  let ⟨fl, S', H', r, I, F, k', n', q⟩ := h; ⟨fl, S', H', r, I, F, k.trans k', n'.trans hn, q⟩
theorem NoFree.of {env : Env} {S S' : Sg} (n : NoFree env S) (h : names S' = names S) : NoFree env S' := fun x hx => n x (h ▸ hx)

/-- what may be changed when nobody names it -/
def Ext (wr : List Addr) (h h' : Heap) : Prop := ∀ b o, b ∉ wr → h.get? b = some o → h'.get? b = some o
section
variable {C : Cx} {A : Around} {env : Env} {gs : List Str} {S : Sg} {H : Hp} {n : Nat}

theorem VR.ext {wr : List Addr} {b h h' : Heap} {x : MV} {v : Value} (r : VR b h x v) (e : Ext wr h h') (hi : ∀ a ∈ wr, ∀ o, h.get? a = some o → ¬ Imm o) : VR b h' x v :=
  r.keep fun a o ho hm => e a o (fun hw => hi a hw o ho hm) ho
theorem touch {wr : List Addr} {s : Shared} {h' : Heap} (I : Inv C H s) (F : Fm C env gs S H s.heap) (e : Ext wr s.heap h')
    (hw : ∀ b ∈ wr, ¬ dom H b ∧ C.h₀.get? b = none ∧ ¬ Own env b ∧ ∀ o, s.heap.get? b = some o → ¬ Imm o) (t : Nat) :
    Inv C H { s with heap := h', toks := t } ∧ Fm C env gs S H h' := by
  have tk : TupKeep s.heap h' := fun a o ho hm => e a o (fun h => (hw a h).2.2.2 o ho hm) ho
  refine ⟨⟨fun b o hb => e b o (fun h => ?_) (I.base b o hb), fun p hp => (I.objs p hp).keep tk fun ob ho => e _ _ (fun h => (hw _ h).1 (List.mem_map_of_mem hp)) ho, I.new, I.nodup, I.gens, I.os⟩, ?_⟩
  · rw [(hw b h).2.1] at hb; cases hb
  · obtain ⟨ok, ⟨mr, ⟨oL, es, ep, hL, r⟩, hv⟩, nl, nl0, hc⟩ := F
    refine ⟨ok, ⟨mr, ⟨oL, es, ep, e _ _ (fun h => (hw _ h).2.2.1 (.inl rfl)) hL, r⟩, fun x v a k => ?_⟩, nl, nl0, fun n c hcc => ?_⟩
    · obtain ⟨u, h1, h2⟩ := hv x v a k; exact ⟨u, h1, h2.keep tk⟩
    · obtain ⟨vo, ⟨oc, ho, hd⟩, nd, n0, hv⟩ := hc n c hcc
      refine ⟨vo, ⟨oc, e _ _ (fun h => (hw _ h).2.2.1 (.inr ⟨n, hcc⟩)) ho, hd⟩, nd, n0, fun v a k => ?_⟩
      obtain ⟨u, h1, h2⟩ := hv v a k; exact ⟨u, h1, h2.keep tk⟩

/-! storing a name -/
theorem store {s : Shared} {x : Str} {v : MV} {u : Value} {S' : Sg} {Q : Unit → Shared → Prop} {E : Value → Shared → Prop} {M : Model} (I : Inv C H s) (F : Fm C env gs S H s.heap) (hf : env.kindOf x ≠ some .free) (p : Put S x v S') (r : VR C.h₀ s.heap v u)
    (h : ∀ s', Inv C H s' → Fm C env gs S' H s'.heap → KpS env s.heap H s'.heap H → TupKeep s.heap s'.heap → (env.kindOf x = some .local → Heap.ExtBut env.locals s.heap s'.heap) → Q () s') : wpAny M A (storeName env x u) Q E s := by
  obtain ⟨ok, ⟨mr, hn, hv⟩, nl, nl0, hc⟩ := F
  have hns := p.names
  have nd : (Mine.names S).Nodup := ok.nodup
  rcases ok.vars x p.mem with hl | ⟨hl, c, hcc⟩
  · refine wpAny_storeName_local hl hn (fun h' hn' hs => h _ ?_ ?_ ?_ ?_ (fun _ => hs.extBut)) (by rw [ok.kind]; rfl)
    all_goals have ex : ∀ b o, b ≠ env.locals → s.heap.get? b = some o → h'.get? b = some o := fun b o hb e => hs.extBut b o hb e
    all_goals have tk : TupKeep s.heap h' := fun a o e hm => ex a o (fun q => by
      obtain ⟨oL, es, ep, hL, hd, _⟩ := hn
      rw [q, hL] at e; cases e
      rcases hm with ⟨_, _, _, hd'⟩ | ⟨_, _, hd'⟩ <;> (rw [hd] at hd'; cases hd')) e
    · exact ⟨fun b o e => ex b o (fun q => by rw [q, nl0] at e; cases e) (I.base b o e), fun p hp => (I.objs p hp).keep tk fun ob e => ex _ _ (fun q => nl (q ▸ List.mem_map_of_mem hp)) e, I.new, I.nodup, I.gens, I.os⟩
    · refine ⟨hns ▸ ok, ⟨_, hn', fun y w a k => ?_⟩, nl, nl0, fun n c' e => ?_⟩
      · rcases p.at nd a with ⟨rfl, rfl⟩ | ⟨hne, a'⟩
        · exact ⟨u, by simp, r.keep tk⟩
        · obtain ⟨z, h1, h2⟩ := hv y w a' k
          exact ⟨z, by simp [hne, h1], h2.keep tk⟩
      · obtain ⟨vo, ⟨oc, ho, hd⟩, ndc, n0, hv'⟩ := hc n c' e
        have hne : c' ≠ env.locals := fun q => ok.off n c' e q.symm
        refine ⟨vo, ⟨oc, ex _ _ hne ho, hd⟩, ndc, n0, fun w a k => ?_⟩
        rcases p.at nd a with ⟨rfl, rfl⟩ | ⟨_, a'⟩
        · exact absurd hl k
        · obtain ⟨z, h1, h2⟩ := hv' w a' k; exact ⟨z, h1, h2.keep tk⟩
    · intro b o e hnd
      refine ⟨hnd, ?_⟩
      by_cases q : b = env.locals
      · obtain ⟨oL, es, ep, hL, _⟩ := hn'
        exact ⟨oL, q ▸ hL, fun ho => absurd (.inl q) ho⟩
      · exact ⟨o, ex b o q e, fun _ => rfl⟩
    · exact tk
  · have hl' : env.kindOf x = some .cell := by
      rcases hl with h | h
      · exact h
      · exact absurd h.1 hf
    obtain ⟨vo, hcell, ndc, n0, hvc⟩ := hc x c (mem_of_lookup hcc)
    refine wpAny_storeName_cell ok.kind hl' hcc hcell (fun h' hc' hs => h _ ?_ ?_ ?_ ?_ (fun q => by rw [hl'] at q; cases q))
    all_goals have ex : ∀ b o, b ≠ c → s.heap.get? b = some o → h'.get? b = some o := fun b o hb e => hs.extBut b o hb e
    all_goals have tk : TupKeep s.heap h' := fun a o e hm => ex a o (fun q => by
      obtain ⟨oL, hL, hd⟩ := hcell
      rw [q, hL] at e; cases e
      rcases hm with ⟨_, _, _, hd'⟩ | ⟨_, _, hd'⟩ <;> (rw [hd] at hd'; cases hd')) e
    · exact ⟨fun b o e => ex b o (fun q => by rw [q, n0] at e; cases e) (I.base b o e), fun p hp => (I.objs p hp).keep tk fun ob e => ex _ _ (fun q => ndc (q ▸ List.mem_map_of_mem hp)) e, I.new, I.nodup, I.gens, I.os⟩
    · refine ⟨hns ▸ ok, ⟨mr, hn.sameBut hs (ok.off x c (mem_of_lookup hcc)), fun y w a k => ?_⟩, nl, nl0, fun n c' e => ?_⟩
      · rcases p.at nd a with ⟨rfl, rfl⟩ | ⟨_, a'⟩
        · rw [hl'] at k; cases k
        · obtain ⟨z, h1, h2⟩ := hv y w a' k
          exact ⟨z, h1, h2.keep tk⟩
      · by_cases hnx : n = x
        · subst hnx
          obtain rfl := ok.cfun n c' c e (mem_of_lookup hcc)
          refine ⟨some u, hc', ndc, n0, fun w a k => ?_⟩
          rcases p.at nd a with ⟨_, rfl⟩ | ⟨hne, _⟩
          · exact ⟨u, rfl, r.keep tk⟩
          · exact absurd rfl hne
        · obtain ⟨vo', ⟨oc, ho, hd⟩, ndc', n0', hv'⟩ := hc n c' e
          have hne : c' ≠ c := fun q => hnx (name_of_addr ok.apart e (q ▸ mem_of_lookup hcc))
          refine ⟨vo', ⟨oc, ex _ _ hne ho, hd⟩, ndc', n0', fun w a k => ?_⟩
          rcases p.at nd a with ⟨q, _⟩ | ⟨_, a'⟩
          · exact absurd q hnx
          · obtain ⟨z, h1, h2⟩ := hv' w a' k; exact ⟨z, h1, h2.keep tk⟩
    · intro b o e hnd
      refine ⟨hnd, ?_⟩
      by_cases q : b = c
      · obtain ⟨oL, hL, _⟩ := hc'
        exact ⟨oL, q ▸ hL, fun ho => absurd (.inr ⟨x, q ▸ mem_of_lookup hcc⟩) ho⟩
      · exact ⟨o, ex b o q e, fun _ => rfl⟩
    · exact tk

theorem Fm.ownImm {h : Heap} (F : Fm C env gs S H h) {a : Addr} {o : Obj} (hw : Own env a) (e : h.get? a = some o) : ¬ Imm o := by
  intro hm
  rcases hw with q | ⟨nn, q⟩
  · obtain ⟨mr, ⟨oL, es, ep, hL, hd, _⟩, _⟩ := F.ns
    rw [q, hL] at e; cases e
    rcases hm with ⟨_, _, _, hd'⟩ | ⟨_, _, hd'⟩ <;> (rw [hd] at hd'; cases hd')
  · obtain ⟨vo, ⟨oc, ho, hd⟩, _⟩ := F.cell nn a q
    rw [ho] at e; cases e
    rcases hm with ⟨_, _, _, hd'⟩ | ⟨_, _, hd'⟩ <;> (rw [hd] at hd'; cases hd')

theorem WA.name {x : Str} {p : Pos} {v : MV} {S' : Sg} {K : Sg → Hp → Prop} (h : Put S x v S') (q : K S' H) : WA C A env gs S H (.Name x p) v K := by
  intro s u I F nf r
  exact wpAny_assign_Name (store I F (nf x h.mem) h r fun s' I' F' k _ _ => ⟨S', H, I', F', k, h.names, q⟩)
end
end Mine
namespace Mine
open PySem PySem.Calls PyProof.Rows

section
variable {C : Cx} {A : Around} {env : Env} {gs : List Str} {S : Sg} {H : Hp} {n : Nat} {Q : Fl → Sg → Hp → Prop}

def Seq (Q : Fl → Sg → Hp → Prop) (k : Sg → Hp → Prop) : Fl → Sg → Hp → Prop
  | .next, S, H => k S H
  | .brk, S, H => Q .brk S H
  | .cont, S, H => Q .cont S H
  | .ret v, S, H => Q (.ret v) S H

theorem WSs.nil (q : Q .next S H) : WSs C A env gs S H [] Q := fun s I F _ => wpAny_execs_nil ⟨.next, S, H, rfl, I, F, KpS.refl, rfl, q⟩
theorem WSs.cons {st : Stmt} {rest : List Stmt} (h : WS C A env gs S H st (Seq Q fun S' H' => WSs C A env gs S' H' rest Q)) : WSs C A env gs S H (st :: rest) Q := by
  intro s I F nf
  refine wpAny_execs_cons (wpAny_mono (h s I F nf) (fun f s₁ h₁ => ?_) noE)
  first | (refine EP.elim h₁ fun fl S₁ H₁ r I₁ hq => ?_; clear h₁) | (refine LP.elim h₁ fun fl S₁ H₁ r I₁ hq => ?_; clear h₁) | obtain ⟨fl, S₁, H₁, r, I₁, hq⟩ := h₁
  obtain ⟨F₁, k₁, n₁, q₁⟩ := hq
  cases fl with
  | next =>
    have : f = .next := r
    subst this
    exact wpAny_mono (q₁ s₁ I₁ F₁ (nf.of n₁)) (fun _ _ h => h.from k₁ n₁) noE
  | brk =>
    have : f = .brk := r
    subst this
    exact ⟨.brk, S₁, H₁, rfl, I₁, F₁, k₁, n₁, q₁⟩
  | cont =>
    have : f = .cont := r
    subst this
    exact ⟨.cont, S₁, H₁, rfl, I₁, F₁, k₁, n₁, q₁⟩
  | ret x =>
    obtain ⟨v, rfl, hv⟩ := r
    exact ⟨.ret x, S₁, H₁, ⟨v, rfl, hv⟩, I₁, F₁, k₁, n₁, q₁⟩
/-- forget objects -/
theorem WSs.sub {st : List Stmt} {H' : Hp} (h : WSs C A env gs S H' st Q) (hs : H'.Sublist H) : WSs C A env gs S H st Q := by
  intro s I F nf
  have k : Kp s.heap H s.heap H' := (Kp.refl _ _).sub hs
  exact wpAny_mono (h s (I.sub hs) (F.keep I k) nf) (fun _ _ p => p.from k.toS rfl) noE
theorem WS.ret {e : Expr} {p : Pos} (h : WE C A env gs S H e fun v H' => Q (.ret v) S H') : WS C A env gs S H (.Return (some e) p) Q := by
  intro s I F nf
  refine wpAny_Return_some (wpAny_mono (h s I F) (fun v s₁ h₁ => ?_) noE)
  first | (refine EP.elim h₁ fun x H₁ r I₁ k₁ q₁ => ?_; clear h₁) | (refine LP.elim h₁ fun x H₁ r I₁ k₁ q₁ => ?_; clear h₁) | obtain ⟨x, H₁, r, I₁, k₁, q₁⟩ := h₁
  exact ⟨.ret x, S, H₁, ⟨v, rfl, r⟩, I₁, F.keep I k₁, k₁.toS, rfl, q₁⟩
theorem WS.if {test : Expr} {body orelse : List Stmt} {p : Pos} (h : WT C A env gs S H test fun b H' => if b = true then WSs C A env gs S H' body Q else WSs C A env gs S H' orelse Q) : WS C A env gs S H (.If test body orelse p) Q := by
  intro s I F nf
  refine wpAny_If (wpAny_mono (h s I F) (fun b s₁ h₁ => ?_) noE)
  first | (refine BP.elim h₁ fun H₁ I₁ k₁ q₁ => ?_; clear h₁) | obtain ⟨H₁, I₁, k₁, q₁⟩ := h₁
  cases b with
  | true => exact wpAny_mono (q₁ s₁ I₁ (F.keep I k₁) nf) (fun _ _ h => h.from k₁.toS rfl) noE
  | false => exact wpAny_mono (q₁ s₁ I₁ (F.keep I k₁) nf) (fun _ _ h => h.from k₁.toS rfl) noE
/-- a plain assignment -/
theorem WS.assign {x : Str} {px p : Pos} {e : Expr} (h : WE C A env gs S H e fun v H' => ∃ S', Put S x v S' ∧ Q .next S' H')
    (hs : swapsWith e (some (.Name x px)) p.line env = pure false := by with_unfolding_all rfl) : WS C A env gs S H (.Assign [.Name x px] e p) Q := by
  intro s I F nf
  refine wpAny_Assign_Name (wpAny_mono (h s I F) (fun v s₁ h₁ => ?_) noE) hs
  first | (refine EP.elim h₁ fun y H₁ r I₁ k₁ hq => ?_; clear h₁) | (refine LP.elim h₁ fun y H₁ r I₁ k₁ hq => ?_; clear h₁) | obtain ⟨y, H₁, r, I₁, k₁, hq⟩ := h₁
  obtain ⟨S', pt, q₁⟩ := hq
  exact store I₁ (F.keep I k₁) (nf x pt.mem) pt r fun s' I' F' k' _ _ => ⟨.next, S', H₁, rfl, I', F', k₁.toS.trans k', pt.names, q₁⟩
/-- an expression for its effect: it hands back None -/
theorem WS.expr {e : Expr} {p : Pos} (h : WE C A env gs S H e fun v H' => v = .none ∧ Q .next S H') (hs : swapsWith e none p.line env = pure false := by with_unfolding_all rfl) : WS C A env gs S H (.Expr e p) Q := by
  intro s I F nf
  refine wpAny_Expr (wpAny_mono (h s I F) (fun v s₁ h₁ => ?_) noE) (by unfold interactive; rw [F.ok.kind]; rfl) hs
  first | (refine EP.elim h₁ fun y H₁ r I₁ k₁ hq => ?_; clear h₁) | (refine LP.elim h₁ fun y H₁ r I₁ k₁ hq => ?_; clear h₁) | obtain ⟨y, H₁, r, I₁, k₁, hq⟩ := h₁
  obtain ⟨rfl, q₁⟩ := hq
  unfold VR at r; subst r
  exact ⟨.next, S, H₁, rfl, I₁, F.keep I k₁, k₁.toS, rfl, q₁⟩
/-- a store into a list or a dict -/
def W3 (C : Cx) (A : Around) (H : Hp) (o i v : MV) (K : Hp → Prop) : Prop :=
  ∀ s a b c, Inv C H s → VR C.h₀ s.heap o a → VR C.h₀ s.heap i b → VR C.h₀ s.heap v c → wpAny (Md C) A (setItem a b c) (fun _ s' => ∃ H', Inv C H' s' ∧ Kp s.heap H s'.heap H' ∧ K H') NoE s
theorem WS.setItem {o i e : Expr} {px p : Pos} (h : WE C A env gs S H e fun v H₁ => WE C A env gs S H₁ o fun x H₂ => WE C A env gs S H₂ i fun y H₃ => W3 C A H₃ x y v fun H₄ => Q .next S H₄)
    (hs : swapsWith e (some (.Subscript o i px)) p.line env = pure false := by with_unfolding_all rfl) : WS C A env gs S H (.Assign [.Subscript o i px] e p) Q := by
  intro s I F nf
  refine wpAny_Assign_Subscript (wpAny_mono (h s I F) (fun v s₁ h₁ => ?_) noE) hs
  first | (refine EP.elim h₁ fun vv H₁ r₁ I₁ k₁ q₁ => ?_; clear h₁) | (refine LP.elim h₁ fun vv H₁ r₁ I₁ k₁ q₁ => ?_; clear h₁) | obtain ⟨vv, H₁, r₁, I₁, k₁, q₁⟩ := h₁
  have F₁ := F.keep I k₁
  refine wpAny_mono (q₁ s₁ I₁ F₁) (fun a s₂ h₂ => ?_) noE
  first | (refine EP.elim h₂ fun x H₂ r₂ I₂ k₂ q₂ => ?_; clear h₂) | (refine LP.elim h₂ fun x H₂ r₂ I₂ k₂ q₂ => ?_; clear h₂) | obtain ⟨x, H₂, r₂, I₂, k₂, q₂⟩ := h₂
  have F₂ := F₁.keep I₁ k₂
  refine wpAny_mono (q₂ s₂ I₂ F₂) (fun b s₃ h₃ => ?_) noE
  first | (refine EP.elim h₃ fun y H₃ r₃ I₃ k₃ q₃ => ?_; clear h₃) | (refine LP.elim h₃ fun y H₃ r₃ I₃ k₃ q₃ => ?_; clear h₃) | obtain ⟨y, H₃, r₃, I₃, k₃, q₃⟩ := h₃
  have F₃ := F₂.keep I₂ k₃
  refine wpAny_mono (q₃ s₃ a b v I₃ (r₂.keep (I₂.tupKeep k₃)) r₃ (r₁.keep ((I₁.tupKeep k₂).trans (I₂.tupKeep k₃)))) (fun _ s₄ h₄ => ?_) noE
  first | (refine BP.elim h₄ fun H₄ I₄ k₄ q₄ => ?_; clear h₄) | obtain ⟨H₄, I₄, k₄, q₄⟩ := h₄
  exact ⟨.next, S, H₄, rfl, I₄, F₃.keep I₃ k₄, (((k₁.trans k₂).trans k₃).trans k₄).toS, rfl, q₄⟩

/-! iterators -/
structure Itr (C : Cx) (A : Around) (it : Addr) (wr : List Addr) (target : Expr) (xs : List MV) (Ok : Hp → Prop) (St : Nat → Heap → Prop) (Mid : Nat → Value → Heap → Prop) : Prop where
  frame : ∀ i h h', St i h → TupKeep h h' → (∀ b ∈ wr, ∀ o, h.get? b = some o → h'.get? b = some o) → St i h'
  obj : ∀ i h, (St i h ∨ ∃ v, Mid i v h) → ∀ b ∈ wr, ∃ o, h.get? b = some o ∧ ¬ Imm o
  next : ∀ i x H s (Q : Option Value → Shared → Prop), xs[i]? = some x → Inv C H s → Ok H → St i s.heap →
    (∀ v h' t, VR C.h₀ h' x v → Mid i v h' → Ext wr s.heap h' → Q (some v) { s with heap := h', toks := t }) → wpAny (Md C) A (pyNext (.ref it)) Q NoE s
  go : ∀ i x v s (Q : Unit → Shared → Prop), xs[i]? = some x → VR C.h₀ s.heap x v → Mid i v s.heap → (∀ h' t, St (i + 1) h' → Ext wr s.heap h' → Q () { s with heap := h', toks := t }) →
    wpAny (Md C) A (letOwnedTupleGo target (.ref it) v) Q NoE s
  done : ∀ H s (Q : Option Value → Shared → Prop), Inv C H s → Ok H → St xs.length s.heap → (∀ h' t, Ext wr s.heap h' → Q none { s with heap := h', toks := t }) → wpAny (Md C) A (pyNext (.ref it)) Q NoE s
  plain : ∀ x p, target = .Name x p → ∀ i v h, Mid i v h → St (i + 1) h
  /-- asked for its iterator it is itself -/
  self : ∀ i s (Q : Value → Shared → Prop), St i s.heap → Q (.ref it) s → wpAny (Md C) A (pyIter (.ref it)) Q NoE s

/-- the head of a for: the expression evaluated and asked for its iterator -/
def WI (C : Cx) (A : Around) (env : Env) (gs : List Str) (S : Sg) (H : Hp) (iter target : Expr) (K : List MV → (Hp → Prop) → Hp → Prop) : Prop :=
  ∀ s, Inv C H s → Fm C env gs S H s.heap → wpAny (Md C) A (eval iter env) (fun x s₁ => wpAny (Md C) A (pyIter x) (fun w s₂ =>
    ∃ it wr xs Ok St Mid H₂, w = .ref it ∧ Itr C A it wr target xs Ok St Mid ∧ St 0 s₂.heap ∧ Inv C H₂ s₂ ∧ Kp s.heap H s₂.heap H₂ ∧ (∀ b ∈ wr, (∀ o, s.heap.get? b = some o → dom H b) ∧ ¬ dom H₂ b) ∧ K xs Ok H₂) NoE s₁) NoE s

def LoopQ (Q : Fl → Sg → Hp → Prop) (k : Sg → Hp → Prop) : Fl → Sg → Hp → Prop
  | .next, S, H => k S H
  | .cont, S, H => k S H
  | .brk, S, H => Q .next S H
  | .ret v, S, H => Q (.ret v) S H

theorem KpS.ext {wr : List Addr} {h₀ h h' : Heap} {H₀ H : Hp} (k : KpS env h₀ H₀ h H) (e : Ext wr h h') (hw : ∀ b ∈ wr, ∀ o, h₀.get? b = some o → dom H₀ b) : KpS env h₀ H₀ h' H := fun b o eb nb => by
  obtain ⟨n1, o1, e1, r1⟩ := k b o eb nb
  exact ⟨n1, o1, e b o1 (fun h => nb (hw b h o eb)) e1, r1⟩
theorem notOwn {s : Shared} {b : Addr} (F : Fm C env gs S H s.heap) (hb : ∀ o, s.heap.get? b = some o → dom H b) : ¬ Own env b := by
  rintro (q | ⟨nn, q⟩)
  · obtain ⟨mr, ⟨oL, es, ep, hL, hd, _⟩, _⟩ := F.ns
    exact F.nl (q ▸ hb oL (q ▸ hL))
  · obtain ⟨vo, ⟨oc, ho, hd⟩, nd, _⟩ := F.cell nn b q
    exact nd (hb oc ho)

theorem KpS.tupKeep {s : Shared} {h' : Heap} {H' : Hp} (k : KpS env s.heap H h' H') (I : Inv C H s) (F : Fm C env gs S H s.heap) : TupKeep s.heap h' := fun a o e hm => by
  obtain ⟨_, o', e', r⟩ := k a o e (I.noTup e hm)
  rw [← r fun hw => F.ownImm hw e hm]; exact e'

theorem WS.for {target iter : Expr} {body : List Stmt} {p : Pos}
    (h : WI C A env gs S H iter target fun xs Ok H₁ => ∃ I : Nat → Sg → Hp → Prop, I 0 S H₁ ∧ (∀ i S H, I i S H → Ok H) ∧
      (∀ i x S H, xs[i]? = some x → I i S H → WA C A env gs S H target x fun S₁ H₁ => WSs C A env gs S₁ H₁ body (LoopQ Q (I (i + 1)))) ∧ ∀ S H, I xs.length S H → Q .next S H)
    (hs : ∀ x, foldedSetIterable iter env x = pure x := by intro _; with_unfolding_all rfl) : WS C A env gs S H (.For target iter body [] p) Q := by
  intro s I F nf
  refine wpAny_For (wpAny_mono (h s I F) (fun x s₁ h₁ => wpAny_mono h₁ (fun w s₂ h₂ => ?_) noE) noE) hs
  first | (refine EP.elim h₂ fun it wr xs Ok St hq => ?_; clear h₂) | (refine LP.elim h₂ fun it wr xs Ok St hq => ?_; clear h₂) | obtain ⟨it, wr, xs, Ok, St, hq⟩ := h₂
  obtain ⟨Mid, H₂, rfl, W, hst, I₂, k₂, hw, J, j0, jok, turn, fin⟩ := hq
  have F₂ := F.keep I k₂
  have hb0 : ∀ b ∈ wr, C.h₀.get? b = none := fun b hb => by
    cases e : C.h₀.get? b with
    | none => rfl
    | some o =>
      have d := (hw b hb).1 o (I.base _ _ e)
      obtain ⟨p, hp, rfl⟩ := List.mem_map.mp d
      rw [I.new p hp] at e; cases e
  have hno : ∀ b ∈ wr, ¬ Own env b := fun b hb => notOwn F (hw b hb).1
  refine codeAny_forLoop_any (fun k s' => ∃ i S' H', i ≤ xs.length ∧ k = xs.length + 1 - i ∧ J i S' H' ∧ Inv C H' s' ∧ Fm C env gs S' H' s'.heap ∧ KpS env s.heap H s'.heap H' ∧ names S' = names S ∧ St i s'.heap ∧ ∀ b ∈ wr, ¬ dom H' b) ?_ (xs.length + 1)
    ⟨0, S, H₂, Nat.zero_le _, rfl, j0, I₂, F₂, k₂.toS, rfl, hst, fun b hb => (hw b hb).2⟩
  rintro k s' ⟨i, S', H', hi, rfl, hj, I', F', k', n', hst', hd'⟩
  have hwr : ∀ (s'' : Shared), (St i s''.heap ∨ ∃ v, Mid i v s''.heap) → ∀ b ∈ wr, ¬ dom H' b ∧ C.h₀.get? b = none ∧ ¬ Own env b ∧ ∀ o, s''.heap.get? b = some o → ¬ Imm o := fun s'' hs b hb =>
    ⟨hd' b hb, hb0 b hb, hno b hb, fun o e => by obtain ⟨o', e', hm⟩ := W.obj i _ hs b hb; rw [e] at e'; cases e'; exact hm⟩
  cases hx : xs[i]? with
  | none =>
    have hlen : i = xs.length := by
      rcases Nat.lt_or_ge i xs.length with h | h
      · rw [List.getElem?_eq_getElem h] at hx; cases hx
      · omega
    refine wpAny_mono (W.done H' s' (fun r s₁ => match r with | none => SP C env gs S H s Q .next s₁ | some _ => False) I' (jok _ _ _ hj) (hlen ▸ hst') fun h' t e => ?_) (fun r s₁ hr => ?_) noE
    · obtain ⟨I'', F''⟩ := touch I' F' e (hwr s' (.inl hst')) t
      exact ⟨.next, S', H', rfl, I'', F'', k'.ext e (fun b hb => (hw b hb).1), n', fin _ _ (hlen ▸ hj)⟩
    · cases r with
      | none => exact wpAny_execs_nil hr
      | some v => exact hr.elim
  | some x =>
    have hlt : i < xs.length := by
      rcases Nat.lt_or_ge i xs.length with h | h
      · exact h
      · rw [List.getElem?_eq_none h] at hx; cases hx
    refine wpAny_mono (W.next i x H' s' (fun r s₁ => match r with | none => False | some v => wpAny (Md C) A (letOwnedTupleGo target (.ref it) v) (fun _ s₂ => wpAny (Md C) A (PySem.assign target env v) (fun _ s₃ =>
      wpAny (Md C) A (execs body env) (fun f s₄ => match f with
        | .next | .cont => ∃ m, m < xs.length + 1 - i ∧ ∃ i S' H', i ≤ xs.length ∧ m = xs.length + 1 - i ∧ J i S' H' ∧ Inv C H' s₄ ∧ Fm C env gs S' H' s₄.heap ∧ KpS env s.heap H s₄.heap H' ∧ names S' = names S ∧ St i s₄.heap ∧ ∀ b ∈ wr, ¬ dom H' b
        | .brk => SP C env gs S H s Q .next s₄
        | .ret v => SP C env gs S H s Q (.ret v) s₄) NoE s₃) NoE s₂) NoE s₁) hx I' (jok _ _ _ hj) hst' fun v h' t hv hmid e => ?_) (fun r s₁ hr => ?_) noE
    · obtain ⟨I₁, F₁⟩ := touch I' F' e (hwr s' (.inl hst')) t
      refine W.go i x v _ _ hx hv hmid fun h'' t' hst'' e' => ?_
      obtain ⟨I₃, F₃⟩ := touch I₁ F₁ e' (hwr { s' with heap := h', toks := t } (.inr ⟨_, hmid⟩)) t'
      have k₃ : KpS env s.heap H h'' H' := (k'.ext e fun b hb => (hw b hb).1).ext e' fun b hb => (hw b hb).1
      have hv₃ : VR C.h₀ h'' x v := hv.ext e' fun a ha o ho => (hwr { s' with heap := h', toks := t } (.inr ⟨_, hmid⟩) a ha).2.2.2 o ho
      refine wpAny_mono (turn i x S' H' hx hj _ v I₃ F₃ (nf.of n') hv₃) (fun _ s₄ h₄ => ?_) noE
      first | (refine EP.elim h₄ fun S₄ H₄ I₄ F₄ k₄ hq => ?_; clear h₄) | (refine LP.elim h₄ fun S₄ H₄ I₄ F₄ k₄ hq => ?_; clear h₄) | obtain ⟨S₄, H₄, I₄, F₄, k₄, hq⟩ := h₄
      obtain ⟨n₄, w₄⟩ := hq
      refine wpAny_mono (w₄ s₄ I₄ F₄ ((nf.of n').of n₄)) (fun f s₅ h₅ => ?_) noE
      first | (refine EP.elim h₅ fun fl S₅ H₅ r₅ I₅ hq => ?_; clear h₅) | (refine LP.elim h₅ fun fl S₅ H₅ r₅ I₅ hq => ?_; clear h₅) | obtain ⟨fl, S₅, H₅, r₅, I₅, hq⟩ := h₅
      obtain ⟨F₅, k₅, n₅, q₅⟩ := hq
      have k45 : KpS env h'' H' s₅.heap H₅ := k₄.trans k₅
      have keepwr : ∀ b ∈ wr, ¬ dom H₅ b ∧ ∀ o, h''.get? b = some o → s₅.heap.get? b = some o := fun b hb => by
        obtain ⟨o, ho, _⟩ := W.obj (i + 1) h'' (.inl hst'') b hb
        obtain ⟨n6, o6, e6, r6⟩ := k45 b o ho (hd' b hb)
        refine ⟨n6, fun o' ho' => ?_⟩
        rw [ho] at ho'; cases ho'
        rw [← r6 (hno b hb)]; exact e6
      have hst5 : St (i + 1) s₅.heap := W.frame _ _ _ hst'' (k45.tupKeep I₃ F₃) fun b hb o ho => (keepwr b hb).2 o ho
      have again : J (i + 1) S₅ H₅ → ∃ m, m < xs.length + 1 - i ∧ ∃ i S' H', i ≤ xs.length ∧ m = xs.length + 1 - i ∧ J i S' H' ∧ Inv C H' s₅ ∧ Fm C env gs S' H' s₅.heap ∧ KpS env s.heap H s₅.heap H' ∧ names S' = names S ∧ St i s₅.heap ∧ ∀ b ∈ wr, ¬ dom H' b :=
        fun hj' => ⟨xs.length + 1 - (i + 1), by omega, i + 1, S₅, H₅, hlt, rfl, hj', I₅, F₅, k₃.trans k45, (n₅.trans n₄).trans n', hst5, fun b hb => (keepwr b hb).1⟩
      cases fl with
      | next =>
        have : f = .next := r₅
        subst this
        exact again q₅
      | cont =>
        have : f = .cont := r₅
        subst this
        exact again q₅
      | brk =>
        have : f = .brk := r₅
        subst this
        exact ⟨.next, S₅, H₅, rfl, I₅, F₅, k₃.trans k45, (n₅.trans n₄).trans n', q₅⟩
      | ret y =>
        obtain ⟨u, rfl, hu⟩ := r₅
        exact ⟨.ret y, S₅, H₅, ⟨u, rfl, hu⟩, I₅, F₅, k₃.trans k45, (n₅.trans n₄).trans n', q₅⟩
    · cases r with
      | none => exact hr.elim
      | some v =>
        exact wpAny_mono hr (fun _ _ h => wpAny_mono h (fun _ _ h => wpAny_mono h (fun f _ h => by cases f <;> exact h) noE) noE) noE

theorem WS.while {test : Expr} {body : List Stmt} {p : Pos} (I : Nat → Sg → Hp → Prop) (n : Nat) (h0 : I n S H)
    (turn : ∀ n S H, I n S H → WT C A env gs S H test fun b H' => if b = true then WSs C A env gs S H' body (LoopQ Q fun S' H'' => ∃ m, m < n ∧ I m S' H'') else Q .next S H') : WS C A env gs S H (.While test body [] p) Q := by
  intro s Iv F nf
  refine wpAny_While (codeAny_whileLoop (fun k s' => ∃ S' H', I k S' H' ∧ Inv C H' s' ∧ Fm C env gs S' H' s'.heap ∧ KpS env s.heap H s'.heap H' ∧ names S' = names S) ?_ n ⟨S, H, h0, Iv, F, KpS.refl, rfl⟩)
  rintro k s' ⟨S', H', hI, I', F', k', n'⟩
  refine wpAny_mono (turn k S' H' hI s' I' F') (fun b s₁ h₁ => ?_) noE
  first | (refine BP.elim h₁ fun H₁ I₁ k₁ q₁ => ?_; clear h₁) | obtain ⟨H₁, I₁, k₁, q₁⟩ := h₁
  cases b with
  | false => exact wpAny_execs_nil ⟨.next, S', H₁, rfl, I₁, F'.keep I' k₁, k'.trans k₁.toS, n', q₁⟩
  | true =>
    refine wpAny_mono (q₁ s₁ I₁ (F'.keep I' k₁) (nf.of n')) (fun f s₂ h₂ => ?_) noE
    first | (refine EP.elim h₂ fun fl S₂ H₂ r₂ I₂ hq => ?_; clear h₂) | (refine LP.elim h₂ fun fl S₂ H₂ r₂ I₂ hq => ?_; clear h₂) | obtain ⟨fl, S₂, H₂, r₂, I₂, hq⟩ := h₂
    obtain ⟨F₂, k₂, n₂, q₂⟩ := hq
    have kk := (k'.trans k₁.toS).trans k₂
    cases fl with
    | next =>
      have : f = .next := r₂
      subst this
      obtain ⟨m, hm, hI'⟩ := q₂
      exact ⟨m, hm, S₂, H₂, hI', I₂, F₂, kk, n₂.trans n'⟩
    | cont =>
      have : f = .cont := r₂
      subst this
      obtain ⟨m, hm, hI'⟩ := q₂
      exact ⟨m, hm, S₂, H₂, hI', I₂, F₂, kk, n₂.trans n'⟩
    | brk =>
      have : f = .brk := r₂
      subst this
      exact ⟨.next, S₂, H₂, rfl, I₂, F₂, kk, n₂.trans n', q₂⟩
    | ret y =>
      obtain ⟨u, rfl, hu⟩ := r₂
      exact ⟨.ret y, S₂, H₂, ⟨u, rfl, hu⟩, I₂, F₂, kk, n₂.trans n', q₂⟩
end
end Mine
namespace Mine
open PySem PySem.Calls PyProof.Rows

/-! entering a def -/
def scopeOk (sc : Scope) (ns gs : List Str) : Bool :=
  decide ns.Nodup && ns.all (fun x => !(x == ("__debug__" : Str)) && (sc.names.lookup x == some .local || sc.names.lookup x == some .cell)) &&
  gs.all (fun x => sc.names.lookup x == some .globalImplicit) && decide ((sc.names.filter (fun p => p.2 == .cell)).map (·.1)).Nodup &&
  sc.kind == .function && !sc.isCoroutine && !sc.isGenerator

theorem cellsFrom_fst : ∀ (names : List (Str × NameKind)) (n : Nat) (acc : List (Str × Addr)), (cellsFrom n names acc).map (·.1) = ((names.filter (fun p => p.2 == .cell)).map (·.1)).reverse ++ acc.map (·.1)
  | [], _, _ => by simp [cellsFrom]
  | (x, k) :: r, n, acc => by
    unfold cellsFrom
    by_cases hk : (k == .cell) = true
    · rw [if_pos hk, cellsFrom_fst r]
      simp [hk]
    · rw [if_neg hk, cellsFrom_fst r]
      simp [hk]
theorem mem_lookup {α : Type} : ∀ {l : List (Str × α)} {n : Str}, n ∈ l.map (·.1) → ∃ c, l.lookup n = some c
  | (k, v) :: r, n, h => by
    rw [List.lookup_cons]
    cases hb : n == k with
    | true => exact ⟨v, rfl⟩
    | false =>
      simp only [List.map_cons, List.mem_cons] at h
      rcases h with rfl | h
      · simp at hb
      · exact mem_lookup h
theorem fun_of_nodup {α : Type} : ∀ {l : List (Str × α)}, (l.map (·.1)).Nodup → ∀ {n : Str} {c c' : α}, (n, c) ∈ l → (n, c') ∈ l → c = c'
  | (k, v) :: r, h, n, c, c', h1, h2 => by
    simp only [List.map_cons, List.nodup_cons] at h
    rcases List.mem_cons.mp h1 with e1 | h1 <;> rcases List.mem_cons.mp h2 with e2 | h2
    · cases e1; cases e2; rfl
    · cases e1; exact absurd (List.mem_map_of_mem (f := (·.1)) h2) h.1
    · cases e2; exact absurd (List.mem_map_of_mem (f := (·.1)) h1) h.1
    · exact fun_of_nodup h.2 h1 h2

theorem envOk_of {sc : Scope} {ns gs : List Str} (h : scopeOk sc ns gs = true) {env : Env} {L : Addr} (e1 : env.scope = sc) (e2 : env.globals = mainGlobals) (e3 : env.builtins = builtinsNs) (e4 : env.cells = cellsFrom (L + 1) sc.names []) (e5 : env.locals = L)
    (ap : env.cells.Pairwise fun x y => x.2 ≠ y.2) (ab : ∀ n c, (n, c) ∈ env.cells → L < c) : EnvOk env ns gs := by
  simp only [scopeOk, Bool.and_eq_true, decide_eq_true_eq, List.all_eq_true, Bool.or_eq_true, beq_iff_eq, Bool.not_eq_true', beq_eq_false_iff_ne] at h
  obtain ⟨⟨⟨⟨⟨⟨h1, h2⟩, h3⟩, h4⟩, h5⟩, h6⟩, h7⟩ := h
  have hf := cellsFrom_fst sc.names (L + 1) []
  refine ⟨e1 ▸ h5, e2, e3, h1, fun x hx => by simpa using (h2 x hx).1, fun x hx => ?_, fun x hx => by unfold Env.kindOf; rw [e1]; exact h3 x hx, ap, fun n c c' a b => ?_, fun n c a => ?_⟩
  · unfold Env.kindOf
    rw [e1]
    rcases (h2 x hx).2 with h | h
    · exact .inl h
    · refine .inr ⟨.inl h, ?_⟩
      rw [e4]
      refine mem_lookup ?_
      rw [hf]
      simp only [List.map_nil, List.append_nil, List.mem_reverse]
      exact List.mem_map.mpr ⟨(x, .cell), List.mem_filter.mpr ⟨mem_of_lookup h, rfl⟩, rfl⟩
  · refine fun_of_nodup (l := env.cells) ?_ a b
    rw [e4, hf, List.map_nil, List.append_nil]
    exact ((List.reverse_perm _).nodup_iff).mpr h4
  · rw [e5]; exact Nat.ne_of_lt (ab n c a)

theorem bindL_off {k : Str → Option NameKind} : ∀ {ps : List Str} {vs : List Value} {m : Str → Option Value} {x : Str}, x ∉ ps → bindL k (ps.zip vs) m x = m x
  | [], vs, m, x, _ => by simp [bindL]
  | p :: ps, [], m, x, _ => by simp [bindL]
  | p :: ps, v :: vs, m, x, h => by
    simp only [List.mem_cons, not_or] at h
    simp only [List.zip_cons_cons, bindL]
    rw [bindL_off h.2]
    split
    · simp [h.1]
    · rfl
theorem bindC_off {k : Str → Option NameKind} : ∀ {ps : List Str} {vs : List Value} {m : Str → Option Value} {x : Str}, x ∉ ps → bindC k (ps.zip vs) m x = m x
  | [], vs, m, x, _ => by simp [bindC]
  | p :: ps, [], m, x, _ => by simp [bindC]
  | p :: ps, v :: vs, m, x, h => by
    simp only [List.mem_cons, not_or] at h
    simp only [List.zip_cons_cons, bindC]
    rw [bindC_off h.2]
    split
    · rfl
    · simp [h.1]
theorem bindL_at {k : Str → Option NameKind} : ∀ {ps : List Str} {vs : List Value} {m : Str → Option Value} {i : Nat} {x : Str} {v : Value}, ps.Nodup → ps[i]? = some x → vs[i]? = some v → k x = some .local → bindL k (ps.zip vs) m x = some v
  | [], _, _, i, _, _, _, h, _, _ => by simp at h
  | p :: ps, [], _, i, _, _, _, _, h, _ => by simp at h
  | p :: ps, u :: vs, m, i, x, v, nd, h1, h2, hk => by
    simp only [List.zip_cons_cons, bindL]
    have nd' := List.nodup_cons.mp nd
    cases i with
    | zero =>
      simp at h1 h2; subst h1; subst h2
      rw [bindL_off nd'.1]
      simp [hk]
    | succ i => simp at h1 h2; exact bindL_at nd'.2 h1 h2 hk
theorem bindC_at {k : Str → Option NameKind} : ∀ {ps : List Str} {vs : List Value} {m : Str → Option Value} {i : Nat} {x : Str} {v : Value}, ps.Nodup → ps[i]? = some x → vs[i]? = some v → k x ≠ some .local → bindC k (ps.zip vs) m x = some v
  | [], _, _, i, _, _, _, h, _, _ => by simp at h
  | p :: ps, [], _, i, _, _, _, _, h, _ => by simp at h
  | p :: ps, u :: vs, m, i, x, v, nd, h1, h2, hk => by
    simp only [List.zip_cons_cons, bindC]
    have nd' := List.nodup_cons.mp nd
    cases i with
    | zero =>
      simp at h1 h2; subst h1; subst h2
      rw [bindC_off nd'.1]
      simp [hk]
    | succ i => simp at h1 h2; exact bindC_at nd'.2 h1 h2 hk

def startS : List Str → List MV → List Str → Sg
  | p :: ps, x :: xs, os => (p, some x) :: startS ps xs os
  | _, _, os => os.map fun y => (y, none)
theorem startS_names : ∀ {ps : List Str} {xs : List MV} {os : List Str}, xs.length = ps.length → names (startS ps xs os) = ps ++ os
  | [], [], os, _ => by simp [startS, names, Function.comp_def]
  | p :: ps, x :: xs, os, h => by
    simp only [List.length_cons, Nat.add_right_cancel_iff] at h
    have := startS_names (os := os) h
    simp only [names] at this ⊢
    simp only [startS, List.map_cons, this, List.cons_append]
theorem nones_at : ∀ {os : List Str} {x : Str} {v : MV}, ¬ At (os.map fun y => (y, none)) x v
  | [], _, _, a => by cases a
  | o :: os, x, v, a => by
    simp only [List.map_cons] at a
    cases a with
    | there a => exact nones_at a
theorem startS_at : ∀ {ps : List Str} {xs : List MV} {os : List Str} {x : Str} {v : MV}, At (startS ps xs os) x v → ∃ i : Nat, ps[i]? = some x ∧ xs[i]? = some v
  | p :: ps, y :: xs, os, x, v, a => by
    unfold startS at a
    cases a with
    | here => exact ⟨0, rfl, rfl⟩
    | there a => obtain ⟨i, h1, h2⟩ := startS_at a; exact ⟨i + 1, by simpa using h1, by simpa using h2⟩
  | [], xs, os, x, v, a => by
    exfalso
    unfold startS at a
    exact nones_at a
  | _ :: _, [], os, x, v, a => by
    exfalso
    unfold startS at a
    exact nones_at a

structure EnvK (env : Env) (ns cs : List Str) : Prop where
  nofree : ∀ x ∈ ns, env.kindOf x ≠ some .free
  cell : ∀ x ∈ cs, env.kindOf x = some .cell
  fr : env.frame = some env.locals
  kind : env.scope.kind = .function
inductive Caps (S : Sg) (cs : List Str) : Sg → Prop
  | nil : Caps S cs []
  | cons {y v r} : At S y v → y ∈ cs → Caps S cs r → Caps S cs ((y, some v) :: r)
theorem Caps.at {S : Sg} {cs : List Str} {caps : Sg} (c : Caps S cs caps) : ∀ y v, At caps y v → At S y v := by
  induction c with
  | nil => intro y v a; cases a
  | cons h _ _ ih =>
    intro y v a
    cases a with
    | here => exact h
    | there a => exact ih y v a
theorem Caps.names {env : Env} {S : Sg} {ns cs : List Str} {caps : Sg} (c : Caps S cs caps) (K : EnvK env ns cs) : ∀ y ∈ Mine.names caps, ∃ v, At S y v ∧ env.kindOf y ≠ some .local := by
  induction c with
  | nil => intro y h; cases h
  | @cons z v r h hm _ ih =>
    intro y hy
    rcases List.mem_cons.mp hy with rfl | hy
    · exact ⟨v, h, by rw [K.cell _ hm]; decide⟩
    · exact ih y hy

def retOf : Fl → MV
  | .ret v => v
  | _ => .none
/-- what a body must reach -/
def Ret (Q : MV → Hp → Prop) : Fl → Sg → Hp → Prop := fun fl _ H => ∃ H', H'.Sublist H ∧ Q (retOf fl) H'

section
variable {C : Cx} {A : Around} {H : Hp} {n : Nat} {Q : MV → Hp → Prop}

theorem WF.intro {f name : Str} {params : Arguments} {body : List Stmt} {scope : Scope} (g : Fn C f name params body scope) (hA : AOk C A (n + 1)) {xs : List MV} (ps os gs cs : List Str) (S : Sg)
    (hsc : (scopeOk scope (ps ++ os) gs && cs.all fun x => scope.names.lookup x == some .cell) = true) (hl : xs.length = ps.length)
    (hb : ∀ vs pm cd doc, vs.length = ps.length → bindArgs (docDef name params body scope pm cd doc) ⟨vs, []⟩ = pure (ps.zip vs)) (hS : startS ps xs os = S)
    (h : ∀ env, AOk C (A.deeper env) n → EnvK env (ps ++ os) cs → WSs C (A.deeper env) env gs S H body (Ret Q)) : WF C A H f xs Q := by
  subst hS
  obtain ⟨hsc, hcs⟩ := Bool.and_eq_true_iff.mp hsc
  obtain ⟨a, o, pm, cd, doc, h1, h2, h3, h4⟩ := g.at'
  intro a' ha' s vs I r
  rw [h1] at ha'; cases ha'
  have hlen : vs.length = ps.length := r.length.trans hl
  have hsc' := hsc
  simp only [scopeOk, Bool.and_eq_true, decide_eq_true_eq, List.all_eq_true, Bool.or_eq_true, beq_iff_eq, Bool.not_eq_true', beq_eq_false_iff_ne] at hsc'
  obtain ⟨⟨⟨⟨⟨⟨nd, hv⟩, hgs⟩, hcn⟩, hk⟩, hco⟩, hgen⟩ := hsc'
  have hnd : ps.Nodup := (List.nodup_append.mp nd).1
  have hroom : A.depth < recursionLimit := by have := hA.depth; omega
  refine wpAny_call (codeAny_call_cells (fd := docDef name params body scope pm cd doc) (binds := ps.zip vs) hroom (I.base _ _ h2) h3 (C.hlim.keeps I.base) (h4.keeps I.base) rfl (hb vs pm cd doc hlen) rfl ?_ (fun s₁ X => ?_) hco hgen hk)
  · intro x hx
    have hxp : x.1 ∈ ps ++ os := List.mem_append_left _ (List.of_mem_zip (a := x.1) (b := x.2) hx).1
    rcases (hv x.1 hxp).2 with q | q
    · exact .inl q
    · refine .inr ⟨q, ?_⟩
      have : x.1 ∈ (cellsFrom (s.heap.objs.size + 1) scope.names []).map (·.1) := by
        rw [cellsFrom_fst]
        simp only [List.map_nil, List.append_nil, List.mem_reverse]
        exact List.mem_map.mpr ⟨(x.1, .cell), List.mem_filter.mpr ⟨mem_of_lookup q, rfl⟩, rfl⟩
      obtain ⟨c, hc⟩ := mem_lookup this
      show (List.lookup x.1 (cellsFrom (s.heap.objs.size + 1) scope.names [])).isSome = true
      rw [hc]; rfl
  · generalize henv : callEnvC (docDef name params body scope pm cd doc) s.heap.objs.size a = env at X ⊢
    have eL : env.locals = s.heap.objs.size := by rw [← henv]; rfl
    have eC : env.cells = cellsFrom (s.heap.objs.size + 1) scope.names [] := by rw [← henv]; rfl
    have ok : EnvOk env (ps ++ os) gs := envOk_of hsc (L := s.heap.objs.size) (by rw [← henv]; rfl) (by rw [← henv]; rfl) (by rw [← henv]; rfl) eC eL X.apart (eL ▸ X.above)
    have hk' : ∀ x, env.kindOf x = scope.names.lookup x := fun x => by rw [← henv]; rfl
    obtain ⟨⟨h', tk, hsame⟩, hns, hkeep, hfresh⟩ := X.toInCall
    subst hsame
    have hn := startS_names (os := os) hl
    have fresh : ∀ b, s.heap.objs.size ≤ b → ¬ dom H b ∧ C.h₀.get? b = none := fun b hb => ⟨fun d => Nat.lt_irrefl _ (Nat.lt_of_lt_of_le (I.lt d) hb), by
      cases e : C.h₀.get? b with
      | none => rfl
      | some o => exact absurd (Heap.lt_size (I.base _ _ e)) (Nat.not_lt.mpr hb)⟩
    have I₁ : Inv C H { s with heap := h', toks := tk } := I.grow hkeep tk
    have tkk : TupKeep s.heap h' := .of_keeps hkeep
    have F₁ : Fm C env gs (startS ps xs os) H h' := by
      refine ⟨hn ▸ ok, ⟨_, hns, fun x v at' kl => ?_⟩, (fresh _ (Nat.le_of_eq eL.symm)).1, (fresh _ (Nat.le_of_eq eL.symm)).2, fun nm c hc => ?_⟩
      · obtain ⟨i, p1, p2⟩ := startS_at at'
        obtain ⟨u, hu, hr⟩ := r.get p2
        exact ⟨u, bindL_at hnd p1 hu kl, hr.keep tkk⟩
      · have hab : s.heap.objs.size < c := eL ▸ X.above nm c hc
        have hcl : env.cells.lookup nm = some c := by
          obtain ⟨c', hc'⟩ := mem_lookup (List.mem_map_of_mem (f := (·.1)) hc)
          rw [hc', ok.cfun nm c' c (mem_of_lookup hc') hc]
        refine ⟨_, X.cell nm c hcl, (fresh c (Nat.le_of_lt hab)).1, (fresh c (Nat.le_of_lt hab)).2, fun v at' kl => ?_⟩
        obtain ⟨i, p1, p2⟩ := startS_at at'
        obtain ⟨u, hu, hr⟩ := r.get p2
        exact ⟨u, bindC_at hnd p1 hu kl, hr.keep tkk⟩
    have nf : NoFree env (startS ps xs os) := fun x hx q => by
      rw [hn] at hx
      rw [hk'] at q
      rcases (hv x hx).2 with w | w <;> (rw [w] at q; cases q)
    have ek : EnvK env (ps ++ os) cs := ⟨fun x hx => nf x (hn ▸ hx), fun x hx => by rw [hk']; simpa using List.all_eq_true.mp hcs x hx, by rw [← henv]; rfl, by rw [← henv]; exact hk⟩
    refine wpAny_mono (h env (hA.deeper env) ek _ I₁ F₁ nf) (fun fl s' h' => ?_) noE
    obtain ⟨fl', S', H', rf, I', F', k', n', H'', hsub, q⟩ := h'
    have hkp : Kp s.heap H s'.heap H' := fun b o e nb => by
      obtain ⟨n1, o1, e1, r1⟩ := k' b o (hkeep b o e) nb
      have : ¬ Own env b := by
        rintro (w | ⟨nm, w⟩)
        · rw [w, eL] at e; exact absurd (Heap.lt_size e) (Nat.lt_irrefl _)
        · have : s.heap.objs.size < b := eL ▸ X.above nm b w
          exact absurd (Heap.lt_size e) (Nat.not_lt.mpr (Nat.le_of_lt this))
      rw [r1 this] at e1
      exact ⟨e1, n1⟩
    have fin : ∀ (u : Value), VR C.h₀ s'.heap (retOf fl') u → EP C H s Q u s' := fun u hu => ⟨retOf fl', H'', hu, I'.sub hsub, hkp.sub hsub, q⟩
    cases fl' with
    | next => have : fl = .next := rf; subst this; exact fin _ (by unfold retOf VR; rfl)
    | brk => have : fl = .brk := rf; subst this; exact fin _ (by unfold retOf VR; rfl)
    | cont => have : fl = .cont := rf; subst this; exact fin _ (by unfold retOf VR; rfl)
    | ret y => obtain ⟨u, rfl, hu⟩ := rf; exact fin _ hu
end
end Mine
namespace Mine
open PySem PySem.Calls PyProof.Rows
/-! raising while an exception is being handled -/
theorem entry_unchain : entryFor table "proto.unchain" = some Builtin.«proto.unchain» := entryFor_of_tree (by kernel_rfl)
section
variable {C : Cx} {A : Around} {s : Shared} {E : Value → Shared → Prop}
theorem mapFields_eq {o : Obj} {vs : Array Value} (hd : o.data = .fields vs) (f : Array Value → Array Value) : Obj.mapFields f o = { o with data := .fields (f vs) } := by
  obtain ⟨c, d, dt, sl⟩ := o
  cases hd
  rfl
theorem raiseNewC {α : Type} {a : Addr} {o : Obj} {vs : Array Value} {Q : α → Shared → Prop} (hh : A.handled = C.hd) (hb : ∀ e o vs, C.h₀.get? e = some o → o.data = .fields vs → vs[2]? = some .none → s.heap.get? e = some o) (ha : s.heap.get? a = some o) (hd : o.data = .fields vs) (h2 : 2 < vs.size) (hn : C.h₀.get? a = none)
    (h : ∀ h' vs', Heap.SameBut a s.heap h' → h'.get? a = some { o with data := .fields vs' } → (∀ i, i ≠ 2 → vs'[i]? = vs[i]?) → (∃ ctx, vs'[2]? = some ctx ∧ (C.hd = none → vs[2]? = some ctx)) → E (.ref a) { s with heap := h' }) : wpAny (Md C) A (raiseNew (.ref a) : Sem α) Q E s := by
  unfold raiseNew
  refine wpAny_bind (wpAny_handled ?_)
  rw [hh]
  cases hv : C.hd with
  | none =>
    refine wpAny_bind (wpAny_pure (wpAny_throw ?_))
    refine h s.heap vs (.refl ..) ?_ (fun _ _ => rfl) ⟨vs[2], by simp [h2], fun _ => by simp [h2]⟩
    rw [ha]
    obtain ⟨c, d, dt, sl⟩ := o
    cases hd
    rfl
  | some v =>
    obtain ⟨e, oe, ws, rfl, he, hde, h2e⟩ := C.hdOk v hv
    have hne : e ≠ a := fun q => by rw [q, hn] at he; cases he
    have he' := hb e oe ws he hde h2e
    show wpAny _ _ (if (Value.ref e != Value.ref a) = true then _ else _) _ _ _
    rw [if_pos (by simpa using hne)]
    refine wpAny_bind (wpAny_holding (wpAny_runValue (codeAny_builtin entry_unchain ?_)))
    unfold Builtin.«proto.unchain»
    refine wpAny_bind (wpAny_field he' hde h2e ?_)
    show wpAny _ _ (if (Value.none == Value.none) = true then _ else _) _ _ _
    rw [if_pos (by decide)]
    show wpAny _ _ (ret Value.none >>= _) _ _ _
    refine wpAny_bind (wpAny_pure (wpAny_pure ?_))
    show wpAny _ _ (updateField a 2 (.ref e) >>= _) _ _ _
    unfold updateField
    refine wpAny_bind (wpAny_bind (wpAny_load ha ?_))
    rw [hd]
    show wpAny _ _ (if 2 < vs.size then _ else _) _ _ _
    rw [if_pos h2]
    refine wpAny_update ha (wpAny_throw ?_)
    refine h _ (vs.setIfInBounds 2 (.ref e)) (.update ..) ?_ (fun i hi => Array.getElem?_setIfInBounds_ne (Ne.symm hi)) ⟨.ref e, by simp [h2], fun q => by rw [hv] at q; cases q⟩
    rw [Heap.get?_update_self _ ha (Obj.isFreed_of_fields (Obj.data_mapFields hd _)), mapFields_eq hd]
theorem stopNewC {α : Type} {Q : α → Shared → Prop} (hh : A.handled = C.hd) (hb : ∀ e o vs, C.h₀.get? e = some o → o.data = .fields vs → vs[2]? = some .none → s.heap.get? e = some o) (hf : ∀ b, s.heap.objs.size ≤ b → C.h₀.get? b = none)
    (h : ∀ h' e, (∀ b o, s.heap.get? b = some o → h'.get? b = some o) → (∃ oe, h'.get? e = some oe ∧ oe.cls = .type "StopIteration") → E (.ref e) { s with heap := h' }) : wpAny (Md C) A (newExc (.type "StopIteration") [] >>= fun e => (raiseNew e : Sem α)) Q E s := by
  refine wpAny_bind ?_
  simp only [newExc, newTuple]
  refine wpAny_bind (wpAny_newObj_type ?_ (by size_fits))
  refine wpAny_bind (m := firstArgMember _ _) (wpAny_of_eq (a := Value.none) (by first | rfl | (simp only [firstArgMember]; rfl)) ?_)
  refine wpAny_newObj_type ?_ (by size_fits)
  refine raiseNewC hh (fun e o vs e1 e2 e3 => Heap.get?_push_of_some _ (Heap.get?_push_of_some _ (hb e o vs e1 e2 e3))) (Heap.get?_push_size _ rfl) rfl (by simp [ownMembersOf]) (hf _ (by rw [Heap.size_push]; exact Nat.le_succ _)) fun h' vs' hs he _ _ => ?_
  refine h h' _ (fun b o e => ?_) ⟨_, he, rfl⟩
  rw [hs.2 b (Nat.ne_of_lt (by rw [Heap.size_push]; exact Nat.lt_succ_of_lt (Heap.lt_size e)))]
  exact Heap.get?_push_of_some _ (Heap.get?_push_of_some _ e)
theorem Inv.none_at {H : Hp} (I : Inv C H s) {b : Addr} (h : s.heap.objs.size ≤ b) : C.h₀.get? b = none := by
  cases e : C.h₀.get? b with
  | none => rfl
  | some o => exact absurd (Heap.lt_size (I.base _ _ e)) (Nat.not_lt.mpr h)
/-- the end of a walk over a list -/
theorem pyNext_list_endC {H : Hp} {it l : Addr} {i : Nat} {items : Array Value} {Q : Option Value → Shared → Prop} (hh : A.handled = C.hd) (I : Inv C H s) (hit : s.heap.IsListIter it l i) (hl : s.heap.IsList l items) (hx : items[i]? = none)
    (hQ : ∀ h', Heap.ExtBut it s.heap h' → Q none { s with heap := h' }) : wpAny (Md C) A (pyNext (.ref it)) Q E s := by
  obtain ⟨o, ho, hc, hd⟩ := id hit
  obtain ⟨ol, hol, _, nl, hdl⟩ := hl
  unfold pyNext
  refine wpAny_bind (wpAny_attempt (wpAny_callSpecial?_slot (name := Str.ofString "__next__") hit.typeIs slot_listiter_next
    (wpAny_call_entry slot_listiter_next hit.typeIs entry_listiter_next ?_ (args_listiter_next _))))
  show wpAny _ _ (field (.ref it) 0 >>= _) _ _ s
  refine wpAny_bind (wpAny_field ho hd (x := .ref l) rfl ?_)
  show wpAny _ _ (if (Value.ref l == Value.none) = true then _ else _) _ _ s
  rw [if_neg (show ¬ ((Value.ref l == Value.none) = true) from Bool.false_ne_true)]
  show wpAny _ _ (field (.ref it) 1 >>= _) _ _ s
  refine wpAny_bind (wpAny_field ho hd (x := .int i 0) rfl ?_)
  show wpAny _ _ (seqItems? (.ref l) >>= _) _ _ s
  refine wpAny_bind (wpAny_seqItems hol hdl ?_)
  simp only [Int.toNat_natCast, hx]
  refine wpAny_bind (wpAny_rule (wpAny_bind (wpAny_setField ho hd (by simp) ?_)))
  refine stopNewC (s := { s with heap := _ }) hh (fun e o' vs e1 e2 e3 => ?_) (fun b hb => I.none_at (Nat.le_trans (Nat.le_of_eq (Heap.SameBut.update ..).1.symm) hb)) fun h' e hk hs => ?_
  · have hne : e ≠ it := fun q => by
      have := I.base _ _ e1
      rw [q, ho] at this
      cases this
      rw [hd] at e2
      cases e2
      simp at e3
    rw [(Heap.SameBut.update ..).2 e hne]
    exact I.base _ _ e1
  · obtain ⟨oe, h1, h2⟩ := hs
    refine wpAny_bind (wpAny_isInstance (T := "StopIteration") (b := true) ⟨_, h1, h2⟩ isSubtype_stop ?_)
    exact wpAny_pure (hQ _ fun b o hb e => hk b o ((Heap.SameBut.update ..).extBut b o hb e))
theorem pyNext_range_endC {H : Hp} {it : Addr} {x left step : Int} {Q : Option Value → Shared → Prop} (hh : A.handled = C.hd) (I : Inv C H s) (hit : IsRangeIter s.heap it x left step) (hleft : left ≤ 0)
    (hQ : ∀ h', Heap.ExtBut it s.heap h' → Q none { s with heap := h' }) : wpAny (Md C) A (pyNext (.ref it)) Q E s := by
  have hT : s.TypeIs (.ref it) "range_iterator" := ⟨_, hit, rfl⟩
  unfold pyNext
  refine wpAny_bind (wpAny_attempt (wpAny_callSpecial?_slot (name := Str.ofString "__next__") hT F.slot_range_iterator_next
    (wpAny_call_entry F.slot_range_iterator_next hT F.entry_range_iterator_next ?_ (F.args_range_iterator_next_1 _))))
  show wpAny _ _ (field (.ref it) 0 >>= _) _ _ s
  refine wpAny_bind (wpAny_field hit rfl (x := rawInt x) rfl ?_)
  show wpAny _ _ (field (.ref it) 1 >>= _) _ _ s
  refine wpAny_bind (wpAny_field hit rfl (x := rawInt left) rfl ?_)
  show wpAny _ _ (field (.ref it) 2 >>= _) _ _ s
  refine wpAny_bind (wpAny_field hit rfl (x := rawInt step) rfl ?_)
  show wpAny _ _ (if left ≤ 0 then _ else _) _ _ s
  rw [if_pos hleft]
  refine wpAny_bind (wpAny_rule ?_)
  refine wpAny_bind ?_
  refine stopNewC hh (fun e o vs e1 _ _ => I.base _ _ e1) (fun b hb => I.none_at hb) fun h' e hk hs => ?_
  obtain ⟨oe, h1, h2⟩ := hs
  refine wpAny_bind (wpAny_isInstance (T := "StopIteration") (b := true) ⟨_, h1, h2⟩ isSubtype_stop ?_)
  exact wpAny_pure (hQ _ fun b o _ e => hk b o e)
end
end Mine
namespace Mine
open PySem PySem.Calls PyProof.Rows

section
variable {C : Cx} {A : Around} {env : Env} {gs : List Str} {S : Sg} {H : Hp} {n : Nat}

theorem go_other {M : Model} {A : Around} {E : Value → Shared → Prop} {s : Shared} {target : Expr} {it : Addr} {v : Value} {o : Obj} {T : String} {Q : Unit → Shared → Prop} (ho : s.heap.get? it = some o) (hc : o.cls = .type T)
    (hT : (["enumerate", "zip", "dict_itemiterator", "dict_reverseitemiterator", "odict_iterator", "itertools.zip_longest", "itertools.pairwise"] : List String).contains T = false) (h : Q () s) :
    wpAny M A (letOwnedTupleGo target (.ref it) v) Q E s := by
  have key : wpAny M A (do
      let (.ref r, .ref a) := (Value.ref it, v) | return
      let o ← load r
      match o.cls, o.data with
      | .type n, .fields vs =>
        if ["enumerate", "zip", "dict_itemiterator", "dict_reverseitemiterator", "odict_iterator", "itertools.zip_longest", "itertools.pairwise"].contains n && vs[0]? == some (rawInt a) then
          rule "for.unpacks-the-owned-tuple"
          updateField r 0 .none
      | _, _ => pure ()) Q E s := by
    cases v with
    | ref a =>
      refine wpAny_bind (wpAny_load ho ?_)
      rw [hc]
      cases o.data with
      | fields vs =>
        simp only [hT, Bool.false_and, Bool.false_eq_true, if_false]
        exact wpAny_pure h
      | _ => exact wpAny_pure h
    | _ => exact wpAny_pure h
  unfold letOwnedTupleGo
  cases target with
  | Tuple => exact key
  | List => exact key
  | _ => exact wpAny_pure h

def ItOf (C : Cx) (A : Around) (H : Hp) (target : Expr) (x : MV) (K : List MV → (Hp → Prop) → Hp → Prop) : Prop :=
  ∀ s v, Inv C H s → VR C.h₀ s.heap x v → wpAny (Md C) A (pyIter v) (fun w s₂ =>
    ∃ it wr xs Ok St Mid H₂, w = .ref it ∧ Itr C A it wr target xs Ok St Mid ∧ St 0 s₂.heap ∧ Inv C H₂ s₂ ∧ Kp s.heap H s₂.heap H₂ ∧ (∀ b ∈ wr, (∀ o, s.heap.get? b = some o → dom H b) ∧ ¬ dom H₂ b) ∧ K xs Ok H₂) NoE s
theorem WI.of {iter target : Expr} {K : List MV → (Hp → Prop) → Hp → Prop} (h : WE C A env gs S H iter fun x H₁ => ItOf C A H₁ target x K) : WI C A env gs S H iter target K := by
  intro s I F
  refine wpAny_mono (h s I F) (fun v s₁ h₁ => ?_) noE
  first | (refine EP.elim h₁ fun x H₁ r₁ I₁ k₁ q₁ => ?_; clear h₁) | (refine LP.elim h₁ fun x H₁ r₁ I₁ k₁ q₁ => ?_; clear h₁) | obtain ⟨x, H₁, r₁, I₁, k₁, q₁⟩ := h₁
  refine wpAny_mono (q₁ s₁ v I₁ r₁) (fun w s₂ h₂ => ?_) noE
  first | (refine EP.elim h₂ fun it wr xs Ok St hq => ?_; clear h₂) | (refine LP.elim h₂ fun it wr xs Ok St hq => ?_; clear h₂) | obtain ⟨it, wr, xs, Ok, St, hq⟩ := h₂
  obtain ⟨Mid, H₂, e, W, hst, I₂, k₂, hw, q₂⟩ := hq
  refine ⟨it, wr, xs, Ok, St, Mid, H₂, e, W, hst, I₂, k₁.trans k₂, fun b hb => ⟨fun o eb => ?_, (hw b hb).2⟩, q₂⟩
  by_cases d : dom H b
  · exact d
  · have := k₁ b o eb d
    exact absurd ((hw b hb).1 o this.1) this.2

theorem Ext.of_extBut {a : Addr} {h h' : Heap} (e : Heap.ExtBut a h h') : Ext [a] h h' := fun b o n e' => e b o (fun q => n (by simp [q])) e'

theorem ItOf.list {target : Expr} {a : Addr} {xs : List MV} {K : List MV → (Hp → Prop) → Hp → Prop} (hA : AOk C A n) (hm : (a, MO.list xs) ∈ H) (q : K xs (fun H => (a, MO.list xs) ∈ H) H) : ItOf C A H target (.ref a) K := by
  intro s v I r
  unfold VR at r; subst r
  obtain ⟨vs, m, ho, hr⟩ := I.objs _ hm
  have hl : s.heap.IsList a vs.toArray := ⟨_, ho, rfl, m, rfl⟩
  have hk : ∀ b o, s.heap.get? b = some o → (s.heap.push { cls := .type "list_iterator", data := .fields #[.ref a, .int 0 0] }).get? b = some o := fun b o e => Heap.get?_push_of_some _ e
  refine wpAny_pyIter_list hl ⟨s.heap.objs.size, [s.heap.objs.size], xs, _, fun i h => h.IsListIter s.heap.objs.size a i, fun i _ h => h.IsListIter s.heap.objs.size a (i + 1), H, rfl, ?_, ⟨_, Heap.get?_push_size _ rfl, rfl, rfl⟩, I.grow hk s.toks, Kp.of_keeps hk, ?_, q⟩
  · refine ⟨fun i h h' st _ hk => ?_, fun i h st b hb => ?_, fun i x H' s' Q hx I' hok st hQ => ?_, fun i x v s' Q hx hv st hQ => ?_, fun H' s' Q I' hok st hQ => ?_, ?plain, fun i s' Q st hQ => ?_⟩
    · obtain ⟨o, e, r⟩ := st; exact ⟨o, hk _ (by simp) _ e, r⟩
    · have hb : b = s.heap.objs.size := by simpa using hb
      subst hb
      rcases st with ⟨o, e, c, d⟩ | ⟨_, o, e, c, d⟩ <;> exact ⟨o, e, by simp [Imm, c]⟩
    · obtain ⟨vs', m', ho', hr'⟩ := I'.objs _ hok
      obtain ⟨v, hv, rv⟩ := hr'.get hx
      refine wpAny_pyNext_list_item st ⟨_, ho', rfl, m', rfl⟩ (x := v) (by simpa using hv) fun h' st' hs' => ?_
      exact hQ v h' s'.toks (rv.ext (Ext.of_extBut hs'.extBut) (fun b hb o e => by
        have hb : b = s.heap.objs.size := by simpa using hb
        subst hb
        obtain ⟨o', e', c, d⟩ := st
        rw [e] at e'; cases e'; simp [Imm, c])) st' (Ext.of_extBut hs'.extBut)
    · obtain ⟨o, e, c, d⟩ := id st
      exact go_other e c (by decide +kernel) (hQ s'.heap s'.toks st fun _ _ _ e => e)
    · obtain ⟨vs', m', ho', hr'⟩ := I'.objs _ hok
      refine pyNext_list_endC hA.handled I' st ⟨_, ho', rfl, m', rfl⟩ ?_ fun h' hx => hQ h' s'.toks (Ext.of_extBut hx)
      simp [hr'.length]
    case plain => exact fun _ _ _ _ _ _ st => st
    · exact wpAny_pyIter_listiter st hQ
  · intro b hb
    have hb : b = s.heap.objs.size := by simpa using hb
    subst hb
    exact ⟨fun o e => absurd (Heap.lt_size e) (Nat.lt_irrefl _), I.fresh⟩

def rangeL (lo hi : Int) : List MV := (List.range (hi - lo).toNat).map fun (k : Nat) => MV.int (lo + (k : Int))
theorem rangeL_length (lo hi : Int) : (rangeL lo hi).length = (hi - lo).toNat := by simp [rangeL]
theorem rangeL_get {lo hi : Int} {i : Nat} {x : MV} (h : (rangeL lo hi)[i]? = some x) : x = .int (lo + (i : Int)) ∧ lo + (i : Int) < hi := by
  have hlt : i < (hi - lo).toNat := by
    rcases Nat.lt_or_ge i (hi - lo).toNat with h' | h'
    · exact h'
    · rw [List.getElem?_eq_none (by rw [rangeL_length]; exact h')] at h; cases h
  refine ⟨?_, by omega⟩
  simp [rangeL, hlt] at h
  exact h.symm

theorem ItOf.range {target : Expr} {lo hi : Int} {K : List MV → (Hp → Prop) → Hp → Prop} (hA : AOk C A n) (h1 : -(2 ^ 62) ≤ lo) (h2 : lo < 2 ^ 62) (h3 : -(2 ^ 62) ≤ hi) (h4 : hi < 2 ^ 62) (q : K (rangeL lo hi) (fun _ => True) H) : ItOf C A H target (.rng lo hi) K := by
  intro s v I r
  unfold VR at r
  obtain ⟨a, t, u, w, rfl, hl⟩ := r
  have hk : ∀ b o, s.heap.get? b = some o → (s.heap.push { cls := .type "range_iterator", data := .fields #[rawInt lo, rawInt (Builtin.Range.rangeSize lo hi 1), rawInt 1] }).get? b = some o := fun b o e => Heap.get?_push_of_some _ e
  have hsz : Builtin.Range.rangeSize lo hi 1 = (((hi - lo).toNat : Nat) : Int) := by
    unfold Builtin.Range.rangeSize
    simp only [show (1 : Int) > 0 from by decide, if_true]
    split
    · rw [Int.ediv_one]; omega
    · omega
  refine wpAny_pyIter_range hl (small_one h1 h2 h3 h4) ⟨s.heap.objs.size, [s.heap.objs.size], rangeL lo hi, _, fun i h => IsRangeIter h s.heap.objs.size (lo + (i : Nat) * 1) (((hi - lo).toNat : Int) - (i : Nat)) 1, fun i _ h => IsRangeIter h s.heap.objs.size (lo + ((i + 1 : Nat) : Nat) * 1) (((hi - lo).toNat : Int) - ((i + 1 : Nat) : Nat)) 1, H, rfl, ?_, ?_, I.grow hk s.toks, Kp.of_keeps hk, ?_, q⟩
  · refine ⟨fun i h h' st _ hk => hk _ (by simp) _ st, fun i h st b hb => ?_, fun i x H' s' Q hx I' hok st hQ => ?_, fun i x v s' Q hx hv st hQ => ?_, fun H' s' Q I' hok st hQ => ?_, ?plain, fun i s' Q st hQ => ?_⟩
    · have hb : b = s.heap.objs.size := by simpa using hb
      subst hb
      rcases st with e | ⟨_, e⟩ <;> exact ⟨_, e, by simp [Imm]⟩
    · obtain ⟨rfl, hlt⟩ := rangeL_get hx
      refine wpAny_pyNext_range_item st (by omega) fun h' hit' hs' => ?_
      refine hQ _ h' _ (by unfold VR; exact ⟨_, by rw [show lo + (i : Int) * 1 = lo + (i : Int) from by omega]⟩) ?_ fun b o hb e => hs'.extBut b o (fun h => hb (by simp [h])) e
      have e1 : lo + ((i + 1 : Nat) : Int) * 1 = lo + (i : Int) * 1 + 1 := by omega
      have e2 : (((hi - lo).toNat : Nat) : Int) - ((i + 1 : Nat) : Int) = (((hi - lo).toNat : Nat) : Int) - (i : Int) - 1 := by omega
      rw [e1, e2]; exact hit'
    · exact go_other (T := "range_iterator") st rfl (by decide +kernel) (hQ s'.heap s'.toks st fun _ _ _ e => e)
    · rw [rangeL_length] at st
      exact pyNext_range_endC hA.handled I' st (by omega) fun h' he' => hQ h' s'.toks fun b o hb e => he' b o (fun h => hb (by simp [h])) e
    case plain => exact fun _ _ _ _ _ _ st => st
    · exact wpAny_pyIter_rangeiter st hQ
  · show IsRangeIter _ _ _ _ _
    rw [hsz]
    simpa using Heap.get?_push_size _ rfl
  · intro b hb
    have hb : b = s.heap.objs.size := by simpa using hb
    subst hb
    exact ⟨fun o e => absurd (Heap.lt_size e) (Nat.lt_irrefl _), I.fresh⟩

end
end Mine
namespace Mine
open PySem PySem.Calls PyProof.Rows

inductive Upd : Hp → Addr → MO → Hp → Prop
  | here {a o r o'} : Upd ((a, o) :: r) a o' ((a, o') :: r)
  | there {p r a o' r'} : Upd r a o' r' → Upd (p :: r) a o' (p :: r')
theorem Upd.fst {H H' : Hp} {a : Addr} {o : MO} (u : Upd H a o H') : H'.map (·.1) = H.map (·.1) := by
  induction u with
  | here => rfl
  | there _ ih => simp only [List.map_cons, ih]
theorem Upd.mem {H H' : Hp} {a : Addr} {o : MO} (u : Upd H a o H') : a ∈ H.map (·.1) := by
  induction u with
  | here => exact List.mem_cons_self
  | there _ ih => exact List.mem_cons_of_mem _ ih
theorem Upd.inv {H H' : Hp} {a : Addr} {o : MO} (u : Upd H a o H') (nd : (H.map (·.1)).Nodup) : ∀ p ∈ H', p = (a, o) ∨ (p ∈ H ∧ p.1 ≠ a) := by
  induction u with
  | @here a o r o' =>
    intro p hp
    have hn := (List.nodup_cons.mp nd).1
    rcases List.mem_cons.mp hp with rfl | hp
    · exact .inl rfl
    · refine .inr ⟨List.mem_cons_of_mem _ hp, fun q => hn ?_⟩
      have := List.mem_map_of_mem (f := (·.1)) hp
      rw [q] at this; exact this
  | @there q r a o' r' u' ih =>
    intro p hp
    have hn := List.nodup_cons.mp nd
    rcases List.mem_cons.mp hp with rfl | hp
    · refine .inr ⟨List.mem_cons_self, fun e => hn.1 ?_⟩
      have := u'.mem
      rw [← e] at this; exact this
    · rcases ih hn.2 p hp with h | h
      · exact .inl h
      · exact .inr ⟨List.mem_cons_of_mem _ h.1, h.2⟩
section
variable {C : Cx} {A : Around} {env : Env} {gs : List Str} {S : Sg} {H : Hp} {n : Nat} {Q : MV → Hp → Prop}

theorem Inv.upd {s : Shared} {h' : Heap} {a : Addr} {m mo : MO} {H' : Hp} (I : Inv C H s) (hm : (a, m) ∈ H) (u : Upd H a mo H') (hx : Heap.ExtBut a s.heap h') (hor : OR C.h₀ h' a mo) (t : Nat) :
    Inv C H' { s with heap := h', toks := t } ∧ Kp s.heap H h' H' := by
  have hd : dom H a := List.mem_map_of_mem (f := (·.1)) hm
  have tk : TupKeep s.heap h' := fun b o e hi => hx b o (fun q => I.noTup (q ▸ e) hi (q ▸ hd)) e
  have hdom : ∀ b, dom H' b ↔ dom H b := fun b => by unfold dom; rw [u.fst]
  refine ⟨⟨fun b o e => hx b o (fun q => ?_) (I.base b o e), fun p hp => ?_, fun p hp => ?_, u.fst ▸ I.nodup, I.gens, I.os⟩, fun b o e nb => ⟨hx b o (fun q => nb (q ▸ hd)) e, fun d => nb ((hdom b).mp d)⟩⟩
  · have := I.new _ hm
    rw [q] at e; rw [e] at this; cases this
  · rcases u.inv I.nodup p hp with rfl | ⟨h1, h2⟩
    · exact hor
    · exact (I.objs p h1).keep tk fun ob e => hx _ _ h2 e
  · rcases u.inv I.nodup p hp with rfl | ⟨h1, h2⟩
    · have := I.new _ hm; exact this
    · exact I.new p h1

/-! methods of lists -/
theorem WE.meth1 {o e : Expr} {name : Str} {id : String} {apos pos : Pos} {rest : List Expr} (slot : Slot "list" name id) (hty : typeOf (.builtin id) = pure (.type "method_descriptor"))
    (h : WE C A env gs S H o fun x H₁ => ∃ a xs, x = .ref a ∧ (a, MO.list xs) ∈ H₁ ∧ WEs C A env gs S H₁ (e :: rest) fun ys H₂ => WC C A H₂ (.builtin id) (.ref a :: ys) Q)
    (hbase : attributeBase o name env (eval o env) = eval o env := by with_unfolding_all rfl) (he : starEach (e :: rest) env = (false, eval e env) :: starEach rest env := by with_unfolding_all rfl) (hplain : (backTo pos (starEach rest env)).any (·.1) = false := by with_unfolding_all rfl)
    (hfew : ((backTo pos (starEach (e :: rest) env)).all (fun x => !x.1) && (backToKw pos (keywordEach [] env)).all (fun x => x.1.isSome)
      && decide ((e :: rest).length + ([] : List Keyword).length + (if ([] : List Keyword).isEmpty then 0 else 1) < 30)) = true := by with_unfolding_all rfl) (hline : (apos.endLine == pos.line) = true := by with_unfolding_all rfl) :
    WE C A env gs S H (.Call (.Attribute o name apos) (e :: rest) [] pos) Q := by
  intro s I F
  refine wpAny_Call_method_lateS hbase hfew hline (wpAny_mono (h s I F) (fun v s₁ h₁ => ?_) noE)
  first | (refine EP.elim h₁ fun x H₁ r₁ I₁ k₁ hq => ?_; clear h₁) | (refine LP.elim h₁ fun x H₁ r₁ I₁ k₁ hq => ?_; clear h₁) | obtain ⟨x, H₁, r₁, I₁, k₁, hq⟩ := h₁
  obtain ⟨a, xs, rfl, hm, h₁⟩ := hq
  unfold VR at r₁; subst r₁
  obtain ⟨vs, m, ho, hr⟩ := I₁.objs _ hm
  refine ⟨"list", id, PySem.F.plainAttrs_list, slot, hty, ⟨_, ho, rfl⟩, fun b q => ?_, ?_⟩
  · cases q; exact ⟨_, ho, rfl⟩
  have hh := h₁ s₁ pos I₁ (F.keep I k₁)
  rw [he] at hh ⊢
  refine callWith_builtin (by show (false || (backTo pos (starEach rest env)).any (·.1)) = false; rw [hplain]; rfl) (evalArgs_plain (wpAny_mono hh (fun us s₂ h₂ => ?_) noE))
  first | (refine EP.elim h₂ fun ys H₂ r₂ I₂ k₂ q₂ => ?_; clear h₂) | (refine LP.elim h₂ fun ys H₂ r₂ I₂ k₂ q₂ => ?_; clear h₂) | obtain ⟨ys, H₂, r₂, I₂, k₂, q₂⟩ := h₂
  exact wpAny_mono (q₂ s₂ (.ref a :: us) I₂ (.cons (by unfold VR; rfl) r₂)) (fun _ _ h => h.from (k₁.trans k₂)) noE
theorem WC.append {a : Addr} {xs : List MV} {x : MV} {H' : Hp} (hm : (a, MO.list xs) ∈ H) (u : Upd H a (.list (xs ++ [x])) H') (hsz : xs.length ≤ sizeLine) (q : Q .none H') : WC C A H (.builtin "list.append") [.ref a, x] Q := .of2 fun s v w I r₁ r₂ => by
  unfold VR at r₁; subst r₁
  obtain ⟨vs, m, ho, hr⟩ := I.objs _ hm
  refine wpAny_list_append_plain (items := vs.toArray) ⟨m, ho⟩ (fun h' hl hs => ?_) (by rw [List.size_toArray, hr.length]; exact hsz)
  obtain ⟨m', hl⟩ := hl
  have tk : TupKeep s.heap h' := fun b o e hi => hs.extBut b o (fun q => I.noTup e hi (by rw [q]; exact List.mem_map_of_mem (f := (·.1)) hm)) e
  obtain ⟨I', k⟩ := I.upd hm u hs.extBut ⟨vs ++ [w], m', by rw [hl]; simp, (hr.append (.one r₂)).keep tk⟩ s.toks
  exact ⟨_, H', by unfold VR; rfl, I', k, q⟩
/-- xs.append(e) as a statement's expression -/
theorem WE.append {o e : Expr} {apos pos : Pos} (h : WE C A env gs S H o fun x H₁ => ∃ a xs, x = .ref a ∧ (a, MO.list xs) ∈ H₁ ∧ WE C A env gs S H₁ e fun y H₂ => ∃ ys H₃, (a, MO.list ys) ∈ H₂ ∧ Upd H₂ a (.list (ys ++ [y])) H₃ ∧ ys.length ≤ sizeLine ∧ Q .none H₃)
    (hbase : attributeBase o ("append" : Str) env (eval o env) = eval o env := by with_unfolding_all rfl) (he : starEach [e] env = [(false, eval e env)] := by with_unfolding_all rfl)
    (hline : (apos.endLine == pos.line) = true := by with_unfolding_all rfl) :
    WE C A env gs S H (.Call (.Attribute o "append" apos) [e] [] pos) Q := by
  refine WE.meth1 (id := "list.append") slot_list_append PySem.F.type_list_append (h.mono fun x H₁ h₁ => ?_) hbase he (by rfl) (by rw [he]; rfl) hline
  obtain ⟨a, xs, rfl, hm, h₂⟩ := h₁
  refine ⟨a, xs, rfl, hm, WEs.cons (h₂.mono fun y H₂ h₃ => WEs.nil ?_) he⟩
  first | (refine EP.elim h₃ fun ys H₃ h4 h5 h6 h7 => ?_; clear h₃) | (refine LP.elim h₃ fun ys H₃ h4 h5 h6 h7 => ?_; clear h₃) | obtain ⟨ys, H₃, h4, h5, h6, h7⟩ := h₃
  exact WC.append h4 h5 h6 h7
end
end Mine
namespace Mine
open PySem PySem.Calls PyProof.Rows

def compOk (sc : Scope) (x : Str) (ys gs : List Str) : Bool :=
  sc.kind == .function && sc.names.lookup x == some .local && decide (x :: ys).Nodup && (x :: ys).all (fun y => !(y == ("__debug__" : Str))) && ys.all (fun y => sc.names.lookup y == some .free) &&
  gs.all (fun g => sc.names.lookup g == some .globalImplicit) && sc.names.all (fun p => p.2 != .cell) && sc.names.all (fun p => p.2 != .local || sc.names.lookup p.1 == some .local) &&
  sc.names.all (fun p => p.2 != .free || ys.contains p.1) && decide ((sc.names.filter (fun p => p.2 == .free)).map (·.1)).Nodup

def clOf (cells : List (Str × Addr)) : List (Str × NameKind) → List (Str × Addr) → List (Str × Addr)
  | [], acc => acc
  | (n, k) :: r, acc => if k == .free then clOf cells r ((n, (cells.lookup n).getD 0) :: acc) else clOf cells r acc
theorem clOf_fst (cells : List (Str × Addr)) : ∀ (names : List (Str × NameKind)) (acc : List (Str × Addr)), (clOf cells names acc).map (·.1) = ((names.filter (fun p => p.2 == .free)).map (·.1)).reverse ++ acc.map (·.1)
  | [], _ => by simp [clOf]
  | (x, k) :: r, acc => by
    unfold clOf
    by_cases hk : (k == .free) = true
    · rw [if_pos hk, clOf_fst cells r]
      simp [hk]
    · rw [if_neg hk, clOf_fst cells r]
      simp [hk]
theorem clOf_mem (cells : List (Str × Addr)) : ∀ (names : List (Str × NameKind)) (acc : List (Str × Addr)), (∀ p ∈ names, p.2 = .free → ∃ c, cells.lookup p.1 = some c) → (∀ p ∈ acc, p ∈ cells) → ∀ p ∈ clOf cells names acc, p ∈ cells
  | [], _, _, h, p, hp => h p hp
  | (x, k) :: r, acc, h1, h2, p, hp => by
    unfold clOf at hp
    split at hp
    · rename_i hk
      refine clOf_mem cells r _ (fun q hq => h1 q (List.mem_cons_of_mem _ hq)) (fun q hq => ?_) p hp
      rcases List.mem_cons.mp hq with rfl | hq
      · obtain ⟨c, hc⟩ := h1 (x, k) List.mem_cons_self (by simpa using hk)
        have hc' : cells.lookup x = some c := hc
        rw [hc']; exact mem_of_lookup hc'
      · exact h2 q hq
    · exact clOf_mem cells r acc (fun q hq => h1 q (List.mem_cons_of_mem _ hq)) h2 p hp
theorem closure_is {env : Env} : ∀ (names : List (Str × NameKind)) (acc : List (Str × Addr)) (f : Str × NameKind → List (Str × Addr) → Sem (ForInStep (List (Str × Addr)))),
    (∀ n k cs, f (n, k) cs = if k == .free then (do let a ← cellOf env n; pure (.yield ((n, a) :: cs))) else pure (.yield cs)) → (∀ p ∈ names, p.2 = .free → ∃ c, env.cells.lookup p.1 = some c) →
    forIn names acc f = pure (clOf env.cells names acc)
  | [], acc, f, _, _ => by simp [clOf]
  | (n, k) :: r, acc, f, hf, h => by
    have ih := fun acc' => closure_is r acc' f hf fun p hp => h p (List.mem_cons_of_mem _ hp)
    rw [List.forIn_cons, hf]
    by_cases hk : (k == .free) = true
    · obtain ⟨c, hc⟩ := h (n, k) List.mem_cons_self (by simpa using hk)
      have hc' : env.cells.lookup n = some c := hc
      rw [if_pos hk]
      have : cellOf env n = pure c := by unfold cellOf; rw [hc']
      rw [this]
      show forIn r ((n, c) :: acc) f = _
      rw [ih]
      simp only [clOf, hk, if_true, hc', Option.getD_some]
    · rw [if_neg hk]
      show forIn r acc f = _
      rw [ih]
      simp only [clOf, hk]
      rfl
theorem closureFor_is {env : Env} {scope : Scope} (h : ∀ p ∈ scope.names, p.2 = .free → ∃ c, env.cells.lookup p.1 = some c) : closureFor scope env = pure (clOf env.cells scope.names []) := by
  unfold closureFor
  have := closure_is scope.names [] (fun (x : Str × NameKind) cs => if x.2 == .free then (do let a ← cellOf env x.1; pure (.yield ((x.1, a) :: cs))) else pure (.yield cs)) (fun n k cs => rfl) h
  refine Eq.trans (congrArg (fun t => t >>= fun r => pure r) ?_) (congrArg (fun t => t >>= fun r => pure r) this)
  congr 1

theorem lookup_relabel {env : Env} : ∀ {names : List (Str × NameKind)} {x : Str},
    (names.map fun (n, k) => if (k == NameKind.free && env.scope.kind == .function && env.kindOf n == some .cell) then (n, NameKind.cell) else (n, k)).lookup x =
      (names.lookup x).map fun k => if (k == NameKind.free && env.scope.kind == .function && env.kindOf x == some .cell) then .cell else k
  | [], _ => rfl
  | (n, k) :: r, x => by
    have ih := @lookup_relabel env r x
    show List.lookup x ((if (k == NameKind.free && env.scope.kind == .function && env.kindOf n == some .cell) = true then (n, NameKind.cell) else (n, k)) :: _) = _
    cases hx : x == n with
    | true =>
      obtain rfl := beq_iff_eq.mp hx
      by_cases hc : (k == NameKind.free && env.scope.kind == .function && env.kindOf x == some .cell) = true
      · rw [if_pos hc]; simp only [List.lookup_cons, beq_self_eq_true, Option.map_some]; rw [if_pos hc]
      · rw [if_neg hc]; simp only [List.lookup_cons, beq_self_eq_true, Option.map_some]; rw [if_neg hc]
    | false =>
      by_cases hc : (k == NameKind.free && env.scope.kind == .function && env.kindOf n == some .cell) = true
      · rw [if_pos hc]; simp only [List.lookup_cons, hx]; exact ih
      · rw [if_neg hc]; simp only [List.lookup_cons, hx]; exact ih

/-- tests of a comprehension: none or one -/
def CT (C : Cx) (A : Around) (env : Env) (gs : List Str) (S : Sg) (H : Hp) (ifs : List Expr) (K : Bool → Hp → Prop) : Prop :=
  match ifs with
  | [] => K true H
  | [c] => WT C A env gs S H c K
  | _ => False

section
variable {C : Cx} {A : Around} {env : Env} {gs gsc : List Str} {S : Sg} {H : Hp} {n : Nat}

theorem compEnv_ok {s : Shared} {scope : Scope} {x : Str} {caps : Sg} (F : Fm C env gs S H s.heap) (nf : NoFree env S) (hc : compOk scope x (names caps) gsc = true) (hcap : ∀ y ∈ names caps, ∃ v, At S y v ∧ env.kindOf y ≠ some .local)
    {L : Addr} (hL : s.heap.objs.size ≤ L) : (∀ p ∈ scope.names, p.2 = .free → ∃ c, env.cells.lookup p.1 = some c) ∧ EnvOk (compEnvC scope (clOf env.cells scope.names []) L env) (x :: names caps) gsc ∧ ∀ p ∈ clOf env.cells scope.names [], p ∈ env.cells := by
  simp only [compOk, Bool.and_eq_true, decide_eq_true_eq, List.all_eq_true, Bool.or_eq_true, beq_iff_eq, Bool.not_eq_true', bne_iff_ne, ne_eq] at hc
  obtain ⟨⟨⟨⟨⟨⟨⟨⟨⟨h1, h2⟩, h3⟩, h4⟩, h5⟩, h6⟩, h7⟩, h8⟩, h9⟩, h10⟩ := hc
  have kc : ∀ y ∈ names caps, env.kindOf y = some .cell ∧ ∃ c, env.cells.lookup y = some c := fun y hy => by
    obtain ⟨v, a, hk⟩ := hcap y hy
    rcases F.ok.vars y a.mem with h | ⟨h | h, c⟩
    · exact absurd h hk
    · exact ⟨h, c⟩
    · exact absurd h.1 (nf y a.mem)
  have hcl : ∀ p ∈ scope.names, p.2 = .free → ∃ c, env.cells.lookup p.1 = some c := fun p hp hf => by
    rcases h9 p hp with h | h
    · exact absurd hf h
    · exact (kc p.1 (by simpa using h)).2
  have hmem := clOf_mem env.cells scope.names [] hcl (by simp)
  have hfst := clOf_fst env.cells scope.names []
  refine ⟨hcl, ⟨h1, F.ok.glob, F.ok.blt, h3, fun y hy => by simpa using h4 y hy, fun y hy => ?_, fun y hy => ?_, ?_, fun nm c c' a b => ?_, fun nm c a => ?_⟩, hmem⟩
  · show (relabel scope env).names.lookup y = _ ∨ (((relabel scope env).names.lookup y = _ ∨ _) ∧ _)
    unfold relabel
    rw [lookup_relabel]
    rcases List.mem_cons.mp hy with rfl | hy
    · exact .inl (by rw [h2]; rfl)
    · refine .inr ⟨.inl ?_, ?_⟩
      · rw [h5 y hy]
        simp [F.ok.kind, (kc y hy).1]
      · refine mem_lookup ?_
        rw [show (compEnvC scope (clOf env.cells scope.names []) L env).cells = clOf env.cells scope.names [] from rfl, hfst]
        simp only [List.map_nil, List.append_nil, List.mem_reverse]
        exact List.mem_map.mpr ⟨(y, .free), List.mem_filter.mpr ⟨mem_of_lookup (h5 y hy), rfl⟩, rfl⟩
  · show (relabel scope env).names.lookup y = _
    unfold relabel
    rw [lookup_relabel, h6 y hy]
    rfl
  · have nd : ((clOf env.cells scope.names []).map (·.1)).Nodup := by
      rw [hfst, List.map_nil, List.append_nil]
      exact ((List.reverse_perm _).nodup_iff).mpr h10
    show (clOf env.cells scope.names []).Pairwise _
    refine List.Pairwise.imp_of_mem (R := fun a b => a.1 ≠ b.1) (fun {a b} ha hb hab q => hab ?_) (List.pairwise_map.mp nd)
    have hb' := hmem b hb
    rw [show b = (b.1, b.2) from rfl, ← q] at hb'
    exact name_of_addr F.ok.apart (hmem a ha) hb'
  · exact F.ok.cfun nm c c' (hmem _ a) (hmem _ b)
  · obtain ⟨vo, ⟨o, ho, _⟩, _⟩ := F.cell nm c (hmem _ a)
    exact Ne.symm (Nat.ne_of_lt (Nat.lt_of_lt_of_le (Heap.lt_size ho) hL))

def compKK (wr : List Addr) (h₂ : Heap) (H₂ : Hp) (h' : Heap) (H' : Hp) : Prop := ∀ b o, h₂.get? b = some o → ¬ dom H₂ b → b ∉ wr → h'.get? b = some o ∧ ¬ dom H' b

theorem Fm.keepW {h h' : Heap} {H' : Hp} (F : Fm C env gs S H h) (tk : TupKeep h h') (k : ∀ b o, Own env b → h.get? b = some o → ¬ dom H b → h'.get? b = some o ∧ ¬ dom H' b) : Fm C env gs S H' h' := by
  obtain ⟨ok, ⟨mr, hn, hv⟩, nl, nl0, hc⟩ := F
  obtain ⟨oL, es, ep, hL, r⟩ := hn
  refine ⟨ok, ⟨mr, ⟨oL, es, ep, (k _ _ (.inl rfl) hL nl).1, r⟩, fun x v a e => ?_⟩, (k _ _ (.inl rfl) hL nl).2, nl0, fun n c e => ?_⟩
  · obtain ⟨u, h1, h2⟩ := hv x v a e; exact ⟨u, h1, h2.keep tk⟩
  · obtain ⟨vo, ⟨oc, ho, hd⟩, nd, n0, hv⟩ := hc n c e
    refine ⟨vo, ⟨oc, (k _ _ (.inr ⟨n, e⟩) ho nd).1, hd⟩, (k _ _ (.inr ⟨n, e⟩) ho nd).2, n0, fun v a e => ?_⟩
    obtain ⟨u, h1, h2⟩ := hv v a e; exact ⟨u, h1, h2.keep tk⟩

set_option maxHeartbeats 1000000 in
theorem comp_main {s : Shared} {elt iter : Expr} {x : Str} {px pos p0 : Pos} {ifs : List Expr} {scope : Scope} {use : Option (Value → Sem Unit)} {Q : Value → Shared → Prop} (caps : Sg)
    (I : Inv C H s) (F : Fm C env gs S H s.heap) (nf : NoFree env S)
    (hc : compOk scope x (names caps) gsc = true) (hcap : ∀ y v, At caps y v → At S y v) (hcapn : ∀ y ∈ names caps, ∃ v, At S y v ∧ env.kindOf y ≠ some .local)
    (h : WI C A env gs S H iter (.Name x px) fun xs Ok H₁ => xs.length ≤ sizeLine ∧ ∃ J : Nat → List MV → Hp → Prop, J 0 [] H₁ ∧ (∀ i ys H, J i ys H → Ok H ∧ ys.length ≤ i) ∧
      (∀ i v ys H cenv, xs[i]? = some v → J i ys H → CT C A cenv gsc ((x, some v) :: caps) H ifs fun b H₂ => if b = true then WE C A cenv gsc ((x, some v) :: caps) H₂ elt fun y H₃ => J (i + 1) (ys ++ [y]) H₃ else J (i + 1) ys H₂) ∧
      (∀ D L ys H' s', J xs.length ys H' → ¬ dom H' D → ¬ dom ((D, MO.list ys) :: H') L → Inv C ((D, .list ys) :: H') s' → Fm C env gs S ((D, .list ys) :: H') s'.heap → Kp s.heap H s'.heap ((D, .list ys) :: H') → (∃ m, s'.heap.Ns L m) →
        ¬ Own env L → C.h₀.get? L = none → (∀ b o, s.heap.get? b = some o → ¬ dom H b → b ≠ L) → compPost (Md C) A NoE use Q (.ref D) L (.ok .next) s'))
    (hs : ∀ x, foldedSetIterable iter env x = pure x) : wpAny (Md C) A (comprehension (.ListComp elt [⟨.Name x px, iter, ifs, 0⟩] scope pos) scope env p0 (newList []) false (eval iter env) use) Q NoE s := by
  have hc' := hc
  simp only [compOk, Bool.and_eq_true, decide_eq_true_eq, List.all_eq_true, Bool.or_eq_true, beq_iff_eq, Bool.not_eq_true', bne_iff_ne, ne_eq] at hc'
  obtain ⟨⟨⟨⟨⟨⟨⟨⟨⟨c1, c2⟩, c3⟩, c4⟩, c5⟩, c6⟩, c7⟩, c8⟩, c9⟩, c10⟩ := hc'
  have hclos := (compEnv_ok F nf hc hcapn (Nat.le_refl _)).1
  refine wpAny_comprehension_free rfl hs (closureFor_is hclos) c1 (fun y hy hl => ?_) (wpAny_mono (h s I F) (fun xv s₁ h₁ => wpAny_mono h₁ (fun w s₂ h₂ => ?_) noE) noE)
  · rcases c8 y hy with q | q
    · exact absurd hl q
    · exact q
  first | (refine EP.elim h₂ fun it wr xs Ok St hq => ?_; clear h₂) | (refine LP.elim h₂ fun it wr xs Ok St hq => ?_; clear h₂) | obtain ⟨it, wr, xs, Ok, St, hq⟩ := h₂
  obtain ⟨Mid, H₂, rfl, W, hst, I₂, k₂, hw, hlen, J, j0, jok, turn, fin⟩ := hq
  have F₂ := F.keep I k₂
  have hb0 : ∀ b ∈ wr, C.h₀.get? b = none := fun b hb => by
    cases e : C.h₀.get? b with
    | none => rfl
    | some o =>
      have d := (hw b hb).1 o (I.base _ _ e)
      obtain ⟨p, hp, rfl⟩ := List.mem_map.mp d
      rw [I.new p hp] at e; cases e
  have hno : ∀ b ∈ wr, ¬ Own env b := fun b hb => notOwn F (hw b hb).1
  have hwlt : ∀ b ∈ wr, b < s₂.heap.objs.size := fun b hb => by obtain ⟨o, e, _⟩ := W.obj 0 _ (.inl hst) b hb; exact Heap.lt_size e
  refine wpAny_newObj_type (wpAny_newFunctionEnv c7 (by intro y hy; simp at hy) (fun h₁ hns₁ hsb₁ => ?_) c1)
  dsimp only at hns₁ hsb₁ ⊢
  generalize hH2 : s₂.heap.push { cls := .type "list", dict := none, data := .seq ([] : List Value).toArray } = G at hns₁ hsb₁ ⊢
  have hGs : G.objs.size = s₂.heap.objs.size + 1 := by rw [← hH2, Heap.size_push]
  have hacc0 : G.get? s₂.heap.objs.size = some { cls := .type "list", dict := none, data := .seq ([] : List Value).toArray } := by rw [← hH2]; exact Heap.get?_push_size _ rfl
  have old : ∀ b o, s₂.heap.get? b = some o → h₁.get? b = some o := fun b o e => hsb₁.extBut b o (by rw [hGs]; exact Nat.ne_of_lt (Nat.lt_succ_of_lt (Heap.lt_size e))) (Heap.get?_push_of_some _ (hH2 ▸ Heap.get?_push_of_some _ e))
  have hDle : s₂.heap.objs.size ≤ s₂.heap.objs.size := Nat.le_refl _
  generalize hD : s₂.heap.objs.size = D at hGs hacc0 hwlt hDle ⊢
  have hDL : D ≠ G.objs.size := by rw [hGs]; exact Nat.ne_of_lt (Nat.lt_succ_self _)
  have hLD : D ≤ G.objs.size := by rw [hGs]; exact Nat.le_succ _
  have hacc : h₁.PlainList D #[] := ⟨_, hsb₁.extBut _ _ hDL (Heap.get?_push_of_some _ hacc0)⟩
  generalize hLq : G.objs.size = L at hns₁ hsb₁ hDL hLD ⊢
  have fresh : ∀ a, D ≤ a → s₂.heap.get? a = none := fun a ha => by
    cases e : s₂.heap.get? a with
    | none => rfl
    | some o' => exact absurd (Heap.lt_size e) (Nat.not_lt.mpr (hD ▸ ha))
  have nd₂ : ∀ a, D ≤ a → ¬ dom H₂ a := fun a ha d => absurd (I₂.lt d) (Nat.not_lt.mpr (hD ▸ ha))
  have n0 : ∀ a, D ≤ a → C.h₀.get? a = none := fun a ha => by
    cases e : C.h₀.get? a with
    | none => rfl
    | some o => have := I₂.base _ _ e; rw [fresh a ha] at this; cases this
  have nOwn : ∀ a, D ≤ a → ¬ Own env a := fun a ha => notOwn F₂ fun o e => by rw [fresh a ha] at e; cases e
  have nwr : ∀ a, D ≤ a → a ∉ wr := fun a ha hb => absurd (hwlt a hb) (Nat.not_lt.mpr ha)
  obtain ⟨_, ok, hmem⟩ := compEnv_ok F₂ nf hc hcapn (L := L) (hD ▸ hLD)
  generalize hcenv : compEnvC scope (clOf env.cells scope.names []) L env = cenv at ok
  have eL : cenv.locals = L := by rw [← hcenv]; rfl
  have eC : cenv.cells = clOf env.cells scope.names [] := by rw [← hcenv]; rfl
  have ownC : ∀ b, Own cenv b → b = L ∨ Own env b := fun b hb => by
    rcases hb with q | ⟨nm, q⟩
    · exact .inl (q.trans eL)
    · rw [eC] at q; exact .inr (.inr ⟨nm, hmem _ q⟩)
  have hxl : cenv.kindOf x = some .local := by
    rw [← hcenv]
    show (relabel scope env).names.lookup x = _
    unfold relabel; rw [lookup_relabel, c2]; rfl
  have hxf : cenv.kindOf x ≠ some .free := by rw [hxl]; decide
  have kcell : ∀ y ∈ names caps, cenv.kindOf y ≠ some .local := fun y hy => by
    rw [← hcenv]
    show (relabel scope env).names.lookup y ≠ _
    unfold relabel; rw [lookup_relabel, c5 y hy]
    simp only [Option.map_some]
    split <;> simp
  have F₁ : Fm C cenv gsc ((x, none) :: caps) H₂ h₁ := by
    refine ⟨ok, ⟨_, eL ▸ hns₁, fun y v a kl => ?_⟩, eL ▸ nd₂ L hLD, eL ▸ n0 L hLD, fun nm c q => ?_⟩
    · cases a with
      | there a => exact absurd kl (kcell y a.mem)
    · rw [eC] at q
      obtain ⟨vo, ⟨oc, ho, hd⟩, ndc, n0c, hv⟩ := F₂.cell nm c (hmem _ q)
      refine ⟨vo, ⟨oc, old _ _ ho, hd⟩, ndc, n0c, fun v a kl => ?_⟩
      cases a with
      | there a =>
        obtain ⟨v', _, hk⟩ := hcapn nm a.mem
        obtain ⟨u, h1, h2⟩ := hv v (hcap _ _ a) hk
        exact ⟨u, h1, h2.keep (.of_keeps old)⟩
  have I₁ : Inv C H₂ { s₂ with heap := h₁, toks := s₂.toks + ([] : List (Str × Value)).length } := I₂.grow old _
  have hst₁ : St 0 h₁ := W.frame _ _ _ hst (.of_keeps old) fun b _ o e => old b o e
  have tk2 : ∀ {h' : Heap} {H' : Hp}, compKK wr s₂.heap H₂ h' H' → TupKeep s₂.heap h' := fun kk a o e hm => (kk a o e (I₂.noTup e hm) (fun hb => by
    obtain ⟨o', e', hi⟩ := W.obj 0 _ (.inl hst) a hb
    rw [e] at e'; cases e'; exact hi hm)).1
  have loop : ∀ s₃ : Shared, s₃ = { s₂ with heap := h₁, toks := s₂.toks + ([] : List (Str × Value)).length } →
      codeAny (Md C) A (.compLoop (.ListComp elt [⟨.Name x px, iter, ifs, 0⟩] scope pos) 0 (.ref it) (.ref D) cenv) (compPost (Md C) A NoE use Q (.ref D) L) s₃ := by
    rintro s₃ rfl
    refine codeAny_compLoop_tests (fun k s' => ∃ i H' ys vs o, i ≤ xs.length ∧ k = xs.length + 1 - i ∧ J i ys H' ∧ Inv C H' s' ∧ Fm C cenv gsc ((x, o) :: caps) H' s'.heap ∧ St i s'.heap ∧ (∀ b ∈ wr, ¬ dom H' b) ∧
      s'.heap.PlainList D vs ∧ VRs C.h₀ s'.heap ys vs.toList ∧ ¬ dom H' D ∧ compKK wr s₂.heap H₂ s'.heap H') ?_ (xs.length + 1)
      ⟨0, H₂, [], #[], none, Nat.zero_le _, rfl, j0, I₁, F₁, hst₁, fun b hb => (hw b hb).2, hacc, VRs.nil, nd₂ D hDle, fun b o e nb _ => ⟨old b o e, nb⟩⟩
    rintro k s' ⟨i, H', ys, vs, o, hi, rfl, hj, I', F', hst', hd', hpl, hvr, hdD, kk⟩
    have hwr : ∀ (s'' : Shared), (St i s''.heap ∨ ∃ v, Mid i v s''.heap) → ∀ b ∈ wr, ¬ dom H' b ∧ C.h₀.get? b = none ∧ ¬ Own cenv b ∧ ∀ o, s''.heap.get? b = some o → ¬ Imm o := fun s'' hs b hb =>
      ⟨hd' b hb, hb0 b hb, fun q => (ownC b q).elim (fun q => nwr L hLD (q ▸ hb)) (hno b hb), fun o e => by obtain ⟨o', e', hm⟩ := W.obj i _ hs b hb; rw [e] at e'; cases e'; exact hm⟩
    have hDc : ¬ Own cenv D := fun q => (ownC D q).elim hDL (nOwn D hDle)
    cases hx : xs[i]? with
    | none =>
      have hl : i = xs.length := by
        rcases Nat.lt_or_ge i xs.length with h | h
        · rw [List.getElem?_eq_getElem h] at hx; cases hx
        · omega
      refine wpAny_mono (W.done H' s' (fun r s₁ => match r with | none => compPost (Md C) A NoE use Q (.ref D) L (.ok .next) s₁ | some _ => False) I' (jok _ _ _ hj).1 (hl ▸ hst') fun h' t e => ?_) (fun r s₁ hr => ?_) noE
      · obtain ⟨I'', F''⟩ := touch I' F' e (hwr s' (.inl hst')) t
        obtain ⟨m', ho⟩ := hpl
        have hoD := e D _ (nwr D hDle) ho
        have kk' : compKK wr s₂.heap H₂ h' H' := fun b o e1 n1 n2 => ⟨e b o n2 (kk b o e1 n1 n2).1, (kk b o e1 n1 n2).2⟩
        have tk' : TupKeep s'.heap h' := fun a o e1 hm => e a o (fun hb => (hwr s' (.inl hst') a hb).2.2.2 o e1 hm) e1
        have Fo : Fm C env gs S ((D, .list ys) :: H') h' := F₂.keepW (tk2 kk') fun b o hw' e1 n1 => by
          have := kk' b o e1 n1 (fun hb => hno b hb hw')
          refine ⟨this.1, fun d => ?_⟩
          rcases List.mem_cons.mp d with q | d
          · rw [q] at e1; rw [fresh D hDle] at e1; cases e1
          · exact this.2 d
        have Ia : Inv C ((D, .list ys) :: H') { s' with heap := h', toks := t } := by
          refine ⟨I''.base, fun p hp => ?_, fun p hp => ?_, List.nodup_cons.mpr ⟨hdD, I''.nodup⟩, I''.gens, I''.os⟩
          · rcases List.mem_cons.mp hp with rfl | hp
            · exact ⟨vs.toList, m', by simpa using hoD, hvr.keep tk'⟩
            · exact I''.objs p hp
          · rcases List.mem_cons.mp hp with rfl | hp
            · exact n0 D hDle
            · exact I''.new p hp
        have hLns : ∃ m, h'.Ns L m := by obtain ⟨mr, hn, _⟩ := F''.ns; exact ⟨mr, eL ▸ hn⟩
        have hkp : Kp s.heap H h' ((D, .list ys) :: H') := fun b o e1 n1 => by
          have h2 := k₂ b o e1 n1
          have h3 := kk' b o h2.1 h2.2 (fun hb => n1 ((hw b hb).1 o e1))
          refine ⟨h3.1, fun d => ?_⟩
          rcases List.mem_cons.mp d with q | d
          · have := h2.1; rw [q, fresh D hDle] at this; cases this
          · exact h3.2 d
        refine fin D L ys H' _ (hl ▸ hj) hdD (fun d => ?_) Ia Fo hkp hLns (nOwn L hLD) (n0 L hLD) (fun b o e1 n1 q => ?_)
        · rcases List.mem_cons.mp d with q | d
          · exact hDL q.symm
          · exact F''.nl (eL ▸ d)
        · have := (k₂ b o e1 n1).1; rw [q, fresh L hLD] at this; cases this
      · cases r with
        | none => exact hr
        | some v => exact hr.elim
    | some v =>
      have hlt : i < xs.length := by
        rcases Nat.lt_or_ge i xs.length with h | h
        · exact h
        · rw [List.getElem?_eq_none h] at hx; cases hx
      refine wpAny_mono (W.next i v H' s' (fun r s₁ => match r with | none => False | some u => VR C.h₀ s₁.heap v u ∧ Inv C H' s₁ ∧ Fm C cenv gsc ((x, o) :: caps) H' s₁.heap ∧ St (i + 1) s₁.heap ∧ s₁.heap.PlainList D vs ∧ VRs C.h₀ s₁.heap ys vs.toList ∧ compKK wr s₂.heap H₂ s₁.heap H') hx I' (jok _ _ _ hj).1 hst' fun u h' t hv hmid e => ?_) (fun r s₁ hr => ?_) noE
      · obtain ⟨I'', F''⟩ := touch I' F' e (hwr s' (.inl hst')) t
        obtain ⟨m', ho⟩ := hpl
        have tk' : TupKeep s'.heap h' := fun a o e1 hm => e a o (fun hb => (hwr s' (.inl hst') a hb).2.2.2 o e1 hm) e1
        exact ⟨hv, I'', F'', W.plain x px rfl i u h' hmid, ⟨m', e D _ (nwr D hDle) ho⟩, hvr.keep tk', fun b o e1 n1 n2 => ⟨e b o n2 (kk b o e1 n1 n2).1, (kk b o e1 n1 n2).2⟩⟩
      · cases r with
        | none => exact hr.elim
        | some u =>
          obtain ⟨hv, Ia, Fa, sta, pla, vra, kka⟩ := hr
          refine wpAny_assign_Name (store Ia Fa hxf .here hv fun s₃ I₃ F₃ _ t₃ x₃ => ?_)
          have x₃ := x₃ hxl
          rw [eL] at x₃
          obtain ⟨m₃, ho₃⟩ := pla
          have st₃ : St (i + 1) s₃.heap := W.frame _ _ _ sta t₃ fun b hb o e1 => x₃ b o (fun q => nwr L hLD (q ▸ hb)) e1
          have pl₃ := x₃ D _ hDL ho₃
          have vr₃ := vra.keep t₃
          have kk₃ : compKK wr s₂.heap H₂ s₃.heap H' := fun b o e1 n1 n2 => ⟨x₃ b o (fun q => by rw [q, fresh L hLD] at e1; cases e1) (kka b o e1 n1 n2).1, (kka b o e1 n1 n2).2⟩
          -- what is behind the tests
          have rest : ∀ (b : Bool) (s₄ : Shared) (H₄ : Hp), Inv C H₄ s₄ → Kp s₃.heap H' s₄.heap H₄ → (if b = true then WE C A cenv gsc ((x, some v) :: caps) H₄ elt fun y H₃ => J (i + 1) (ys ++ [y]) H₃ else J (i + 1) ys H₄) →
              (if b = true then wpAny (Md C) A (eval elt cenv) (fun x_1 s₄ => wpAny (Md C) A (call (.builtin "list.append") [.ref D, x_1]) (fun _ s₅ => ∃ m, m < xs.length + 1 - i ∧ ∃ i H' ys vs o, i ≤ xs.length ∧ m = xs.length + 1 - i ∧ J i ys H' ∧ Inv C H' s₅ ∧ Fm C cenv gsc ((x, o) :: caps) H' s₅.heap ∧ St i s₅.heap ∧ (∀ b ∈ wr, ¬ dom H' b) ∧
                s₅.heap.PlainList D vs ∧ VRs C.h₀ s₅.heap ys vs.toList ∧ ¬ dom H' D ∧ compKK wr s₂.heap H₂ s₅.heap H') NoE s₄) NoE s₄
              else ∃ m, m < xs.length + 1 - i ∧ ∃ i H' ys vs o, i ≤ xs.length ∧ m = xs.length + 1 - i ∧ J i ys H' ∧ Inv C H' s₄ ∧ Fm C cenv gsc ((x, o) :: caps) H' s₄.heap ∧ St i s₄.heap ∧ (∀ b ∈ wr, ¬ dom H' b) ∧
                s₄.heap.PlainList D vs ∧ VRs C.h₀ s₄.heap ys vs.toList ∧ ¬ dom H' D ∧ compKK wr s₂.heap H₂ s₄.heap H') := by
            intro b s₄ H₄ I₄ k₄ hq
            have F₄ := F₃.keep I₃ k₄
            have wr₄ : ∀ b ∈ wr, ¬ dom H₄ b ∧ ∀ o, s₃.heap.get? b = some o → s₄.heap.get? b = some o := fun b hb => by
              obtain ⟨o, e1, _⟩ := W.obj (i + 1) _ (.inl st₃) b hb
              exact ⟨(k₄ b o e1 (hd' b hb)).2, fun o' e' => (k₄ b o' e' (hd' b hb)).1⟩
            have st₄ : St (i + 1) s₄.heap := W.frame _ _ _ st₃ (I₃.tupKeep k₄) fun b hb o e1 => (wr₄ b hb).2 o e1
            have D₄ := k₄ D _ pl₃ hdD
            have vr₄ := vr₃.keep (I₃.tupKeep k₄)
            have kk₄ : compKK wr s₂.heap H₂ s₄.heap H₄ := fun b o e1 n1 n2 => let h := kk₃ b o e1 n1 n2; k₄ b o h.1 h.2
            cases b with
            | false => exact ⟨xs.length + 1 - (i + 1), by omega, i + 1, H₄, ys, vs, _, hlt, rfl, hq, I₄, F₄, st₄, fun b hb => (wr₄ b hb).1, ⟨m₃, D₄.1⟩, vr₄, D₄.2, kk₄⟩
            | true =>
              refine wpAny_mono (hq s₄ I₄ F₄) (fun y s₅ h₅ => ?_) noE
              first | (refine EP.elim h₅ fun my H₅ r₅ I₅ k₅ j₅ => ?_; clear h₅) | (refine LP.elim h₅ fun my H₅ r₅ I₅ k₅ j₅ => ?_; clear h₅) | obtain ⟨my, H₅, r₅, I₅, k₅, j₅⟩ := h₅
              have F₅ := F₄.keep I₄ k₅
              have wr₅ : ∀ b ∈ wr, ¬ dom H₅ b ∧ ∀ o, s₄.heap.get? b = some o → s₅.heap.get? b = some o := fun b hb => by
                obtain ⟨o, e1, _⟩ := W.obj (i + 1) _ (.inl st₄) b hb
                exact ⟨(k₅ b o e1 (wr₄ b hb).1).2, fun o' e' => (k₅ b o' e' (wr₄ b hb).1).1⟩
              have st₅ : St (i + 1) s₅.heap := W.frame _ _ _ st₄ (I₄.tupKeep k₅) fun b hb o e1 => (wr₅ b hb).2 o e1
              have D₅ := k₅ D _ D₄.1 D₄.2
              have vr₅ := vr₄.keep (I₄.tupKeep k₅)
              have kk₅ : compKK wr s₂.heap H₂ s₅.heap H₅ := fun b o e1 n1 n2 => let h := kk₄ b o e1 n1 n2; k₅ b o h.1 h.2
              refine wpAny_list_append_plain (items := vs) ⟨m₃, D₅.1⟩ (fun h₆ hl₆ hs₆ => ?_) ?_
              · have ex : Ext [D] s₅.heap h₆ := Ext.of_extBut hs₆.extBut
                have hDw : ∀ b ∈ [D], ¬ dom H₅ b ∧ C.h₀.get? b = none ∧ ¬ Own cenv b ∧ ∀ o, s₅.heap.get? b = some o → ¬ Imm o := fun b hb => by
                  obtain rfl := List.mem_singleton.mp hb
                  exact ⟨D₅.2, n0 _ hDle, hDc, fun o e1 => by rw [D₅.1] at e1; cases e1; simp [Imm]⟩
                obtain ⟨I₆, F₆⟩ := touch I₅ F₅ ex hDw s₅.toks
                have tk₆ : TupKeep s₅.heap h₆ := fun a o e1 hm => ex a o (fun hb => (hDw a hb).2.2.2 o e1 hm) e1
                refine ⟨xs.length + 1 - (i + 1), by omega, i + 1, H₅, ys ++ [my], vs.push y, _, hlt, rfl, j₅, I₆, F₆, W.frame _ _ _ st₅ tk₆ fun b hb o e1 => ex b o (fun q => nwr D hDle (List.mem_singleton.mp q ▸ hb)) e1, fun b hb => (wr₅ b hb).1, hl₆, ?_, D₅.2, fun b o e1 n1 n2 => ?_⟩
                · rw [Array.toList_push]; exact (vr₅.append (.one r₅)).keep tk₆
                · have h := kk₅ b o e1 n1 n2
                  exact ⟨ex b o (fun q => by rw [List.mem_singleton.mp q, fresh D hDle] at e1; cases e1) h.1, h.2⟩
              · have h1 := vr₅.length
                have h2 := (jok _ _ _ hj).2
                have h3 : vs.toList.length = vs.size := by simp
                omega
          have ht := turn i v ys H' cenv hx hj
          have done : ∀ (b : Bool) (s₄ : Shared), (∃ H₄, Inv C H₄ s₄ ∧ Kp s₃.heap H' s₄.heap H₄ ∧ (if b = true then WE C A cenv gsc ((x, some v) :: caps) H₄ elt fun y H₃ => J (i + 1) (ys ++ [y]) H₃ else J (i + 1) ys H₄)) → _ := fun b s₄ ⟨H₄, I₄, k₄, q₄⟩ => rest b s₄ H₄ I₄ k₄ q₄
          match ifs, ht with
          | [], ht =>
            refine wpAny_tests_nil ?_
            have := done true s₃ ⟨H', I₃, Kp.refl _ _, ht⟩
            simp only [if_true] at this ⊢
            exact wpAny_mono this (fun _ _ h => wpAny_mono h (fun _ _ h => h) noE) noE
          | [c], ht =>
            refine wpAny_tests_one (wpAny_mono (ht s₃ I₃ F₃) (fun b s₄ hb => ?_) noE)
            have := done b s₄ hb
            cases b with
            | false => exact this
            | true =>
              simp only [if_true] at this ⊢
              exact wpAny_mono this (fun _ _ h => wpAny_mono h (fun _ _ h => h) noE) noE
          | _ :: _ :: _, ht => exact ht.elim
  have he : ({ newEnv scope L env.globals (clOf env.cells scope.names []) env.qual none .none (some env) 0 with scope := relabel scope env } : Env) = cenv := by rw [← hcenv]; rfl
  have lp := loop _ rfl
  rw [← he] at lp
  exact codeAny_compStart_list lp (W.self 0 _ _ hst₁ lp |> fun h => wpAny_mono h (fun _ _ h => h) noE)
end
end Mine
namespace Mine
open PySem PySem.Calls PyProof.Rows

section
variable {C : Cx} {A : Around} {env : Env} {gs gsc : List Str} {S : Sg} {H : Hp} {n : Nat}

/-- what a comprehension must show -/
def CompJ (C : Cx) (A : Around) (gsc : List Str) (caps : Sg) (x : Str) (ifs : List Expr) (elt : Expr) (K : List MV → Hp → Prop) : List MV → (Hp → Prop) → Hp → Prop := fun xs Ok H₁ =>
  xs.length ≤ sizeLine ∧ ∃ J : Nat → List MV → Hp → Prop, J 0 [] H₁ ∧ (∀ i ys H, J i ys H → Ok H ∧ ys.length ≤ i) ∧
    (∀ i v ys H cenv, xs[i]? = some v → J i ys H → CT C A cenv gsc ((x, some v) :: caps) H ifs fun b H₂ => if b = true then WE C A cenv gsc ((x, some v) :: caps) H₂ elt fun y H₃ => J (i + 1) (ys ++ [y]) H₃ else J (i + 1) ys H₂) ∧
    (∀ ys H', J xs.length ys H' → K ys H')

theorem WI.mono {iter target : Expr} {K K' : List MV → (Hp → Prop) → Hp → Prop} (h : WI C A env gs S H iter target K) (m : ∀ xs Ok H, K xs Ok H → K' xs Ok H) : WI C A env gs S H iter target K' := fun s I F =>
  wpAny_mono (h s I F) (fun _ _ h => wpAny_mono h (fun _ _ ⟨it, wr, xs, Ok, St, Mid, H₂, a, b, c, d, e, f, g⟩ => ⟨it, wr, xs, Ok, St, Mid, H₂, a, b, c, d, e, f, m _ _ _ g⟩) noE) noE

theorem WE.comp {elt iter : Expr} {x : Str} {px pos : Pos} {ifs : List Expr} {scope : Scope} {Q : MV → Hp → Prop} {caps : Sg} {ns cs ys : List Str} (gsc : List Str) (K : EnvK env ns cs) (cp : Caps S cs caps) (hc : compOk scope x ys gsc = true)
    (h : WI C A env gs S H iter (.Name x px) (CompJ C A gsc caps x ifs elt fun ys H' => ∀ D, ¬ dom H' D → Q (.ref D) ((D, .list ys) :: H')))
    (hy : names caps = ys := by with_unfolding_all rfl) (hn : names S = ns := by with_unfolding_all rfl) (hs : ∀ x, foldedSetIterable iter env x = pure x := by intro _; with_unfolding_all rfl) : WE C A env gs S H (.ListComp elt [⟨.Name x px, iter, ifs, 0⟩] scope pos) Q := by
  intro s I F
  rw [eval_ListComp]
  subst hy hn
  refine comp_main caps I F K.nofree hc cp.at (cp.names K) (h.mono fun xs Ok H₁ hj => ?_) hs
  obtain ⟨hl, J, j0, jok, turn, fin⟩ := hj
  refine ⟨hl, J, j0, jok, turn, fun D L ys H' s' hJ hD hL I' F' k' ns' no' n0' ne' => ?_⟩
  obtain ⟨m, hn⟩ := ns'
  refine ⟨m, hn, fun h' hs' => ?_⟩
  have hw : ∀ b ∈ [L], ¬ dom ((D, MO.list ys) :: H') b ∧ C.h₀.get? b = Option.none ∧ ¬ Own env b ∧ ∀ o, s'.heap.get? b = some o → ¬ Imm o := fun b hb => by
    obtain rfl := List.mem_singleton.mp hb
    refine ⟨hL, n0', no', fun o e hm => ?_⟩
    obtain ⟨oL, es, ep, hL', hd, _⟩ := hn
    rw [hL'] at e; cases e
    rcases hm with ⟨_, _, _, hd'⟩ | ⟨_, _, hd'⟩ <;> (rw [hd] at hd'; cases hd')
  obtain ⟨I'', F''⟩ := touch I' F' (Ext.of_extBut hs'.extBut) hw s'.toks
  exact ⟨_, _, by unfold VR; rfl, I'', fun b o e nb => ⟨hs'.extBut b o (ne' b o e nb) (k' b o e nb).1, (k' b o e nb).2⟩, fin ys H' hJ D hD⟩

/-- y = [ .. ] on one line: the store is made ahead of letting the names go -/
theorem WS.assignComp {elt iter : Expr} {x y : Str} {px py pos p : Pos} {ifs : List Expr} {scope : Scope} {Q : Fl → Sg → Hp → Prop} {caps : Sg} {ns cs ys : List Str} (gsc : List Str) (K : EnvK env ns cs) (cp : Caps S cs caps) (hc : compOk scope x ys gsc = true)
    (h : WI C A env gs S H iter (.Name x px) (CompJ C A gsc caps x ifs elt fun ys H' => ∀ D, ¬ dom H' D → ∃ S', Put S y (.ref D) S' ∧ Q .next S' ((D, .list ys) :: H')))
    (hy : names caps = ys := by with_unfolding_all rfl) (hn : names S = ns := by with_unfolding_all rfl) (hs : ∀ x, foldedSetIterable iter env x = pure x := by intro _; with_unfolding_all rfl) : WS C A env gs S H (.Assign [.Name y py] (.ListComp elt [⟨.Name x px, iter, ifs, 0⟩] scope pos) p) Q := by
  subst hy hn
  intro s I F nf
  by_cases hsw : (env.blockKind == .function && env.kindOf y == some .local && py.line == (Expr.ListComp elt [⟨.Name x px, iter, ifs, 0⟩] scope pos).pos.line
      && !(scope.names.any fun (n, k) => n == y && (k == .local || k == .cell))) = true
  · rw [exec_Assign_Name_used _ _ _ _ (by
      show (pure _ : Sem Bool) = pure true
      rw [hsw])]
    refine wpAny_bind (wpAny_standAt (wpAny_bind ?_))
    show wpAny _ A (do let _ ← comprehension (.ListComp elt [⟨.Name x px, iter, ifs, 0⟩] scope pos) scope env _ (newList []) false (eval iter env) (some (PySem.assign (.Name y py) env))) _ _ s
    refine wpAny_bind (wpAny_mono (Q := fun _ s' => SP C env gs S H s Q .next s') (comp_main caps I F nf hc cp.at (cp.names K) (h.mono fun xs Ok H₁ hj => ?_) hs) (fun _ s' hq => wpAny_pure (wpAny_pure hq)) noE)
    obtain ⟨hl, J, j0, jok, turn, fin⟩ := hj
    refine ⟨hl, J, j0, jok, turn, fun D L ys H' s' hJ hD hL I' F' k' ns' no' n0' ne' => ?_⟩
    obtain ⟨S', pt, q⟩ := fin ys H' hJ D hD
    show wpAny _ A (PySem.assign (.Name y py) env (.ref D)) _ _ _
    refine wpAny_assign_Name (store I' F' (nf y pt.mem) pt (by unfold VR; rfl) fun s₂ I₂ F₂ k₂ t₂ _ => ?_)
    obtain ⟨m, oL, es, ep, hL', hd, r⟩ := ns'
    obtain ⟨nd2, o2, e2, r2⟩ := k₂ L oL hL' hL
    have : o2 = oL := r2 no'
    subst this
    refine ⟨m, ⟨_, es, ep, e2, hd, r⟩, fun h' hs' => ?_⟩
    have hw : ∀ b ∈ [L], ¬ dom ((D, MO.list ys) :: H') b ∧ C.h₀.get? b = none ∧ ¬ Own env b ∧ ∀ o, s₂.heap.get? b = some o → ¬ Imm o := fun b hb => by
      obtain rfl := List.mem_singleton.mp hb
      refine ⟨hL, n0', no', fun o e hm => ?_⟩
      rw [e2] at e; cases e
      rcases hm with ⟨_, _, _, hd'⟩ | ⟨_, _, hd'⟩ <;> (rw [hd] at hd'; cases hd')
    obtain ⟨I'', F''⟩ := touch I₂ F₂ (Ext.of_extBut hs'.extBut) hw s₂.toks
    refine ⟨.next, S', _, rfl, I'', F'', ?_, pt.names, q⟩
    intro b o e nb
    obtain ⟨n3, o3, e3, r3⟩ := (k'.toS.trans k₂) b o e nb
    exact ⟨n3, o3, hs'.extBut b o3 (ne' b o e nb) e3, r3⟩
  · have hsw' : swapsWith (.ListComp elt [⟨.Name x px, iter, ifs, 0⟩] scope pos) (some (.Name y py)) p.line env = pure false := by
      show (pure _ : Sem Bool) = pure false
      simp only [Bool.not_eq_true] at hsw
      rw [hsw]
    refine wpAny_Assign_Name (wpAny_mono (WE.comp (gs := gs) gsc K cp hc (Q := fun v H' => ∃ S', Put S y v S' ∧ Q .next S' H') (h.mono fun xs Ok H₁ hj => ?_) rfl rfl hs s I F) (fun v s₁ h₁ => ?_) noE) hsw'
    · obtain ⟨hl, J, j0, jok, turn, fin⟩ := hj
      exact ⟨hl, J, j0, jok, turn, fin⟩
    · obtain ⟨z, H₁, r, I₁, k₁, S', pt, q₁⟩ := h₁
      exact store I₁ (F.keep I k₁) (nf y pt.mem) pt r fun s' I' F' k' _ _ => ⟨.next, S', H₁, rfl, I', F', k₁.toS.trans k', pt.names, q₁⟩
end
end Mine
namespace Mine
open PySem PySem.W PySem.Calls PyProof.Rows

abbrev mkCx (prog : Program) (w : World) (s₁ : Shared) {p : Program} {loose : List Str} {mean : ExcName → Option Value} {mg mb : Str → Option Value} (T : Top p loose mean mg mb s₁.heap) : Cx :=
  ⟨prog, w, s₁.heap, s₁.gens, s₁.os, mg, mb, T.g, T.b, T.builtins, T.nolimit, none, fun _ h => nomatch h⟩
section
variable {prog : Program} {w : World} {s₁ : Shared} {p : Program} {loose : List Str} {mean : ExcName → Option Value} {mg mb : Str → Option Value} (T : Top p loose mean mg mb s₁.heap)
theorem start_inv : Inv (mkCx prog w s₁ T) [] s₁ := ⟨fun _ _ e => e, (fun _ h => nomatch h), (fun _ h => nomatch h), List.nodup_nil, rfl, rfl⟩
theorem fn_of {d : DefRec} (hd : d ∈ recsOf p) (hdbg : (d.name == ("__debug__" : Str)) = false) : Fn (mkCx prog w s₁ T) d.name d.name d.params d.body d.scope :=
  ⟨hdbg, let ⟨a, o, pm, code, doc, h1, h2, h3, h4⟩ := T.fn d hd; ⟨a, o, pm, code, doc, h1, h2, h3, h4⟩⟩
def offAll (p : Program) (loose : List Str) (x : Str) : Bool := !startupNames.contains x && !loose.contains x && !((recsOf p).map (·.name)).contains x && !((litsOf p).map (·.1)).contains x && !((clssOf p loose).map (·.name)).contains x && !(x == ("__name__" : Str)) && !(x == ("__debug__" : Str))
theorem gl_of {x : Str} {v : Value} (h : offAll p loose x = true) (hv : bootBuiltins x = some v) : Gl (mkCx prog w s₁ T) x v := by
  simp only [offAll, Bool.and_eq_true, Bool.not_eq_true', List.contains_eq_mem, decide_eq_false_iff_not, beq_eq_false_iff_ne] at h
  obtain ⟨⟨⟨⟨⟨⟨h1, h2⟩, h3⟩, h4⟩, h5⟩, h6⟩, h7⟩ := h
  exact ⟨by simpa using h7, .inr ⟨T.free x h1 h2 h3 h4 h5, hv, h6⟩⟩
include T in
theorem const_of {x : Str} {i : Int} (h : valOf p x = some (.int i)) : ∃ t, mg x = some (.int i t) := by
  obtain ⟨v, h1, h2⟩ := T.const x _ h
  have := h2 s₁.heap
  cases this with
  | int i t => exact ⟨t, h1⟩
end
theorem WE.gint {C : Cx} {A : Around} {env : Env} {gs : List Str} {S : Sg} {H : Hp} {Q : MV → Hp → Prop} {x : Str} {p : Pos} {i : Int} (hx : x ∈ gs) (hd : (x == ("__debug__" : Str)) = false) (hv : ∃ t, C.mg x = some (.int i t)) (q : Q (.int i) H) : WE C A env gs S H (.Name x p) Q := by
  obtain ⟨t, hv⟩ := hv
  intro s I F
  refine Name_function_global F.ok.kind (F.ok.gl x hx) (loadGlobal_global (env := env) (mg := C.mg) ?_ hv (EP.here I ?_ q)) hd
  · rw [F.ok.glob]; exact C.hg.keeps I.base
  · unfold VR; exact ⟨t, rfl⟩

theorem aok_caller {C : Cx} (h : C.hd = none) : AOk C callerA 200 := ⟨h.symm ▸ rfl, by decide, by decide⟩

theorem law_end {l : OpenLaw} {w : World} {s₁ : Shared} {p : Program} {loose : List Str} {mean : ExcName → Option Value} {mg mb : Str → Option Value} {T : Top p loose mean mg mb s₁.heap} {fa a : Addr} {vs : List Value} {ns : List Int} {cl : Str → Option Addr} {mean' : ExcName → Option Value} {args : List WData}
    (hl : s₁.heap.IsList a vs.toArray) (hi : IntsAre vs ns) (hg : s₁.gens = #[]) (hm : mg l.name = some (.ref fa)) (h : WF (mkCx l.prog w s₁ T) callerA [] l.name [.fl ns] fun v _ => v = .bool true) :
    wpAny (model l.row.prog w) callerA (call (.ref fa) [.ref a]) (fun v s' => GoodWG l.row.claim cl mean' args s₁ (.ok (.ret v)) s') (fun e s' => GoodWG l.row.claim cl mean' args s₁ (.error e) s') s₁ := by
  refine wpAny_mono (h fa hm s₁ [.ref a] (start_inv T) (.one (by unfold VR; exact ⟨a, vs, rfl, hl, hi⟩))) (fun v s' hv => ?_) noE
  obtain ⟨x, H', r, I, k, rfl⟩ := hv
  unfold VR at r; subst r
  refine GoodW.toG ⟨.inl ⟨.bool true, .bool true, [], rfl, fun cls => ?_, .bool true, ?_, unshared_nil⟩, I.base, I.os, I.gens.trans hg⟩
  · exact raisesW_false (r := l.row.toRowW) (fun ct h => nomatch h) cls
  · exact postW_of (r := l.row.toRowW) (X := (true == true)) rfl (show WTm.value [] (.eq .res (.lit (.bool true))) _ = _ from w_eq_bool (w_res rfl) w_lit) rfl
end Mine
namespace Mine
open PySem PySem.W PySem.Calls PyProof.Rows

section
variable {C : Cx} {A : Around} {env : Env} {gs : List Str} {S : Sg} {H : Hp} {n : Nat} {Q : MV → Hp → Prop}

/-! ints, by the signs that omega knows -/
theorem W2.modS {a b : Int} (hb : 0 < b) (q : Q (.int (a % b)) H) : W2 C A H (binaryOp .Mod) (.int a) (.int b) Q :=
  W2.mod (by omega) (by rw [Int.fmod_eq_emod_of_nonneg _ (by omega)]; exact q)
theorem W2.divS {a b : Int} (hb : 0 < b) (hp : b < 1073741824) (q : Q (.int (a / b)) H) : W2 C A H (binaryOp .FloorDiv) (.int a) (.int b) Q :=
  W2.div (by omega) (PyProof.noPylong_small (by omega)) (by rw [Int.fdiv_eq_ediv_of_nonneg _ (by omega)]; exact q)
def Bd (i : Int) : Prop := Builtin.Int.intBits i ≤ 2 ^ 22
theorem Bd.small {i : Int} (h1 : -(2 ^ 64) < i) (h2 : i < 2 ^ 64) : Bd i := Nat.le_trans (intBits_le_64 h1 h2) (by decide)
theorem W2.mulR {a b : Int} (h1 : -(2 ^ 64) < b) (h2 : b < 2 ^ 64) (q : Q (.int (a * b)) H) : W2 C A H (binaryOp .Mult) (.int a) (.int b) Q := W2.mul (.of_right (intBits_le_64 h1 h2)) q
theorem W2.powL {a b r : Int} (hn : 0 ≤ b) (hsz : (Builtin.Int.intBits a : Int) * b ≤ 2 ^ 27) (hr : a ^ b.toNat = r) (q : Q (.int r) H) : W2 C A H (binaryOp .Pow) (.int a) (.int b) Q := W2.pow hn hsz (hr ▸ q)

/-! slices -/
def WO (C : Cx) (A : Around) (env : Env) (gs : List Str) (S : Sg) (H : Hp) (o : Option Expr) (K : Option Int → Hp → Prop) : Prop :=
  match o with
  | none => K none H
  | some e => WE C A env gs S H e fun v H' => ∃ i, v = .int i ∧ 0 ≤ i ∧ K (some i) H'
theorem WO.none {K : Option Int → Hp → Prop} (h : K Option.none H) : WO C A env gs S H Option.none K := h
theorem WO.some {e : Expr} {K : Option Int → Hp → Prop} (h : WE C A env gs S H e fun v H' => ∃ i, v = .int i ∧ 0 ≤ i ∧ K (Option.some i) H') : WO C A env gs S H (Option.some e) K := h
def sliceL {α : Type} (lo hi : Option Int) (xs : List α) : List α :=
  match lo, hi with
  | none, none => xs
  | some a, none => xs.drop a.toNat
  | none, some b => xs.take b.toNat
  | some a, some b => (xs.drop a.toNat).take (b.toNat - a.toNat)
theorem sliceL_map {α β : Type} (f : α → β) (lo hi : Option Int) (xs : List α) : sliceL lo hi (xs.map f) = (sliceL lo hi xs).map f := by
  cases lo <;> cases hi <;> simp [sliceL, List.map_take, List.map_drop]
theorem slicePick_sliceL (vs : List Value) (lo hi : Option Int) (h1 : ∀ a, lo = some a → 0 ≤ a) (h2 : ∀ a, hi = some a → 0 ≤ a) : slicePick vs.toArray lo hi none = (sliceL lo hi vs).toArray := by
  rw [slicePick_plain]
  have cl : ∀ a : Int, 0 ≤ a → clipAt vs.length a = min a.toNat vs.length := fun a ha => by
    have := clipAt_nat vs.length a.toNat
    rwa [Int.toNat_of_nonneg ha] at this
  cases lo with
  | none =>
    cases hi with
    | none => simp [sliceL]
    | some b =>
      simp only [Option.elim, sliceL, List.size_toArray, List.drop_zero, Nat.sub_zero, cl b (h2 b rfl)]
      congr 1
      rcases Nat.le_total b.toNat vs.length with h | h
      · rw [Nat.min_eq_left h]
      · rw [Nat.min_eq_right h, List.take_of_length_le (Nat.le_refl _), List.take_of_length_le h]
  | some a =>
    cases hi with
    | none =>
      simp only [Option.elim, sliceL, List.size_toArray, cl a (h1 a rfl)]
      congr 1
      rcases Nat.le_total a.toNat vs.length with h | h
      · rw [Nat.min_eq_left h, List.take_of_length_le (by simp)]
      · rw [Nat.min_eq_right h, List.drop_of_length_le (Nat.le_refl _), List.drop_of_length_le h]; simp
    | some b =>
      simp only [Option.elim, sliceL, List.size_toArray, cl a (h1 a rfl), cl b (h2 b rfl)]
      congr 1
      rcases Nat.le_total a.toNat vs.length with h | h
      · rw [Nat.min_eq_left h]
        rcases Nat.le_total b.toNat vs.length with h' | h'
        · rw [Nat.min_eq_left h']
        · rw [Nat.min_eq_right h', List.take_of_length_le (by simp), List.take_of_length_le (by simp; omega)]
      · rw [Nat.min_eq_right h, List.drop_of_length_le (Nat.le_refl _), List.drop_of_length_le h]; simp
theorem VRs.slice {b h : Heap} {xs : List MV} {vs : List Value} (r : VRs b h xs vs) (lo hi : Option Int) : VRs b h (sliceL lo hi xs) (sliceL lo hi vs) := by
  cases lo <;> cases hi <;> simp only [sliceL]
  · exact r
  · exact r.take _
  · exact r.drop _
  · exact (r.drop _).take _
theorem intsVR {b h : Heap} {vs : List Value} {ns : List Int} (hi : IntsAre vs ns) : VRs b h (ns.map .int) vs := by
  induction hi with
  | nil => exact .nil
  | cons nn t _ ih => exact .cons (by unfold VR; exact ⟨t, rfl⟩) ih
theorem WE.slice {value : Expr} {lower upper : Option Expr} {p pos : Pos}
    (h : WE C A env gs S H value fun x H₁ => WO C A env gs S H₁ lower fun lo H₂ => WO C A env gs S H₂ upper fun hi H₃ => ∃ xs, ((∃ a, x = .ref a ∧ (a, MO.list xs) ∈ H₃) ∨ ∃ ns, x = .fl ns ∧ xs = ns.map .int) ∧ xs.length ≤ sizeLine ∧ ∀ D, ¬ dom H₃ D → Q (.ref D) ((D, .list (sliceL lo hi xs)) :: H₃))
    (ht : ∀ o r, letTemporaryGo value o r = pure () := by intro _ _; with_unfolding_all rfl) : WE C A env gs S H (.Subscript value (.Slice lower upper Option.none p) pos) Q := by
  intro s I F
  have part : ∀ {o : Option Expr} {s₁ : Shared} {H₁ : Hp} {K : Option Int → Hp → Prop}, Inv C H₁ s₁ → Fm C env gs S H₁ s₁.heap → WO C A env gs S H₁ o K →
      wpAny (Md C) A (evalPart o env) (fun v s₂ => ∃ i H₂, IsPart v i ∧ (∀ a, i = Option.some a → 0 ≤ a) ∧ Inv C H₂ s₂ ∧ Kp s₁.heap H₁ s₂.heap H₂ ∧ K i H₂) NoE s₁ := by
    intro o s₁ H₁ K I₁ F₁ hk
    cases o with
    | none => rw [evalPart_none]; exact wpAny_pure ⟨Option.none, H₁, .none, (fun a h => nomatch h), I₁, Kp.refl _ _, hk⟩
    | some e =>
      refine wpAny_mono (show wpAny (Md C) A (eval e env) _ NoE s₁ from hk s₁ I₁ F₁) (fun v s₂ h₂ => ?_) noE
      first | (refine EP.elim h₂ fun x H₂ r I₂ k₂ hq => ?_; clear h₂) | (refine LP.elim h₂ fun x H₂ r I₂ k₂ hq => ?_; clear h₂) | obtain ⟨x, H₂, r, I₂, k₂, hq⟩ := h₂
      obtain ⟨i, rfl, hi, q⟩ := hq
      unfold VR at r; obtain ⟨t, rfl⟩ := r
      exact ⟨Option.some i, H₂, .int i t, (fun a h => by cases h; exact hi), I₂, k₂, q⟩
  refine wpAny_Subscript_list_slice (wpAny_mono (h s I F) (fun o s₁ h₁ => ?_) noE) ht
  first | (refine EP.elim h₁ fun x H₁ r₁ I₁ k₁ h₁ => ?_) | (refine LP.elim h₁ fun x H₁ r₁ I₁ k₁ h₁ => ?_) | obtain ⟨x, H₁, r₁, I₁, k₁, h₁⟩ := h₁
  have F₁ := F.keep I k₁
  refine wpAny_mono (part I₁ F₁ h₁) (fun vl s₂ h₂ => ?_) noE
  first | (refine EP.elim h₂ fun lo H₂ pl hlo I₂ hq => ?_; clear h₂) | (refine LP.elim h₂ fun lo H₂ pl hlo I₂ hq => ?_; clear h₂) | obtain ⟨lo, H₂, pl, hlo, I₂, hq⟩ := h₂
  obtain ⟨k₂, h₂⟩ := hq
  have F₂ := F₁.keep I₁ k₂
  refine wpAny_mono (part I₂ F₂ h₂) (fun vu s₃ h₃ => ?_) noE
  first | (refine EP.elim h₃ fun hi H₃ pu hhi I₃ hq => ?_; clear h₃) | (refine LP.elim h₃ fun hi H₃ pu hhi I₃ hq => ?_; clear h₃) | obtain ⟨hi, H₃, pu, hhi, I₃, hq⟩ := h₃
  obtain ⟨k₃, xs, hx, hsz, q⟩ := hq
  have main : ∀ (a : Addr) (vs : List Value), s₃.heap.IsList a vs.toArray → VRs C.h₀ s₃.heap xs vs → o = .ref a → ∃ l items lo hi, o = .ref l ∧ s₃.heap.IsList l items ∧ items.size ≤ sizeLine ∧ IsPart vl lo ∧ IsPart vu hi ∧
      EP C H s Q (.ref (s₃.heap.objs.size + 1)) { s₃ with heap := (s₃.heap.push { cls := .type "slice", data := .fields #[vl, vu, .none] }).push { cls := .type "list", data := .seq (slicePick items lo hi Option.none) } } := by
    intro a vs hl hr ho
    refine ⟨a, vs.toArray, lo, hi, ho, hl, by rw [List.size_toArray, hr.length]; exact hsz, pl, pu, ?_⟩
    rw [slicePick_sliceL vs lo hi hlo hhi]
    have hk : ∀ b o, s₃.heap.get? b = Option.some o → ((s₃.heap.push { cls := .type "slice", data := .fields #[vl, vu, .none] }).push { cls := .type "list", data := .seq (sliceL lo hi vs).toArray }).get? b = Option.some o := fun b o e => Heap.get?_push_of_some _ (Heap.get?_push_of_some _ e)
    have hsz1 : (s₃.heap.push { cls := .type "slice", data := .fields #[vl, vu, .none] }).objs.size = s₃.heap.objs.size + 1 := Heap.size_push ..
    have hnew := Heap.get?_push_size (s₃.heap.push { cls := .type "slice", data := .fields #[vl, vu, .none] }) (o := { cls := .type "list", data := .seq (sliceL lo hi vs).toArray }) rfl
    rw [hsz1] at hnew
    have hna : s₃.heap.get? (s₃.heap.objs.size + 1) = Option.none := by
      cases e : s₃.heap.get? (s₃.heap.objs.size + 1) with
      | none => rfl
      | some o => exact absurd (Heap.lt_size e) (Nat.not_lt.mpr (Nat.le_succ _))
    obtain ⟨I', k, nd⟩ := I₃.add (mo := .list (sliceL lo hi xs)) hk hna ⟨sliceL lo hi vs, 0, hnew, (hr.slice lo hi).keep (.of_keeps hk)⟩ s₃.toks
    exact ⟨_, _, by unfold VR; rfl, I', ((k₁.trans k₂).trans k₃).trans k, q _ nd⟩
  have r₃ := (r₁.keep (I₁.tupKeep k₂)).keep (I₂.tupKeep k₃)
  rcases hx with ⟨a, rfl, hm⟩ | ⟨ns, rfl, rfl⟩
  · unfold VR at r₃
    obtain ⟨vs, m, ho, hr⟩ := I₃.objs _ hm
    exact main a vs ⟨_, ho, rfl, m, rfl⟩ hr r₃
  · unfold VR at r₃
    obtain ⟨a, vs, ho, ⟨ob, hb, hc, m, hd⟩, hi'⟩ := r₃
    exact main a vs ⟨ob, I₃.base _ _ hb, hc, m, hd⟩ (intsVR hi') ho

/-! lists joined, changed -/
theorem W2.addL {a b : Addr} {xs ys : List MV} (h1 : (a, MO.list xs) ∈ H) (h2 : (b, MO.list ys) ∈ H) (hsz : xs.length + ys.length ≤ sizeLine) (q : ∀ D, ¬ dom H D → Q (.ref D) ((D, .list (xs ++ ys)) :: H)) : W2 C A H (binaryOp .Add) (.ref a) (.ref b) Q := by
  intro s u v I r₁ r₂
  unfold VR at r₁ r₂; subst r₁; subst r₂
  obtain ⟨vs, m, ho, hr⟩ := I.objs _ h1
  obtain ⟨ws, m2, ho2, hr2⟩ := I.objs _ h2
  have e : vs.toArray ++ ws.toArray = (vs ++ ws).toArray := by simp
  refine concat_meets ⟨_, ho, rfl⟩ ⟨_, ho2, rfl⟩ noFill_list_add seq_list_add PySem.F.slot_list_add PySem.F.entry_list_add (PySem.F.args_list_add_2 _ _) (list_addW a b vs.toArray ws.toArray m m2 none none #[] #[] (by simp [hr.length, hr2.length]; exact hsz)) ⟨ho, ho2, ?_⟩
  rw [e]
  exact EP.newList I (hr.append hr2) q
/-! data of ints -/
theorem dps_ints (g : List Int) : Dps H (g.map .int) (g.map .int) := by
  induction g with
  | nil => exact .nil
  | cons a g ih => exact .cons (.int a) ih
theorem canLay_ints (g : List Int) : PyData.canLayAll0 (g.map .int) = true := by
  induction g with
  | nil => rfl
  | cons a g ih => simp [PyData.canLayAll0, PyData.canLay0, ih]
theorem W2.eqSame {x y : MV} {d : PyData} (hA : AOk C A n) (hx : Dp H x d) (hy : Dp H y d) (sx : SeqAt.shaped d = true) (q : Q (.bool true) H) : W2 C A H (compareOp .Eq) x y Q :=
  W2.eqD hA hx hy sx sx (by rw [SeqAt.eqv_refl d (SeqAt.canLay_of_shaped sx)]; exact q)
theorem depth_ints (g : List Int) : PyData.depthAll (g.map .int) = 0 := by
  induction g with
  | nil => rfl
  | cons a g ih => simp [PyData.depthAll, PyData.depth, ih]
theorem shaped_listI (g : List Int) : SeqAt.shaped (.list (g.map .int)) = true := by
  simp [SeqAt.shaped, PyData.canLay0, canLay_ints, PyData.depth, depth_ints]
/-! roads: triples of ints -/
abbrev Rd := Int × Int × Int
abbrev rdV (r : Rd) : MV := .tup [.int r.1, .int r.2.1, .int r.2.2]
end
/-! the ways of a test -/
section
variable {P Q : Prop}
theorem if_t {inst : Decidable (true = true)} (h : P) : @ite Prop (true = true) inst P Q := by rw [if_pos rfl]; exact h
theorem if_f {inst : Decidable (false = true)} (h : Q) : @ite Prop (false = true) inst P Q := by rw [if_neg Bool.false_ne_true]; exact h
theorem if_nt {inst : Decidable ((!true) = true)} (h : Q) : @ite Prop ((!true) = true) inst P Q := by rw [if_neg (show ¬ ((!true) = true) from Bool.false_ne_true)]; exact h
theorem if_nf {inst : Decidable ((!false) = true)} (h : P) : @ite Prop ((!false) = true) inst P Q := by rw [if_pos (show (!false) = true from rfl)]; exact h
theorem if_b {b : Bool} {inst : Decidable (b = true)} (h1 : b = true → P) (h2 : b = false → Q) : @ite Prop (b = true) inst P Q := by
  cases b with
  | true => rw [if_pos rfl]; exact h1 rfl
  | false => rw [if_neg Bool.false_ne_true]; exact h2 rfl
theorem if_d {p : Prop} [Decidable p] {inst : Decidable (decide p = true)} (h1 : p → P) (h2 : ¬ p → Q) : @ite Prop (decide p = true) inst P Q :=
  if_b (fun h => h1 (of_decide_eq_true h)) fun h => h2 (of_decide_eq_false h)
theorem if_nd {p : Prop} [Decidable p] {inst : Decidable ((!decide p) = true)} (h1 : ¬ p → P) (h2 : p → Q) : @ite Prop ((!decide p) = true) inst P Q :=
  if_b (fun h => h1 (by simpa using h)) fun h => h2 (by simpa using h)
theorem if_eq {a b : Int} {inst : Decidable ((a == b) = true)} (h1 : a = b → P) (h2 : ¬ a = b → Q) : @ite Prop ((a == b) = true) inst P Q :=
  if_b (fun h => h1 (by simpa using h)) fun h => h2 (by simpa using h)
theorem if_ne {a b : Int} {inst : Decidable ((a != b) = true)} (h1 : ¬ a = b → P) (h2 : a = b → Q) : @ite Prop ((a != b) = true) inst P Q :=
  if_b (fun h => h1 (by simpa using h)) fun h => h2 (by simpa using h)
end
section
variable {C : Cx} {A : Around} {env : Env} {gs : List Str} {S : Sg} {H : Hp} {n : Nat}
theorem ct_nil {K : Bool → Hp → Prop} (h : K true H) : CT C A env gs S H [] K := h
theorem ct_one {c : Expr} {K : Bool → Hp → Prop} (h : WT C A env gs S H c K) : CT C A env gs S H [c] K := h
theorem comp_intro {gsc : List Str} {caps : Sg} {x : Str} {ifs : List Expr} {elt : Expr} {K : List MV → Hp → Prop} {xs : List MV} {Ok : Hp → Prop} {H₁ : Hp} (J : Nat → List MV → Hp → Prop) (hl : xs.length ≤ sizeLine) (h0 : J 0 [] H₁)
    (hok : ∀ i ys H, J i ys H → Ok H ∧ ys.length ≤ i)
    (turn : ∀ i v ys H cenv, xs[i]? = some v → J i ys H → CT C A cenv gsc ((x, some v) :: caps) H ifs fun b H₂ => if b = true then WE C A cenv gsc ((x, some v) :: caps) H₂ elt fun y H₃ => J (i + 1) (ys ++ [y]) H₃ else J (i + 1) ys H₂)
    (fin : ∀ ys H', J xs.length ys H' → K ys H') : CompJ C A gsc caps x ifs elt K xs Ok H₁ := ⟨hl, J, h0, hok, turn, fin⟩
theorem for_intro {Q : Fl → Sg → Hp → Prop} {target : Expr} {body : List Stmt} {xs : List MV} {Ok : Hp → Prop} {H₁ : Hp} (I : Nat → Sg → Hp → Prop) (h0 : I 0 S H₁) (hok : ∀ i S H, I i S H → Ok H)
    (turn : ∀ i x S H, xs[i]? = some x → I i S H → WA C A env gs S H target x fun S₁ H₁ => WSs C A env gs S₁ H₁ body (LoopQ Q (I (i + 1)))) (fin : ∀ S H, I xs.length S H → Q .next S H) :
    ∃ I : Nat → Sg → Hp → Prop, I 0 S H₁ ∧ (∀ i S H, I i S H → Ok H) ∧
      (∀ i x S H, xs[i]? = some x → I i S H → WA C A env gs S H target x fun S₁ H₁ => WSs C A env gs S₁ H₁ body (LoopQ Q (I (i + 1)))) ∧ ∀ S H, I xs.length S H → Q .next S H := ⟨I, h0, hok, turn, fin⟩
theorem get_lt {α : Type} {l : List α} {i : Nat} {x : α} (h : l[i]? = some x) : i < l.length := by
  rcases Nat.lt_or_ge i l.length with h' | h'
  · exact h'
  · rw [List.getElem?_eq_none h'] at h; cases h
end
end Mine
namespace Mine
open PySem PySem.W PySem.Calls PyProof.Rows
section
variable {C : Cx} {A : Around} {env : Env} {gs : List Str} {S : Sg} {H : Hp} {n : Nat} {Q : MV → Hp → Prop}

theorem WE.neg {x : Expr} {p : Pos} (h : WE C A env gs S H x (fun v H' => ∃ i, v = .int i ∧ Q (.int (-i)) H')) : WE C A env gs S H (.UnaryOp .USub x p) Q := by
  intro s I F
  refine UnaryOp_ (wpAny_mono (h s I F) (fun v s₁ h₁ => ?_) noE)
  first | (refine EP.elim h₁ fun x H₁ r₁ I₁ k₁ hq => ?_; clear h₁) | (refine LP.elim h₁ fun x H₁ r₁ I₁ k₁ hq => ?_; clear h₁) | obtain ⟨x, H₁, r₁, I₁, k₁, hq⟩ := h₁
  obtain ⟨i, rfl, q₁⟩ := hq
  unfold VR at r₁; obtain ⟨t, rfl⟩ := r₁
  exact neg_int ((EP.same I₁ (by unfold VR; exact ⟨_, rfl⟩) q₁).from k₁)

/-! pairs of a set and a price -/
end
end Mine
namespace Mine
open PySem PySem.W PySem.Calls PyProof.Rows

/-! dicts whose keys are ints -/
section
variable {C : Cx} {A : Around} {env : Env} {gs : List Str} {S : Sg} {H : Hp} {n : Nat} {Q : MV → Hp → Prop}

theorem Inv.notMods {s : Shared} (I : Inv C H s) : (s.heap.objs.size == sysModules) = false := by
  obtain ⟨mc, ⟨o, es, ep, ho, _⟩, _⟩ := C.hlim
  have h := Heap.lt_size (I.base _ _ ho)
  have h2 : (2 : Nat) < s.heap.objs.size := h
  have : s.heap.objs.size ≠ (1 : Nat) := by omega
  exact beq_false_of_ne this
theorem WE.dict0 {p : Pos} (q : ∀ D, ¬ dom H D → Q (.ref D) ((D, .dict []) :: H)) : WE C A env gs S H (.Dict [] [] p) Q := by
  intro s I F
  refine wpAny_Dict_empty ?_
  have hk : ∀ b o, s.heap.get? b = some o → (s.heap.push { cls := .type "dict", data := .dict #[] }).get? b = some o := fun b o e => Heap.get?_push_of_some _ e
  obtain ⟨I', k, nd⟩ := I.add (mo := .dict []) hk get_size ⟨I.notMods, [], 0, Heap.get?_push_size _ rfl, rfl⟩ s.toks
  exact ⟨_, _, by unfold VR; rfl, I', k, q _ nd⟩
end
end Mine
namespace Mine
open PySem PySem.W PySem.Calls PyProof.Rows

section
variable {C : Cx} {A : Around} {env : Env} {gs : List Str} {S : Sg} {H : Hp} {n : Nat} {Q : MV → Hp → Prop}

/-! an item of a list set -/
theorem setItem_at {prog : Program} {w : World} {E : Value → Shared → Prop} {s : Shared} {l : Addr} {vs : List Value} {m : Nat} {k : Int} {t : Tok} {v : Value} {Q : Unit → Shared → Prop} (ho : s.heap.get? l = some { cls := .type "list", data := .seq vs.toArray m })
    (h0 : 0 ≤ k) (hfit : k < 2 ^ 63) (hn : k < vs.length)
    (hQ : ∀ h' m', h'.get? l = some { cls := .type "list", data := .seq (vs.set k.toNat v).toArray m' } → Heap.SameBut l s.heap h' → Q () { s with heap := h' }) :
    wpAny (model prog w) A (setItem (.ref l) (.int k t) v) Q E s := by
  have hl : s.heap.IsList l vs.toArray := ⟨_, ho, rfl, m, rfl⟩
  have hd : ({ cls := .type "list", data := .seq vs.toArray m } : Obj).data = .seq vs.toArray m := rfl
  unfold setItem
  try with_reducible refine wpAny_holding ?_
  first | refine wpAny_bind (wpAny_pure ?_) | skip
  refine wpAny_bind (wpAny_sequenceKey hl.typeIs (by decide) ?_)
  refine wpAny_bind (wpAny_callSpecial?_slot (name := Str.ofString "__setitem__") hl.typeIs slot_list_setitem
    (wpAny_call_entry slot_list_setitem hl.typeIs entry_list_setitem ?_ (args_list_setitem _ _ _)))
  show wpAny _ _ (Builtin.List.listSubscript? (.int k t) >>= _) _ _ s
  refine wpAny_bind (wpAny_listSubscript_int (fitsIndex_of h0 hfit) ?_)
  clear hfit
  obtain ⟨j, rfl⟩ := Int.eq_ofNat_of_zero_le h0
  have hj : j < vs.toArray.size := by simp; omega
  have hx' : vs.toArray[j]? = some vs.toArray[j] := Array.getElem?_eq_getElem hj
  show wpAny _ _ ((seqItemAt l j >>= fun r => pure (r.map (j, ·))) >>= _) _ _ s
  refine wpAny_bind (wpAny_bind (wpAny_seqItemAt ho hd (wpAny_pure ?_)))
  rw [hx']
  show wpAny _ _ (setSeqItemAt l j v >>= _) _ _ s
  have hfin : (s.heap.update l (Obj.mapSeq (·.setIfInBounds j v))).get? l = some { cls := .type "list", data := .seq (vs.set j v).toArray m } := by
    rw [Heap.get?_update_self _ ho (by simp [Obj.mapSeq, Obj.isFreed])]
    simp [Obj.mapSeq]
  have hQ' := hQ _ m hfin (Heap.SameBut.update ..)
  refine wpAny_bind (wpAny_setSeqItemAt ho hd ?_)
  first
    | exact wpAny_bind (wpAny_pure (wpAny_pure ⟨.none, rfl, wpAny_pure hQ'⟩))
    | exact wpAny_pure ⟨.none, rfl, wpAny_pure hQ'⟩
theorem W3.setL {k : Int} {a : Addr} {xs : List MV} {x : MV} {H' : Hp} {K : Hp → Prop} (hm : (a, MO.list xs) ∈ H) (h0 : 0 ≤ k) (hk : k < xs.length) (hfit : k < 2 ^ 63) (u : Upd H a (.list (xs.set k.toNat x)) H') (q : K H') :
    W3 C A H (.ref a) (.int k) x K := by
  intro s a' b c I r₁ r₂ r₃
  unfold VR at r₁ r₂
  subst r₁
  obtain ⟨t, rfl⟩ := r₂
  obtain ⟨vs, m, ho, hr⟩ := I.objs _ hm
  refine setItem_at ho h0 hfit (by rw [hr.length]; exact hk) fun h' m' hn hsb => ?_
  have tk : TupKeep s.heap h' := fun b o e hi => hsb.extBut b o (fun q => I.noTup e hi (by rw [q]; exact List.mem_map_of_mem (f := (·.1)) hm)) e
  obtain ⟨I', k'⟩ := I.upd hm u hsb.extBut ⟨_, m', hn, (hr.set r₃).keep tk⟩ s.toks
  exact ⟨H', I', k', q⟩

/-! isinstance -/
inductive Isi (H : Hp) : MV → String → Bool → Prop
  | ii {i} : Isi H (.int i) "int" true
  | ib {i} : Isi H (.int i) "bool" false
  | bi {b} : Isi H (.bool b) "int" true
  | bb {b} : Isi H (.bool b) "bool" true
  | ni : Isi H .none "int" false
  | nb : Isi H .none "bool" false
  | si {x} : Isi H (.str x) "int" false
  | sb {x} : Isi H (.str x) "bool" false
  | ti {l} : Isi H (.tup l) "int" false
  | tb {l} : Isi H (.tup l) "bool" false
  | tt {l} : Isi H (.tup l) "tuple" true
  | li {a xs} : (a, MO.list xs) ∈ H → Isi H (.ref a) "int" false
  | lb {a xs} : (a, MO.list xs) ∈ H → Isi H (.ref a) "bool" false
  | ll {a xs} : (a, MO.list xs) ∈ H → Isi H (.ref a) "list" true
  | di {a es} : (a, MO.dict es) ∈ H → Isi H (.ref a) "int" false
  | db {a es} : (a, MO.dict es) ∈ H → Isi H (.ref a) "bool" false
theorem WC.isi {x : MV} {T : String} {b : Bool} (h : Isi H x T b) (q : Q (.bool b) H) : WC C A H (.builtin "isinstance") [x, .raw (.type T)] Q := by
  cases h with
  | ii => exact WC.isiII q
  | ib => exact WC.isiIB q
  | bi => exact WC.isiBI q
  | bb => exact WC.isiBB q
  | tt => exact WC.isiTT q
  | ll hm => exact WC.isiLL hm q
  | ni =>
      refine WC.of2 fun s u v I r₁ r₂ => ?_
      unfold VR at r₁ r₂; subst r₁; subst r₂
      exact IsiPair.NoneType_int (EP.same I (by unfold VR; rfl) q)
  | nb =>
      refine WC.of2 fun s u v I r₁ r₂ => ?_
      unfold VR at r₁ r₂; subst r₁; subst r₂
      exact IsiPair.NoneType_bool (EP.same I (by unfold VR; rfl) q)
  | si =>
      refine WC.of2 fun s u v I r₁ r₂ => ?_
      unfold VR at r₁ r₂; obtain ⟨t, rfl⟩ := r₁; subst r₂
      exact IsiPair.str_int (EP.same I (by unfold VR; rfl) q)
  | sb =>
      refine WC.of2 fun s u v I r₁ r₂ => ?_
      unfold VR at r₁ r₂; obtain ⟨t, rfl⟩ := r₁; subst r₂
      exact IsiPair.str_bool (EP.same I (by unfold VR; rfl) q)
  | ti =>
      refine WC.of2 fun s u v I r₁ r₂ => ?_
      unfold VR at r₁ r₂; obtain ⟨a, vs, rfl, ⟨o, ho, hc, n, hd⟩, hr⟩ := r₁; subst r₂
      exact IsiPair.tuple_int ho hc (EP.same I (by unfold VR; rfl) q)
  | tb =>
      refine WC.of2 fun s u v I r₁ r₂ => ?_
      unfold VR at r₁ r₂; obtain ⟨a, vs, rfl, ⟨o, ho, hc, n, hd⟩, hr⟩ := r₁; subst r₂
      exact IsiPair.tuple_bool ho hc (EP.same I (by unfold VR; rfl) q)
  | li hm =>
      refine WC.of2 fun s u v I r₁ r₂ => ?_
      unfold VR at r₁ r₂; subst r₁; subst r₂
      obtain ⟨vs, n, ho, hr⟩ := I.objs _ hm
      exact IsiPair.list_int ho rfl (EP.same I (by unfold VR; rfl) q)
  | lb hm =>
      refine WC.of2 fun s u v I r₁ r₂ => ?_
      unfold VR at r₁ r₂; subst r₁; subst r₂
      obtain ⟨vs, n, ho, hr⟩ := I.objs _ hm
      exact IsiPair.list_bool ho rfl (EP.same I (by unfold VR; rfl) q)
  | di hm =>
      refine WC.of2 fun s u v I r₁ r₂ => ?_
      unfold VR at r₁ r₂; subst r₁; subst r₂
      obtain ⟨_, vs, n, ho, hr⟩ := I.objs _ hm
      exact IsiPair.dict_int ho rfl (EP.same I (by unfold VR; rfl) q)
  | db hm =>
      refine WC.of2 fun s u v I r₁ r₂ => ?_
      unfold VR at r₁ r₂; subst r₁; subst r₂
      obtain ⟨_, vs, n, ho, hr⟩ := I.objs _ hm
      exact IsiPair.dict_bool ho rfl (EP.same I (by unfold VR; rfl) q)
/-- isinstance(e, T) -/
theorem WE.isi {e : Expr} {t : Str} {T : String} {p p2 pos : Pos} (hx : Str.ofString "isinstance" ∈ gs) (g : Gl C "isinstance" (.builtin "isinstance")) (ht : t ∈ gs) (gt : Gl C t (.type T))
    (h : WE C A env gs S H e fun x H' => ∃ b, Isi H' x T b ∧ Q (.bool b) H') (he : starEach [e, .Name t p2] env = [(false, eval e env), (false, eval (.Name t p2) env)] := by with_unfolding_all rfl) :
    WE C A env gs S H (.Call (.Name "isinstance" p) [e, .Name t p2] [] pos) Q := by
  refine WE.callB hx g (WEs.cons (h.mono fun x H' h' => ?_) ?_) ?_ ?_
  · obtain ⟨b, hi, q⟩ := h'
    exact WEs.cons (WE.gl ht gt (WEs.nil (WC.isi hi q)))
  · rw [he]; rfl
  · rw [he]; rfl
  · rfl
inductive Len (H : Hp) : MV → Nat → Prop
  | list {a xs} : (a, MO.list xs) ∈ H → Len H (.ref a) xs.length
  | tup {l} : Len H (.tup l) l.length
  | fl {l} : Len H (.fl l) l.length
/-- len(e) -/
theorem WE.len {e : Expr} {p pos : Pos} (hx : Str.ofString "len" ∈ gs) (g : Gl C "len" (.builtin "len"))
    (h : WE C A env gs S H e fun x H' => ∃ k, Len H' x k ∧ k < 2 ^ 62 ∧ Q (.int k) H') (he : starEach [e] env = [(false, eval e env)] := by with_unfolding_all rfl) :
    WE C A env gs S H (.Call (.Name "len" p) [e] [] pos) Q := by
  refine WE.callB hx g (WEs.cons (h.mono fun x H' h' => WEs.nil ?_) ?_) ?_ ?_
  · obtain ⟨k, hi, hk, q⟩ := h'
    cases hi with
    | list hm => exact WC.lenL hm hk q
    | tup => exact WC.lenT hk q
    | fl => exact WC.lenF hk q
  · rw [he]; rfl
  · rw [he]; rfl
  · rfl

theorem Len.listM {α : Type} {a : Addr} {f : α → MV} {l : List α} (h : (a, MO.list (l.map f)) ∈ H) : Len H (.ref a) l.length := by
  have := Len.list h
  rwa [List.length_map] at this
theorem W2.itemM {α : Type} {value slice : Expr} {a : Addr} {f : α → MV} {l : List α} {k : Int} {x : α} (hm : (a, MO.list (l.map f)) ∈ H) (h0 : 0 ≤ k) (hx : l[k.toNat]? = some x) (hhi : k < 2 ^ 63) (q : Q (f x) H) (hs : plainSlice slice := by intro _ _; with_unfolding_all rfl) :
    W2 C A H (subscriptTail value slice) (.ref a) (.int k) Q := W2.itemL hm h0 (by rw [List.getElem?_map, hx]; rfl) hhi q hs

/-! is None -/
def isNone : MV → Bool
  | .none => true
  | _ => false
def noRaw : MV → Bool
  | .raw _ => false
  | _ => true
theorem plain_none {b h : Heap} {x : MV} {v : Value} (hx : noRaw x = true) (r : VR b h x v) : plainIs v .none = true ∧ (v == Value.none) = isNone x := by
  cases x with
  | none => unfold VR at r; subst r; exact ⟨rfl, rfl⟩
  | bool b => unfold VR at r; subst r; exact ⟨rfl, rfl⟩
  | int i => unfold VR at r; obtain ⟨t, rfl⟩ := r; exact ⟨rfl, rfl⟩
  | str i => unfold VR at r; obtain ⟨t, rfl⟩ := r; exact ⟨rfl, rfl⟩
  | tup l => unfold VR at r; obtain ⟨a, vs, rfl, _⟩ := r; exact ⟨rfl, rfl⟩
  | ref a => unfold VR at r; subst r; exact ⟨rfl, rfl⟩
  | fl l => unfold VR at r; obtain ⟨a, vs, rfl, _⟩ := r; exact ⟨rfl, rfl⟩
  | rng i j => unfold VR at r; obtain ⟨a, t, u, w, rfl, _⟩ := r; exact ⟨rfl, rfl⟩
  | raw v => cases hx
theorem W2.isNone {x : MV} (hx : noRaw x = true) (q : Q (.bool (isNone x)) H) : W2 C A H (compareOp .Is) x .none Q := by
  intro s u v I r₁ r₂
  obtain ⟨h1, h2⟩ := plain_none hx r₁
  unfold VR at r₂; subst r₂
  exact wpAny_is_plain h1 (by rw [h2]; exact EP.here I (by unfold VR; rfl) q)
theorem W2.isNotNone {x : MV} (hx : noRaw x = true) (q : Q (.bool (!Mine.isNone x)) H) : W2 C A H (compareOp .IsNot) x .none Q := by
  intro s u v I r₁ r₂
  obtain ⟨h1, h2⟩ := plain_none hx r₁
  unfold VR at r₂; subst r₂
  exact wpAny_isNot_plain h1 (by rw [h2]; exact EP.here I (by unfold VR; rfl) q)
end
end Mine
namespace Mine
open PySem PySem.W PySem.Calls PyProof.Rows

/-! equal things of any kind, where the parts are the same -/
mutual
inductive Sm (H : Hp) : Nat → MV → MV → Prop
  | none {n} : Sm H n .none .none
  | bool {n} (b : Bool) : Sm H n (.bool b) (.bool b)
  | int {n} (i : Int) : Sm H n (.int i) (.int i)
  | str {n} (x : Str) : Sm H n (.str x) (.str x)
  | ref {n} (a : Addr) : Sm H n (.ref a) (.ref a)
  | tup {n} {xs ys : List MV} : Sms H n xs ys → Sm H (n + 1) (.tup xs) (.tup ys)
  | list {n} {a b : Addr} {xs ys : List MV} : (a, MO.list xs) ∈ H → (b, MO.list ys) ∈ H → Sms H n xs ys → Sm H (n + 1) (.ref a) (.ref b)
inductive Sms (H : Hp) : Nat → List MV → List MV → Prop
  | nil {n} : Sms H n [] []
  | cons {n} {x y : MV} {xs ys : List MV} : Sm H n x y → Sms H n xs ys → Sms H n (x :: xs) (y :: ys)
end
section
variable {C : Cx} {env : Env} {gs : List Str} {S : Sg} {H : Hp} {Q : MV → Hp → Prop}
mutual
theorem Sm.eqAt {s : Shared} (I : Inv C H s) : ∀ {n : Nat} {x y : MV}, Sm H n x y → ∀ {A : Around} {u v : Value}, VR C.h₀ s.heap x u → VR C.h₀ s.heap y v → A.units + n < cLine → SeqAt.EqAt A s u v true
  | _, _, _, .none, A, u, v, r1, r2, _ => by unfold VR at r1 r2; subst r1; subst r2; exact SeqAt.EqAt.same _
  | _, _, _, .bool b, A, u, v, r1, r2, _ => by unfold VR at r1 r2; subst r1; subst r2; exact SeqAt.EqAt.same _
  | _, _, _, .ref a, A, u, v, r1, r2, _ => by unfold VR at r1 r2; subst r1; subst r2; exact SeqAt.EqAt.same _
  | _, _, _, .int i, A, u, v, r1, r2, _ => by
    unfold VR at r1 r2; obtain ⟨t, rfl⟩ := r1; obtain ⟨t', rfl⟩ := r2
    have := SeqAt.EqAt.int_int (A := A) (s := s) i t i t'
    rwa [beq_self_eq_true] at this
  | _, _, _, .str i, A, u, v, r1, r2, _ => by
    unfold VR at r1 r2; obtain ⟨t, rfl⟩ := r1; obtain ⟨t', rfl⟩ := r2
    have := SeqAt.EqAt.str_str (A := A) (s := s) i t i t'
    rwa [beq_self_eq_true] at this
  | _, _, _, .tup hs, A, u, v, r1, r2, hu => by
    unfold VR at r1 r2
    obtain ⟨a, us, rfl, ht1, hr1⟩ := r1
    obtain ⟨b, vs, rfl, ht2, hr2⟩ := r2
    by_cases hab : a = b
    · subst hab; exact SeqAt.EqAt.same _
    · obtain ⟨hl, he⟩ := Sms.eqAt I hs (A := A.in1) hr1 hr2 (by show A.units + 1 + _ < _; omega)
      have := SeqAt.RcAt.tuples (A := A) (e := fun _ => true) ht1 ht2 (by omega) (fun j h1 h2 => by simpa using he j (by simpa using h1) (by simpa using h2))
      rw [show ((List.range (min us.toArray.size vs.toArray.size)).all (fun _ => true) && us.toArray.size == vs.toArray.size) = true by simp [hl]] at this
      exact SeqAt.EqAt.of_refs hab this
  | _, _, _, .list (a := a) (b := b) h1 h2 hs, A, u, v, r1, r2, hu => by
    unfold VR at r1 r2
    subst r1; subst r2
    by_cases hab : a = b
    · subst hab; exact SeqAt.EqAt.same _
    · obtain ⟨us, m1, ho1, hr1⟩ := I.objs _ h1
      obtain ⟨vs, m2, ho2, hr2⟩ := I.objs _ h2
      obtain ⟨hl, he⟩ := Sms.eqAt I hs (A := A.in1) hr1 hr2 (by show A.units + 1 + _ < _; omega)
      have := SeqAt.RcAt.lists (A := A) (e := fun _ => true) (items := us.toArray) (items2 := vs.toArray) ⟨_, ho1, rfl, m1, rfl⟩ ⟨_, ho2, rfl, m2, rfl⟩ (by simp [hl]) (by omega) (fun j h1 h2 => by simpa using he j (by simpa using h1) (by simpa using h2))
      rw [show ((List.range us.toArray.size).all fun _ => true) = true by simp] at this
      exact SeqAt.EqAt.of_refs hab this
theorem Sms.eqAt {s : Shared} (I : Inv C H s) : ∀ {n : Nat} {xs ys : List MV}, Sms H n xs ys → ∀ {A : Around} {us vs : List Value}, VRs C.h₀ s.heap xs us → VRs C.h₀ s.heap ys vs → A.units + n < cLine →
    us.length = vs.length ∧ ∀ (j : Nat) (h1 : j < us.length) (h2 : j < vs.length), SeqAt.EqAt A s us[j] vs[j] true
  | _, _, _, .nil, A, us, vs, r1, r2, _ => by
    have := r1.inv0; subst this
    have := r2.inv0; subst this
    exact ⟨rfl, fun j h => absurd h (Nat.not_lt_zero _)⟩
  | _, _, _, .cons h hs, A, us, vs, r1, r2, hu => by
    obtain ⟨u, us', rfl, q1, q2⟩ := r1.inv
    obtain ⟨v, vs', rfl, q3, q4⟩ := r2.inv
    obtain ⟨hl, he⟩ := Sms.eqAt I hs q2 q4 hu
    refine ⟨by simp [hl], fun j h1 h2 => ?_⟩
    cases j with
    | zero => exact Sm.eqAt I h q1 q3 hu
    | succ j => exact he j (by simpa using h1) (by simpa using h2)
end
variable {A : Around} {n : Nat}
theorem W2.eqSm {a b : Addr} {xs ys : List MV} {k : Nat} (hA : AOk C A n) (h1 : (a, MO.list xs) ∈ H) (h2 : (b, MO.list ys) ∈ H) (hs : Sms H k xs ys) (hk : k ≤ 50) (q : Q (.bool true) H) : W2 C A H (compareOp .Eq) (.ref a) (.ref b) Q := by
  intro s u v I r₁ r₂
  unfold VR at r₁ r₂; subst r₁; subst r₂
  obtain ⟨us, m1, ho1, hr1⟩ := I.objs _ h1
  obtain ⟨vs, m2, ho2, hr2⟩ := I.objs _ h2
  have := hA.units
  obtain ⟨hl, he⟩ := Sms.eqAt I hs (A := A.in1) hr1 hr2 (by show A.units + 1 + _ < _; omega)
  have key := SeqAt.RcAt.lists (A := A) (e := fun _ => true) (items := us.toArray) (items2 := vs.toArray) ⟨_, ho1, rfl, m1, rfl⟩ ⟨_, ho2, rfl, m2, rfl⟩ (by simp [hl]) (by omega) (fun j h1 h2 => by simpa using he j (by simpa using h1) (by simpa using h2))
  rw [show ((List.range us.toArray.size).all fun _ => true) = true by simp] at key
  exact key C.prog C.w _ _ (EP.here I (by unfold VR; rfl) q)
theorem W2.neSm {a b : Addr} {xs ys : List MV} {k : Nat} (hA : AOk C A n) (h1 : (a, MO.list xs) ∈ H) (h2 : (b, MO.list ys) ∈ H) (hs : Sms H k xs ys) (hk : k ≤ 50) (q : Q (.bool false) H) : W2 C A H (compareOp .NotEq) (.ref a) (.ref b) Q := by
  intro s u v I r₁ r₂
  unfold VR at r₁ r₂; subst r₁; subst r₂
  obtain ⟨us, m1, ho1, hr1⟩ := I.objs _ h1
  obtain ⟨vs, m2, ho2, hr2⟩ := I.objs _ h2
  have := hA.units
  obtain ⟨hl, he⟩ := Sms.eqAt I hs (A := A.in1) hr1 hr2 (by show A.units + 1 + _ < _; omega)
  have key := SeqAt.RcNeAt.lists (A := A) (e := fun _ => true) (items := us.toArray) (items2 := vs.toArray) ⟨_, ho1, rfl, m1, rfl⟩ ⟨_, ho2, rfl, m2, rfl⟩ (by simp [hl]) (by omega) (fun j h1 h2 => by simpa using he j (by simpa using h1) (by simpa using h2))
  rw [show (!(List.range us.toArray.size).all fun _ => true) = false by simp] at key
  exact key C.prog C.w _ _ (EP.here I (by unfold VR; rfl) q)

theorem sm_rd (r : Rd) : Sm H 1 (rdV r) (rdV r) := .tup (.cons (.int _) (.cons (.int _) (.cons (.int _) .nil)))
theorem sms_rds (R : List Rd) : Sms H 1 (R.map rdV) (R.map rdV) := by
  induction R with
  | nil => exact .nil
  | cons r R ih => exact .cons (sm_rd r) ih
theorem sms_self {n : Nat} : ∀ {xs : List MV}, (∀ x ∈ xs, Sm H n x x) → Sms H n xs xs
  | [], _ => .nil
  | x :: xs, h => .cons (h x List.mem_cons_self) (sms_self fun y hy => h y (List.mem_cons_of_mem _ hy))
end
end Mine
namespace Mine
open PySem PySem.Calls PyProof.Rows
/-! exceptions: what raising and catching does to the heap -/
theorem noHeap_get (b : Addr) : ({} : Heap).get? b = none := by
  unfold Heap.get?
  simp
/-- the frames that wait, the innermost first -/
structure Frs (A : Around) (l : List Env) (h : Heap) : Prop where
  fr : A.frames = some l
  at' : ∀ env ∈ l, env.scope.kind ≠ .module ∧ env.frame = some env.locals ∧ ∃ o ds k, h.get? env.locals = some o ∧ o.data = .dict ds k
abbrev locs (l : List Env) : List Addr := l.map (·.locals)
theorem Frs.fun_ {l : List Env} {h : Heap} (F : ∀ env ∈ l, env.scope.kind ≠ .module ∧ env.frame = some env.locals ∧ ∃ o ds k, h.get? env.locals = some o ∧ o.data = .dict ds k) : h.FunFrames {} l := by
  induction l with
  | nil => trivial
  | cons env l ih =>
    obtain ⟨h1, h2, o, ds, k, h3, h4⟩ := F env List.mem_cons_self
    exact ⟨h1, ⟨_, o, h2, noHeap_get _, h3, fun vs q => by rw [h4] at q; cases q⟩, ih fun x hx => F x (List.mem_cons_of_mem _ hx)⟩
theorem Frs.locs {l : List Env} {h : Heap} (F : ∀ env ∈ l, env.scope.kind ≠ .module ∧ env.frame = some env.locals ∧ ∃ o ds k, h.get? env.locals = some o ∧ o.data = .dict ds k) : l.filterMap (·.frame) = locs l := by
  induction l with
  | nil => rfl
  | cons env l ih =>
    have := ih fun x hx => F x (List.mem_cons_of_mem _ hx)
    simp only [List.filterMap_cons, (F env List.mem_cons_self).2.1, this, Mine.locs, List.map_cons]
def Chg (fr ex : List Addr) (h h' : Heap) : Prop := ∀ b o, h.get? b = some o → b ∉ ex → (b ∉ fr → h'.get? b = some o) ∧ ∃ sl, h'.get? b = some { o with slots := sl }
def Exc (h : Heap) (e T : Addr) (cls ctx fl : Value) : Prop :=
  ∃ oe vs oT ts, h.get? e = some oe ∧ oe.cls = cls ∧ oe.data = .fields vs ∧ vs[1]? = some (.ref T) ∧ vs[2]? = some ctx ∧ T ≠ e ∧ h.get? T = some oT ∧ oT.cls = .type "traceback" ∧ oT.data = .fields ts ∧ ts[3]? = some fl
section
variable {M : Model} {A : Around} {E : Value → Shared → Prop} {s : Shared} {env : Env} {outer : List Env} {e T : Addr} {cls ctx fl : Value} {Q : Unit → Shared → Prop}
theorem entryC {oe : Obj} {vs : Array Value} {head : Value} {hadNext : Bool} (F : Frs A (env :: outer) s.heap) (he : s.heap.get? e = some oe) (hd : oe.data = .fields vs) (hsz : 1 < vs.size) (h2 : vs[2]? = some ctx)
    (h : ∀ h' T, s.heap.get? T = none → Chg (locs (env :: outer)) [e] s.heap h' → Exc h' e T oe.cls ctx (rawInt env.locals) → Q () { s with heap := h' }) :
    wpAny M A (do let a ← frameOf env; let pl ← entryPlaceOf env.locals hadNext; let b ← EntryCells.newEntry head a .none (rawInt env.locals) .none pl; setField (.ref e) 1 b) Q E s := by
  have hl := Frs.fun_ F.at'
  have hloc := Frs.locs F.at'
  have hene : e ∉ (env :: outer).filterMap (·.frame) := fun hm => by
    obtain ⟨_, o, ho, hnf⟩ := hl.mem hm
    rw [he] at ho; injection ho with ho; subst ho; exact hnf vs hd
  refine wpAny_bind (wpAny_frameOf_fun F.fr hl (F.at' env List.mem_cons_self).2.1 fun h₁ hs₁ => ?_)
  refine wpAny_bind (wpAny_entryPlaceOf fun pl hpl => ?_)
  unfold EntryCells.newEntry newFields
  refine wpAny_bind (wpAny_newObj_type ?_ (hpl.sizeOk5 _ _ _ _ _))
  have he₁ : h₁.get? e = some oe := (hs₁.2.1 e hene).trans he
  have he₂ := Heap.get?_push_of_some (h := h₁) { cls := .type "traceback", dict := none, data := .fields ([head, .ref env.locals, .none, rawInt env.locals, .none] ++ (if pl.isEmpty then List.replicate 6 Value.none else pl)).toArray } he₁
  have hTe : h₁.objs.size ≠ e := Nat.ne_of_gt (Heap.lt_size he₁)
  have hd₃ := Obj.data_mapFields hd (·.setIfInBounds 1 (Value.ref h₁.objs.size))
  have he₃ := Heap.get?_update_self (Obj.mapFields (·.setIfInBounds 1 (Value.ref h₁.objs.size))) he₂ (Obj.isFreed_of_fields hd₃)
  have hT₃ := (Heap.get?_update_other (h₁.push { cls := .type "traceback", dict := none, data := .fields ([head, .ref env.locals, .none, rawInt env.locals, .none] ++ (if pl.isEmpty then List.replicate 6 Value.none else pl)).toArray })
    (Obj.mapFields (·.setIfInBounds 1 (Value.ref h₁.objs.size))) (Ne.symm hTe)).trans (Heap.get?_push_size h₁ rfl)
  refine wpAny_setField he₂ hd hsz (h _ h₁.objs.size ?_ (fun b o hb hn => ?_) ?_)
  · have hz : h₁.objs.size = s.heap.objs.size := hs₁.1
    rw [hz]
    cases q : s.heap.get? s.heap.objs.size with
    | none => rfl
    | some o => exact absurd (Heap.lt_size q) (Nat.lt_irrefl _)
  · have hbe : b ≠ e := fun q => hn (by simp [q])
    have keep : ∀ o', h₁.get? b = some o' → ((h₁.push { cls := .type "traceback", dict := none, data := .fields ([head, .ref env.locals, .none, rawInt env.locals, .none] ++ (if pl.isEmpty then List.replicate 6 Value.none else pl)).toArray }).update e (Obj.mapFields (·.setIfInBounds 1 (Value.ref h₁.objs.size)))).get? b = some o' := fun o' hb' => by
      rw [Heap.get?_update_other _ _ (Ne.symm hbe)]
      exact Heap.get?_push_of_some _ hb'
    refine ⟨fun hfr => keep _ ((hs₁.2.1 b (by rw [hloc]; exact hfr)).trans hb), ?_⟩
    obtain ⟨sl, hs⟩ := hs₁.2.2 b o hb
    exact ⟨sl, keep _ hs⟩
  · exact ⟨_, _, _, _, he₃, Obj.cls_mapFields _ _, hd₃, by simp [hsz], by rw [Array.getElem?_setIfInBounds_ne (by decide)]; exact h2, hTe, hT₃, rfl, rfl, by first | (simp; done) | (rcases hpl with rfl | ⟨_, _, _, _, _, _, _, rfl⟩ <;> simp)⟩
theorem note_first {oe : Obj} {vs : Array Value} (F : Frs A (env :: outer) s.heap) (he : s.heap.get? e = some oe) (hd : oe.data = .fields vs) (h1 : vs[1]? = some .none) (h2 : vs[2]? = some ctx)
    (h : ∀ h' T, s.heap.get? T = none → Chg (locs (env :: outer)) [e] s.heap h' → Exc h' e T oe.cls ctx (rawInt env.locals) → Q () { s with heap := h' }) : wpAny M A (noteFrame (.ref e) env) Q E s := by
  unfold noteFrame
  simp only [(F.at' env List.mem_cons_self).2.1]
  refine wpAny_bind (wpAny_field he hd h1 ?_)
  rw [if_neg (by decide)]
  exact entryC F he hd (Array.getElem?_eq_some_iff.mp h1).1 h2 h
theorem note_next (F : Frs A (env :: outer) s.heap) (X : Exc s.heap e T cls ctx .none)
    (h : ∀ h' T', s.heap.get? T' = none → Chg (locs (env :: outer)) [e, T] s.heap h' → Exc h' e T' cls ctx (rawInt env.locals) → Q () { s with heap := h' }) : wpAny M A (noteFrame (.ref e) env) Q E s := by
  obtain ⟨oe, vs, oT, ts, he, rfl, hd, h1, h2, hTe, hT, hcT, hdT, h3⟩ := X
  unfold noteFrame
  simp only [(F.at' env List.mem_cons_self).2.1]
  refine wpAny_bind (wpAny_field he hd h1 ?_)
  rw [if_pos (show (Value.ref T != Value.none) = true from by simp)]
  refine wpAny_bind (wpAny_field hT hdT h3 ?_)
  rw [if_neg (show ¬ ((Value.none == rawInt env.locals) = true) from by simp [rawInt])]
  refine wpAny_bind (wpAny_setField hT hdT (Array.getElem?_eq_some_iff.mp h3).1 ?_)
  have other : ∀ b, b ≠ T → (s.heap.update T (Obj.mapFields (·.setIfInBounds 3 Value.none))).get? b = s.heap.get? b := fun b hb => Heap.get?_update_other _ _ (Ne.symm hb)
  have hTl : ∀ x ∈ env :: outer, x.locals ≠ T := fun x hx q => by
    obtain ⟨_, _, o, ds, k, ho, hn⟩ := F.at' x hx
    rw [q, hT] at ho; cases ho; rw [hdT] at hn; cases hn
  have F' : Frs A (env :: outer) (s.heap.update T (Obj.mapFields (·.setIfInBounds 3 Value.none))) := ⟨F.fr, fun x hx => by
    obtain ⟨k1, k2, o, ds, k, k3, k4⟩ := F.at' x hx
    exact ⟨k1, k2, o, ds, k, (other _ (hTl x hx)).trans k3, k4⟩⟩
  refine entryC (s := { s with heap := _ }) F' ((other e (Ne.symm hTe)).trans he) hd (Array.getElem?_eq_some_iff.mp h1).1 h2 fun h' T' n1 c1 x1 => ?_
  refine h h' T' ?_ (fun b o hb hn => ?_) x1
  · by_cases q : T' = T
    · subst q
      rw [Heap.get?_update_self _ hT (Obj.isFreed_of_fields (Obj.data_mapFields hdT _))] at n1; cases n1
    · rw [← other T' q]; exact n1
  · have hbT : b ≠ T := fun q => hn (by simp [q])
    exact c1 b o ((other b hbT).trans hb) fun q => hn (by simp at q; simp [q])
theorem flight_none (X : Exc s.heap e T cls ctx fl)
    (h : ∀ h', (∀ b, b ≠ T → h'.get? b = s.heap.get? b) → Exc h' e T cls ctx .none → Q () { s with heap := h' }) : wpAny M A (setFlight (.ref e) none) Q E s := by
  obtain ⟨oe, vs, oT, ts, he, hc, hd, h1, h2, hTe, hT, hcT, hdT, h3⟩ := X
  have hsz3 : 3 < ts.size := (Array.getElem?_eq_some_iff.mp h3).1
  have other : ∀ b, b ≠ T → (s.heap.update T (Obj.mapFields (·.setIfInBounds 3 ((none : Option Addr).elim Value.none fun f => rawInt f)))).get? b = s.heap.get? b := fun b hb => Heap.get?_update_other _ _ (Ne.symm hb)
  unfold setFlight
  refine wpAny_bind (wpAny_field he hd h1 ?_)
  rw [if_pos (show (Value.ref T != Value.none) = true from by simp)]
  refine wpAny_setField hT hdT hsz3 (h _ other ?_)
  exact ⟨oe, vs, _, _, (other e (Ne.symm hTe)).trans he, hc, hd, h1, h2, hTe, Heap.get?_update_self _ hT (Obj.isFreed_of_fields (Obj.data_mapFields hdT _)), (Obj.cls_mapFields ..).trans hcT, Obj.data_mapFields hdT _, by simp [hsz3]⟩
/-- a frame is left by an exception that was just made in it -/
theorem leave_first {oe : Obj} {vs : Array Value} (F : Frs A (env :: outer) s.heap) (he : s.heap.get? e = some oe) (hd : oe.data = .fields vs) (h1 : vs[1]? = some .none) (h2 : vs[2]? = some ctx)
    (h : ∀ h' T, s.heap.get? T = none → Chg (locs (env :: outer)) [e] s.heap h' → Exc h' e T oe.cls ctx .none → Q () { s with heap := h' }) : wpAny M A (leaving env (.ref e)) Q E s := by
  unfold leaving
  refine wpAny_bind (note_first F he hd h1 h2 fun h₁ T n1 c1 x1 => flight_none (s := { s with heap := h₁ }) x1 fun h' k x2 => h h' T n1 (fun b o hb hn => ?_) x2)
  have hbT : b ≠ T := fun q => by rw [q, n1] at hb; cases hb
  rw [k b hbT]
  exact c1 b o hb hn
end
end Mine
set_option maxRecDepth 100000
namespace Mine
open PySem PySem.Calls PyProof.Rows
/-! a class of the text's own, raised and caught -/
section
variable {C : Cx} {A : Around} {env : Env} {gs : List Str} {S : Sg} {H : Hp} {n : Nat}
variable {nm q : Str} {K N : Addr} {bs bm bmB : List Value} {hdct : Bool} {sn : List Str} {sub : List Value} {ab : Bool} {col : Option Bool} {dd : Option Addr} {k0 k1 k2 k3 k5 : Option Value} {B newId initId : String}
/-- what was just raised -/
structure Made (C : Cx) (h : Heap) (K e : Addr) (h' : Heap) : Prop where
  keep : ∀ b o, h.get? b = some o → h'.get? b = some o
  new : h.get? e = none
  obj : ∃ oe vs ctx, h'.get? e = some oe ∧ oe.cls = .ref K ∧ oe.data = .fields vs ∧ vs[1]? = some .none ∧ vs[2]? = some ctx ∧ (C.hd = none → ctx = .none)
theorem raiseStmtC {s : Shared} {x : Sem Value} {Q : Flow → Shared → Prop} {E : Value → Shared → Prop} (hbase : bm.contains (.type "BaseException") = true) (hh : A.handled = C.hd)
    (h : wpAny (Md C) A x (fun v s₁ => ∃ e t h₁, v = .ref e ∧ s₁.heap.get? K = some (excClassObj nm q K N bs bm hdct sn sub ab col dd k0 k1 k2 k3 k5 newId) ∧
      s₁.heap.get? e = some { cls := .ref K, data := .fields #[.ref t, .none, .none, .none, .bool false, .none] } ∧ (∀ b o, h₁.get? b = some o → s₁.heap.get? b = some o) ∧ h₁.get? e = none ∧ (∀ b o, C.h₀.get? b = some o → h₁.get? b = some o) ∧
      ∀ h', Made C h₁ K e h' → E (.ref e) { s₁ with heap := h' }) E s) :
    wpAny (Md C) A (raiseStmt env (some x) none) Q E s := by
  have hcB : (Value.ref K :: bm).contains (.type "BaseException") = true := by rw [List.contains_cons, hbase, Bool.or_true]
  unfold raiseStmt
  refine wpAny_bind (wpAny_mono h (fun v s₁ h₁ => ?_) fun _ _ x => x)
  obtain ⟨e, t, g₁, rfl, hC, he, hk, hn, hb, hE⟩ := h₁
  obtain ⟨hp, g, d, tk, os⟩ := s₁
  repeat (first | with_reducible refine wpAny_loadPart_at he ?_ | with_reducible refine wpAny_loadPart_at hC ?_ | (with_reducible refine wpAny_isSubtype_exc hC ?_; rw [hcB]) | wp_step)
  have hn0 : C.h₀.get? e = none := by
    cases q : C.h₀.get? e with
    | none => rfl
    | some o => have := hb e o q; rw [hn] at this; cases this
  refine raiseNewC (C := C) hh (fun b o vs e1 _ _ => hk b o (hb b o e1)) he rfl (by simp) hn0 fun h' vs' hs hv hi hc => hE h' ⟨fun b o e1 => ?_, hn, ?_⟩
  · rw [hs.2 b (fun q => by rw [q, hn] at e1; cases e1)]
    exact hk b o e1
  · obtain ⟨ctx, c1, c2⟩ := hc
    exact ⟨_, vs', ctx, hv, rfl, rfl, (hi 1 (by decide)).trans rfl, c1, fun q => (Option.some.inj (c2 q)).symm⟩
theorem raiseC {x txt : Str} {k : Nat} {np cp cpos pos : Pos} {Q : Flow → Shared → Prop} {E : Value → Shared → Prop} {s : Shared} (hA : AOk C A n) (hx : x ∈ gs) (hd : (x == ("__debug__" : Str)) = false) (O : OwnCls x K bmB newId C.mg C.h₀) (FB : ExcBaseFacts B newId initId bmB) (I : Inv C H s) (F : Fm C env gs S H s.heap)
    (h : ∀ s₁ e h', Inv C H s₁ → Kp s.heap H s₁.heap H → Made C s₁.heap K e h' → E (.ref e) { s₁ with heap := h' }) :
    wpAny (Md C) A (exec (.Raise (some (.Call (.Name x np) [.Constant (.str txt) k cp] [] cpos)) none pos) env) Q E s := by
  obtain ⟨tl, N, nm, q, bs, hdct, sn, sub, ab, col, dd, k0, k1, k2, k3, k5, mN, hC, hN, hni, T⟩ := O.obj
  rw [arm_exec_Raise]
  refine wpAny_bind (wpAny_standAt (raiseStmtC (C := C) (K := K) (nm := nm) (q := q) (N := N) (bs := bs) (bm := tl) (hdct := hdct) (sn := sn) (sub := sub) (ab := ab) (col := col) (dd := dd) (k0 := k0) (k1 := k1) (k2 := k2) (k3 := k3) (k5 := k5) (newId := newId) (T.hasType FB.hasBase) hA.handled (wpAny_bind (wpAny_mono (wpAny_Call_ofName (wpAny_mono (WE.glob (Q := fun x H' => x = .raw (.ref K) ∧ H' = H) hx O.bound ⟨rfl, rfl⟩ hd s I F) (fun f s₁ h₁ => ?_) noE)) (fun v s₃ h₃ => wpAny_bind (wpAny_standAt (wpAny_pure h₃))) fun _ _ x => x))))
  refine EP.elim h₁ fun y H₁ r₁ I₁ kp₁ hq => ?_
  clear h₁
  obtain ⟨rfl, rfl⟩ := hq
  unfold VR at r₁; subst r₁
  unfold callWith
  have hargs : WEs C A env gs S H₁ [.Constant (.str txt) k cp] fun xs H' => xs = [.str txt] ∧ H' = H₁ := WEs.cons (WE.str (WEs.nil ⟨rfl, rfl⟩))
  refine wpAny_bind (wpAny_holding (wpAny_mono (evalArgs_plain (Q := fun a s₂ => a.kw = [] ∧ a.pos.length = 1 ∧ ∃ H₂, Inv C H₂ s₂ ∧ Kp s₁.heap H₁ s₂.heap H₂ ∧ H₂ = H₁) (wpAny_mono (hargs s₁ cpos I₁ (F.keep I kp₁)) (fun vs s₂ h₂ => ?_) noE)) (fun a s₂ h₂ => wpAny_bind (wpAny_standAt ?_)) fun _ _ x => x))
  · refine LP.elim h₂ fun xs H₂ r₂ I₂ kp₂ hq => ?_
    obtain ⟨rfl, rfl⟩ := hq
    exact ⟨rfl, r₂.length, H₂, I₂, kp₂, rfl⟩
  obtain ⟨apos, akw⟩ := a
  obtain ⟨hkw, hlen, H₂, I₂, kp₂, rfl⟩ := h₂
  obtain rfl : akw = [] := hkw
  have hC₂ := I₂.base _ _ hC
  have hN₂ := hN.keeps I₂.base
  have T₂ := T.keeps I₂.base
  have hm := fun e h' => h s₂ e h' I₂ (kp₁.trans kp₂)
  have hb := I₂.base
  clear I₁ I₂ kp₁ kp₂ h I F
  obtain ⟨hp, g, d, tk, os⟩ := s₂
  simp only
  refine wpAny_bind (wpAny_keeperOf_exc hC₂ ?_)
  refine wpAny_bind (wpAny_call_exc_subT (hrest := by show apos.length ≤ sizeLine; rw [show apos.length = 1 from hlen]; decide) FB T₂ hC₂ hN₂ hni fun h' e hmk => wpAny_bind (wpAny_holding (wpAny_point (wpAny_pure ?_))))
  obtain ⟨t, ht, _, _⟩ := hmk.there
  exact ⟨e, t, hp, rfl, hmk.keeps _ _ hC₂, ht, hmk.keeps, hmk.new, hb, fun h'' hM => hm e h'' hM⟩
end
end Mine
set_option maxRecDepth 100000
namespace Mine
open PySem PySem.Calls PyProof.Rows
section
variable {C : Cx} {A : Around} {H : Hp} {n : Nat} {Q : MV → Hp → Prop}
/-- entering a def, whatever it ends with -/
theorem enter {f name : Str} {params : Arguments} {body : List Stmt} {scope : Scope} (g : Fn C f name params body scope) (hA : AOk C A (n + 1)) {xs : List MV} (ps os gs cs : List Str) (S : Sg)
    (hsc : (scopeOk scope (ps ++ os) gs && cs.all fun x => scope.names.lookup x == some .cell) = true) (hl : xs.length = ps.length)
    (hb : ∀ vs pm cd doc, vs.length = ps.length → bindArgs (docDef name params body scope pm cd doc) ⟨vs, []⟩ = pure (ps.zip vs)) (hS : startS ps xs os = S)
    {a' : Addr} (ha' : C.mg f = some (.ref a')) {s : Shared} {vs : List Value} (I : Inv C H s) (r : VRs C.h₀ s.heap xs vs) {R : Result → Shared → Prop}
    (h : ∀ env s₁, AOk C (A.deeper env) n → EnvK env (ps ++ os) cs → (∀ x, env.kindOf x = scope.names.lookup x) → env.frame = some env.locals → env.scope.kind = .function → (∀ b, Own env b → s.heap.get? b = none) → (∀ b o, s.heap.get? b = some o → s₁.heap.get? b = some o) → Inv C H s₁ → Fm C env gs S H s₁.heap → NoFree env S →
      wpAny (Md C) (A.deeper env) (execs body env) (fun f s' => R (.ok (.ret (match f with | .ret v => v | _ => .none))) s') (fun e s' => wpAny (Md C) (A.deeper env) (leaving env e) (fun _ s'' => R (.error e) s'') (fun e' s'' => R (.error e') s'') s') s₁) :
    codeAny (Md C) A (.call (.ref a') ⟨vs, []⟩) R s := by
  subst hS
  obtain ⟨hsc, hcs⟩ := Bool.and_eq_true_iff.mp hsc
  obtain ⟨a, o, pm, cd, doc, h1, h2, h3, h4⟩ := g.at'
  rw [h1] at ha'; cases ha'
  have hlen : vs.length = ps.length := r.length.trans hl
  have hsc' := hsc
  simp only [scopeOk, Bool.and_eq_true, decide_eq_true_eq, List.all_eq_true, Bool.or_eq_true, beq_iff_eq, Bool.not_eq_true', beq_eq_false_iff_ne] at hsc'
  obtain ⟨⟨⟨⟨⟨⟨nd, hv⟩, hgs⟩, hcn⟩, hk⟩, hco⟩, hgen⟩ := hsc'
  have hnd : ps.Nodup := (List.nodup_append.mp nd).1
  have hroom : A.depth < recursionLimit := by have := hA.depth; omega
  refine codeAny_call_cells (fd := docDef name params body scope pm cd doc) (binds := ps.zip vs) hroom (I.base _ _ h2) h3 (C.hlim.keeps I.base) (h4.keeps I.base) rfl (hb vs pm cd doc hlen) rfl ?_ (fun s₁ X => ?_) hco hgen hk
  · intro x hx
    have hxp : x.1 ∈ ps ++ os := List.mem_append_left _ (List.of_mem_zip (a := x.1) (b := x.2) hx).1
    rcases (hv x.1 hxp).2 with q | q
    · exact .inl q
    · refine .inr ⟨q, ?_⟩
      have : x.1 ∈ (cellsFrom (s.heap.objs.size + 1) scope.names []).map (·.1) := by
        rw [cellsFrom_fst]
        simp only [List.map_nil, List.append_nil, List.mem_reverse]
        exact List.mem_map.mpr ⟨(x.1, .cell), List.mem_filter.mpr ⟨mem_of_lookup q, rfl⟩, rfl⟩
      obtain ⟨c, hc⟩ := mem_lookup this
      show (List.lookup x.1 (cellsFrom (s.heap.objs.size + 1) scope.names [])).isSome = true
      rw [hc]; rfl
  · generalize henv : callEnvC (docDef name params body scope pm cd doc) s.heap.objs.size a' = env at X ⊢
    have eL : env.locals = s.heap.objs.size := by rw [← henv]; rfl
    have eC : env.cells = cellsFrom (s.heap.objs.size + 1) scope.names [] := by rw [← henv]; rfl
    have ok : EnvOk env (ps ++ os) gs := envOk_of hsc (L := s.heap.objs.size) (by rw [← henv]; rfl) (by rw [← henv]; rfl) (by rw [← henv]; rfl) eC eL X.apart (eL ▸ X.above)
    have hk' : ∀ x, env.kindOf x = scope.names.lookup x := fun x => by rw [← henv]; rfl
    obtain ⟨⟨h', tk, hsame⟩, hns, hkeep, hfresh⟩ := X.toInCall
    subst hsame
    have hn := startS_names (os := os) hl
    have fresh : ∀ b, s.heap.objs.size ≤ b → ¬ dom H b ∧ C.h₀.get? b = none := fun b hb => ⟨fun d => Nat.lt_irrefl _ (Nat.lt_of_lt_of_le (I.lt d) hb), by
      cases e : C.h₀.get? b with
      | none => rfl
      | some o => exact absurd (Heap.lt_size (I.base _ _ e)) (Nat.not_lt.mpr hb)⟩
    have I₁ : Inv C H { s with heap := h', toks := tk } := I.grow hkeep tk
    have tkk : TupKeep s.heap h' := .of_keeps hkeep
    have F₁ : Fm C env gs (startS ps xs os) H h' := by
      refine ⟨hn ▸ ok, ⟨_, hns, fun x v at' kl => ?_⟩, (fresh _ (Nat.le_of_eq eL.symm)).1, (fresh _ (Nat.le_of_eq eL.symm)).2, fun nm c hc => ?_⟩
      · obtain ⟨i, p1, p2⟩ := startS_at at'
        obtain ⟨u, hu, hr⟩ := r.get p2
        exact ⟨u, bindL_at hnd p1 hu kl, hr.keep tkk⟩
      · have hab : s.heap.objs.size < c := eL ▸ X.above nm c hc
        have hcl : env.cells.lookup nm = some c := by
          obtain ⟨c', hc'⟩ := mem_lookup (List.mem_map_of_mem (f := (·.1)) hc)
          rw [hc', ok.cfun nm c' c (mem_of_lookup hc') hc]
        refine ⟨_, X.cell nm c hcl, (fresh c (Nat.le_of_lt hab)).1, (fresh c (Nat.le_of_lt hab)).2, fun v at' kl => ?_⟩
        obtain ⟨i, p1, p2⟩ := startS_at at'
        obtain ⟨u, hu, hr⟩ := r.get p2
        exact ⟨u, bindC_at hnd p1 hu kl, hr.keep tkk⟩
    have nf : NoFree env (startS ps xs os) := fun x hx q => by
      rw [hn] at hx
      rw [hk'] at q
      rcases (hv x hx).2 with w | w <;> (rw [w] at q; cases q)
    have ek : EnvK env (ps ++ os) cs := ⟨fun x hx => nf x (hn ▸ hx), fun x hx => by rw [hk']; simpa using List.all_eq_true.mp hcs x hx, by rw [← henv]; rfl, by rw [← henv]; exact hk⟩
    refine h env _ (hA.deeper env) ek hk' (by rw [← henv]; rfl) (by rw [← henv]; exact hk) (fun b hb => ?_) hkeep I₁ F₁ nf
    cases e : s.heap.get? b with
    | none => rfl
    | some o =>
      rcases hb with w | ⟨nm, w⟩
      · rw [w, eL] at e; exact absurd (Heap.lt_size e) (Nat.lt_irrefl _)
      · have : s.heap.objs.size < b := eL ▸ X.above nm b w
        exact absurd (Heap.lt_size e) (Nat.not_lt.mpr (Nat.le_of_lt this))
end
/-! statements that may raise -/
section
variable {C : Cx} {A : Around} {env : Env} {gs : List Str} {S : Sg} {H : Hp} {n : Nat} {Q : Fl → Sg → Hp → Prop} {K : Addr} {X : Hp → Prop}
/-- the raise: all is as in s₁, and the exception is made -/
def XP (C : Cx) (env : Env) (gs : List Str) (H : Hp) (s : Shared) (K : Addr) (X : Hp → Prop) : Value → Shared → Prop :=
  fun v s' => ∃ e s₁ h' S₁ H₁, v = .ref e ∧ s' = { s₁ with heap := h' } ∧ Inv C H₁ s₁ ∧ Fm C env gs S₁ H₁ s₁.heap ∧ KpS env s.heap H s₁.heap H₁ ∧ Made C s₁.heap K e h' ∧ X H₁
theorem XP.from {s s₁ : Shared} {H₁ : Hp} {v : Value} {s' : Shared} (k : KpS env s.heap H s₁.heap H₁) (h : XP C env gs H₁ s₁ K X v s') : XP C env gs H s K X v s' :=
  let ⟨e, s₂, h', S₂, H₂, h1, h2, h3, h4, h5, h6⟩ := h; ⟨e, s₂, h', S₂, H₂, h1, h2, h3, h4, k.trans h5, h6⟩
def WSX (C : Cx) (A : Around) (env : Env) (gs : List Str) (S : Sg) (H : Hp) (st : Stmt) (Q : Fl → Sg → Hp → Prop) (K : Addr) (X : Hp → Prop) : Prop :=
  ∀ s, Inv C H s → Fm C env gs S H s.heap → NoFree env S → wpAny (Md C) A (exec st env) (SP C env gs S H s Q) (XP C env gs H s K X) s
def WSsX (C : Cx) (A : Around) (env : Env) (gs : List Str) (S : Sg) (H : Hp) (ss : List Stmt) (Q : Fl → Sg → Hp → Prop) (K : Addr) (X : Hp → Prop) : Prop :=
  ∀ s, Inv C H s → Fm C env gs S H s.heap → NoFree env S → wpAny (Md C) A (execs ss env) (SP C env gs S H s Q) (XP C env gs H s K X) s
theorem WSsX.of {ss : List Stmt} (h : WSs C A env gs S H ss Q) : WSsX C A env gs S H ss Q K X := fun s I F nf => wpAny_mono (h s I F nf) (fun _ _ p => p) noE
theorem WSX.of {st : Stmt} (h : WS C A env gs S H st Q) : WSX C A env gs S H st Q K X := fun s I F nf => wpAny_mono (h s I F nf) (fun _ _ p => p) noE
theorem WSsX.cons {st : Stmt} {rest : List Stmt} (h : WSX C A env gs S H st (Seq Q fun S' H' => WSsX C A env gs S' H' rest Q K X) K X) : WSsX C A env gs S H (st :: rest) Q K X := by
  intro s I F nf
  refine wpAny_execs_cons (wpAny_mono (h s I F nf) (fun f s₁ h₁ => ?_) fun _ _ x => x)
  obtain ⟨fl, S₁, H₁, r, I₁, F₁, k₁, n₁, q₁⟩ := h₁
  cases fl with
  | next =>
    have : f = .next := r
    subst this
    exact wpAny_mono (q₁ s₁ I₁ F₁ (nf.of n₁)) (fun _ _ h => h.from k₁ n₁) fun _ _ h => h.from k₁
  | brk =>
    have : f = .brk := r
    subst this
    exact ⟨.brk, S₁, H₁, rfl, I₁, F₁, k₁, n₁, q₁⟩
  | cont =>
    have : f = .cont := r
    subst this
    exact ⟨.cont, S₁, H₁, rfl, I₁, F₁, k₁, n₁, q₁⟩
  | ret x =>
    obtain ⟨v, rfl, hv⟩ := r
    exact ⟨.ret x, S₁, H₁, ⟨v, rfl, hv⟩, I₁, F₁, k₁, n₁, q₁⟩
theorem WSX.if {test : Expr} {body orelse : List Stmt} {p : Pos} (h : WT C A env gs S H test fun b H' => if b = true then WSsX C A env gs S H' body Q K X else WSsX C A env gs S H' orelse Q K X) : WSX C A env gs S H (.If test body orelse p) Q K X := by
  intro s I F nf
  refine wpAny_If (wpAny_mono (h s I F) (fun b s₁ h₁ => ?_) noE)
  refine BP.elim h₁ fun H₁ I₁ k₁ q₁ => ?_
  clear h₁
  cases b with
  | true => exact wpAny_mono (q₁ s₁ I₁ (F.keep I k₁) nf) (fun _ _ h => h.from k₁.toS rfl) fun _ _ h => h.from k₁.toS
  | false => exact wpAny_mono (q₁ s₁ I₁ (F.keep I k₁) nf) (fun _ _ h => h.from k₁.toS rfl) fun _ _ h => h.from k₁.toS
theorem WSX.raise {x txt : Str} {k : Nat} {np cp cpos pos : Pos} {bmB : List Value} {B newId initId : String} (hA : AOk C A n) (hx : x ∈ gs) (hd : (x == ("__debug__" : Str)) = false) (O : OwnCls x K bmB newId C.mg C.h₀) (FB : ExcBaseFacts B newId initId bmB) (q : X H) :
    WSX C A env gs S H (.Raise (some (.Call (.Name x np) [.Constant (.str txt) k cp] [] cpos)) none pos) Q K X := fun s I F _ =>
  raiseC hA hx hd O FB I F fun s₁ e h' I₁ k₁ m => ⟨e, s₁, h', S, H, rfl, rfl, I₁, F.keep I k₁, k₁.toS, m, q⟩
end
/-! a call that may raise -/
structure FrsC (C : Cx) (H : Hp) (A : Around) (l : List Env) (h : Heap) : Prop extends Frs A l h where
  off : ∀ env ∈ l, C.h₀.get? env.locals = none ∧ ¬ dom H env.locals
/-- it was raised: the frames that wait have got their slots, nothing else of what was there has changed -/
structure Rsd (C : Cx) (H : Hp) (l : List Env) (s : Shared) (K e T : Addr) (ctx : Value) (s' : Shared) : Prop where
  inv : Inv C H s'
  chg : ∀ b o, s.heap.get? b = some o → ¬ dom H b → (b ∉ locs l → s'.heap.get? b = some o) ∧ ∃ sl, s'.heap.get? b = some { o with slots := sl }
  new : s.heap.get? e = none
  newT : s.heap.get? T = none
  exc : Exc s'.heap e T (.ref K) ctx .none
  ctx0 : C.hd = none → ctx = .none
def WFX (C : Cx) (A : Around) (H : Hp) (f : Str) (xs : List MV) (Q : MV → Hp → Prop) (K : Addr) (X : Prop) : Prop :=
  ∀ a, C.mg f = some (.ref a) → ∀ s vs l, Inv C H s → VRs C.h₀ s.heap xs vs → FrsC C H A l s.heap → wpAny (Md C) A (call (.ref a) vs) (EP C H s Q) (fun v s' => ∃ e T ctx, v = .ref e ∧ Rsd C H l s K e T ctx s' ∧ X) s
section
variable {C : Cx} {A : Around} {H : Hp} {n : Nat} {Q : MV → Hp → Prop} {K : Addr} {X : Prop}
theorem Fm.dictAt {env : Env} {gs : List Str} {S : Sg} {h : Heap} (F : Fm C env gs S H h) : ∃ o ds k, h.get? env.locals = some o ∧ o.data = .dict ds k := by
  obtain ⟨mr, ⟨o, es, ep, ho, hd, _⟩, _⟩ := F.ns
  exact ⟨o, _, _, ho, hd⟩
theorem WFX.intro {f name : Str} {params : Arguments} {body : List Stmt} {scope : Scope} (g : Fn C f name params body scope) (hA : AOk C A (n + 1)) {xs : List MV} (ps os gs cs : List Str) (S : Sg)
    (hsc : (scopeOk scope (ps ++ os) gs && cs.all fun x => scope.names.lookup x == some .cell) = true) (hl : xs.length = ps.length)
    (hb : ∀ vs pm cd doc, vs.length = ps.length → bindArgs (docDef name params body scope pm cd doc) ⟨vs, []⟩ = pure (ps.zip vs)) (hS : startS ps xs os = S)
    (h : ∀ env, AOk C (A.deeper env) n → EnvK env (ps ++ os) cs → WSsX C (A.deeper env) env gs S H body (Ret Q) K fun H₁ => H.Sublist H₁ ∧ X) : WFX C A H f xs Q K X := by
  intro a ha s vs l I r Fr
  refine wpAny_call (enter g hA ps os gs cs S hsc hl hb hS ha I r fun env s₁ hA' ek _ hf hk hown hkeep I₁ F₁ nf => ?_)
  have kp : ∀ {s' : Shared} {H' : Hp}, KpS env s₁.heap H s'.heap H' → Kp s.heap H s'.heap H' := fun k b o e nb => by
    obtain ⟨n1, o1, e1, r1⟩ := k b o (hkeep b o e) nb
    have : ¬ Own env b := fun w => by rw [hown b w] at e; cases e
    rw [r1 this] at e1
    exact ⟨e1, n1⟩
  refine wpAny_mono (h env hA' ek s₁ I₁ F₁ nf) (fun fl s' h' => ?_) fun v s' h' => ?_
  · obtain ⟨fl', S', H', rf, I', F', k', n', H'', hsub, q⟩ := h'
    have fin : ∀ (u : Value), VR C.h₀ s'.heap (retOf fl') u → EP C H s Q u s' := fun u hu => ⟨retOf fl', H'', hu, I'.sub hsub, (kp k').sub hsub, q⟩
    cases fl' with
    | ret x =>
      obtain ⟨v, rfl, hv⟩ := rf
      exact fin v hv
    | next => have : fl = .next := rf; subst this; exact fin .none (by unfold retOf VR; rfl)
    | brk => have : fl = .brk := rf; subst this; exact fin .none (by unfold retOf VR; rfl)
    | cont => have : fl = .cont := rf; subst this; exact fin .none (by unfold retOf VR; rfl)
  · obtain ⟨e, s₂, h₂, S₂, H₂, rfl, rfl, I₂, F₂, k₂, m, hsub, x⟩ := h'
    obtain ⟨oe, ws, ctx, he, hc, hd, h1, h2, h0⟩ := m.obj
    have kq := kp k₂
    have Fr' : Frs (A.deeper env) (env :: l) h₂ := ⟨by show A.frames.map _ = _; rw [Fr.fr]; rfl, fun x hx => by
      rcases List.mem_cons.mp hx with rfl | hx
      · obtain ⟨o, ds, k, ho, hn⟩ := F₂.dictAt
        exact ⟨by rw [hk]; decide, hf, o, ds, k, m.keep _ _ ho, hn⟩
      · obtain ⟨k1, k2, o, ds, k, k3, k4⟩ := Fr.at' x hx
        exact ⟨k1, k2, o, ds, k, m.keep _ _ (kq _ _ k3 (Fr.off x hx).2).1, k4⟩⟩
    have hsz : ∀ b, s₂.heap.get? b = none → s.heap.get? b = none ∨ dom H b := fun b hb => by
      by_cases d : dom H b
      · exact .inr d
      · cases e1 : s.heap.get? b with
        | none => exact .inl rfl
        | some o => rw [(kq b o e1 d).1] at hb; cases hb
    have hdom : ∀ b, dom H b → ∃ o, s₂.heap.get? b = some o := fun b d => by
      have d2 : dom H₂ b := (hsub.map (·.1)).subset d
      obtain ⟨p, hp, rfl⟩ := List.mem_map.mp d2
      obtain ⟨o, ho, _⟩ := (I₂.objs p hp).exists
      exact ⟨o, ho⟩
    have hnew : ∀ b, s₂.heap.get? b = none → s.heap.get? b = none := fun b hb => by
      rcases hsz b hb with h | h
      · exact h
      · obtain ⟨o, ho⟩ := hdom b h
        rw [ho] at hb; cases hb
    refine leave_first (s := { s₂ with heap := h₂ }) Fr' he hd h1 h2 fun h₃ T nT c x3 => ?_
    have cl : ∀ b o, s₂.heap.get? b = some o → (b ∉ locs (env :: l) → h₃.get? b = some o) ∧ ∃ sl, h₃.get? b = some { o with slots := sl } := fun b o e1 => c b o (m.keep b o e1) fun q => by rw [List.mem_singleton.mp q, m.new] at e1; cases e1
    have hloc : ∀ b, b ∈ locs (env :: l) → C.h₀.get? b = none ∧ ¬ dom H b := fun b hb => by
      rcases List.mem_cons.mp hb with rfl | hb
      · exact ⟨F₂.nl0, fun d => F₂.nl ((hsub.map (·.1)).subset d)⟩
      · obtain ⟨x, hx, rfl⟩ := List.mem_map.mp hb
        exact Fr.off x hx
    have tk : TupKeep s₂.heap h₃ := fun b o e1 im => (cl b o e1).1 fun hb => by
      obtain ⟨x, hx, rfl⟩ := List.mem_map.mp hb
      obtain ⟨_, _, o', ds, k, ho', hnf⟩ := Fr'.at' x hx
      have := m.keep _ _ e1
      rw [this] at ho'; cases ho'
      rcases im with ⟨_, items, nn, q⟩ | ⟨_, vs', q⟩ <;> (rw [q] at hnf; cases hnf)
    have Is := I₂.sub hsub
    refine ⟨e, T, ctx, rfl, ⟨⟨fun b o e1 => (cl b o (Is.base b o e1)).1 (fun hb => by rw [(hloc b hb).1] at e1; cases e1), fun p hp => (Is.objs p hp).keep tk fun ob e1 => (cl _ ob e1).1 fun hb => (hloc _ hb).2 (List.mem_map.mpr ⟨p, hp, rfl⟩), Is.new, Is.nodup, Is.gens, Is.os⟩, fun b o e1 nb => ?_, hnew e m.new, hnew T ?_, hc ▸ x3, h0⟩, x⟩
    · obtain ⟨c1, c2⟩ := cl b o (kq b o e1 nb).1
      refine ⟨fun hb => c1 fun q => ?_, c2⟩
      rcases List.mem_cons.mp q with q | q
      · rw [q, hown _ (.inl rfl)] at e1; cases e1
      · exact hb q
    · cases q : s₂.heap.get? T with
      | none => rfl
      | some o => have := m.keep T o q; rw [nT] at this; cases this
end
end Mine
set_option maxRecDepth 100000
namespace Mine
open PySem PySem.Calls PyProof.Rows
/-! catching -/
section
variable {C : Cx} {A : Around} {env : Env} {gs : List Str} {S : Sg} {H : Hp} {n : Nat} {K e T : Addr} {ctx : Value} {l : List Env} {s s' : Shared}
theorem Exc.offImm {h : Heap} {cls fl : Value} (hc : ∀ t, cls ≠ .type t) (X : Exc h e T cls ctx fl) {b : Addr} {o : Obj} (hb : h.get? b = some o) (im : Imm o) : b ≠ e ∧ b ≠ T := by
  obtain ⟨oe, vs, oT, ts, he, h1, _, _, _, _, hT, h2, _⟩ := X
  refine ⟨fun q => ?_, fun q => ?_⟩
  · rw [q, he] at hb; cases hb
    rcases im with ⟨q, _⟩ | ⟨q, _⟩ <;> exact hc _ (h1.symm.trans q)
  · rw [q, hT] at hb; cases hb
    rcases im with ⟨q, _⟩ | ⟨q, _⟩ <;> (rw [h2] at q; simp at q)
theorem Rsd.offs (R : Rsd C H l s K e T ctx s') (I : Inv C H s) : (¬ dom H e ∧ C.h₀.get? e = none) ∧ ¬ dom H T ∧ C.h₀.get? T = none := by
  have key : ∀ b, s.heap.get? b = none → ¬ dom H b ∧ C.h₀.get? b = none := fun b hb => by
    refine ⟨fun d => ?_, ?_⟩
    · obtain ⟨p, hp, rfl⟩ := List.mem_map.mp d
      obtain ⟨o, ho, _⟩ := (I.objs p hp).exists
      rw [ho] at hb; cases hb
    · cases q : C.h₀.get? b with
      | none => rfl
      | some o => rw [I.base b o q] at hb; cases hb
  exact ⟨key e R.new, key T R.newT⟩
theorem Rsd.locAt (R : Rsd C H l s K e T ctx s') (Fr : FrsC C H A l s.heap) : FrsC C H A l s'.heap :=
  ⟨⟨Fr.fr, fun x hx => by
    obtain ⟨k1, k2, o, ds, k, k3, k4⟩ := Fr.at' x hx
    obtain ⟨_, sl, h2⟩ := R.chg _ o k3 (Fr.off x hx).2
    exact ⟨k1, k2, _, ds, k, h2, k4⟩⟩, Fr.off⟩
theorem FrsC.imm {h : Heap} (Fr : FrsC C H A l h) {b : Addr} {o : Obj} (hb : h.get? b = some o) (im : Imm o) : b ∉ locs l := fun hl => by
  obtain ⟨x, hx, rfl⟩ := List.mem_map.mp hl
  obtain ⟨_, _, o', ds, k, k3, k4⟩ := Fr.at' x hx
  rw [hb] at k3; cases k3
  rcases im with ⟨_, _, _, q⟩ | ⟨_, _, q⟩ <;> (rw [k4] at q; cases q)
theorem Rsd.step (R : Rsd C H l s K e T ctx s') (I : Inv C H s) (Fr : FrsC C H A l s.heap) {h : Heap} {T' : Addr} (c : Chg (locs l) [e, T] s'.heap h) (hT : s.heap.get? T' = none) (x : Exc h e T' (.ref K) ctx .none) : Rsd C H l s K e T' ctx { s' with heap := h } := by
  obtain ⟨⟨o1, o2⟩, o3, o4⟩ := R.offs I
  have Fr' := R.locAt Fr
  have tk : TupKeep s'.heap h := fun b o hb im => by
    have := Exc.offImm (fun _ q => by cases q) R.exc hb im
    exact (c b o hb (by simp [this])).1 (Fr'.imm hb im)
  refine ⟨⟨fun b o hb => ?_, fun p hp => (R.inv.objs p hp).keep tk fun ob hb => ?_, R.inv.new, R.inv.nodup, R.inv.gens, R.inv.os⟩, fun b o hb nb => ?_, R.new, hT, x, R.ctx0⟩
  · refine (c b o (R.inv.base b o hb) fun q => ?_).1 fun q => ?_
    · rcases List.mem_cons.mp q with rfl | q
      · rw [o2] at hb; cases hb
      · rw [List.mem_singleton.mp q, o4] at hb; cases hb
    · obtain ⟨x, hx, rfl⟩ := List.mem_map.mp q
      rw [(Fr.off x hx).1] at hb; cases hb
  · have d : dom H p.1 := List.mem_map.mpr ⟨p, hp, rfl⟩
    refine (c _ ob hb fun q => ?_).1 fun q => ?_
    · rcases List.mem_cons.mp q with q | q
      · exact o1 (q ▸ d)
      · exact o3 (List.mem_singleton.mp q ▸ d)
    · obtain ⟨x, hx, q⟩ := List.mem_map.mp q
      exact (Fr.off x hx).2 (q ▸ d)
  · obtain ⟨c1, sl, c2⟩ := R.chg b o hb nb
    have hn : b ∉ [e, T] := fun q => by
      rcases List.mem_cons.mp q with rfl | q
      · rw [R.new] at hb; cases hb
      · rw [List.mem_singleton.mp q, R.newT] at hb; cases hb
    exact ⟨fun hf => (c b o (c1 hf) hn).1 hf, (c b _ c2 hn).2⟩
theorem Rsd.flight (R : Rsd C H l s K e T ctx s') (I : Inv C H s) (Fr : FrsC C H A l s.heap) {A' : Around} {M : Model} {E : Value → Shared → Prop} {Q : Unit → Shared → Prop} (h : ∀ h', Rsd C H l s K e T ctx { s' with heap := h' } → Q () { s' with heap := h' }) : wpAny M A' (setFlight (.ref e) none) Q E s' :=
  flight_none R.exc fun h' k x => h h' (R.step I Fr (fun b o hb hn => by
    have hbT : b ≠ T := fun q => hn (by simp [q])
    have : h'.get? b = some o := (k b hbT).trans hb
    exact ⟨fun _ => this, o.slots, this⟩) R.newT x)
theorem Rsd.note {outer : List Env} (R : Rsd C H (env :: outer) s K e T ctx s') (I : Inv C H s) (Fr : FrsC C H A (env :: outer) s.heap) {M : Model} {E : Value → Shared → Prop} {Q : Unit → Shared → Prop}
    (h : ∀ h' T', Rsd C H (env :: outer) s K e T' ctx { s' with heap := h' } → Q () { s' with heap := h' }) : wpAny M A (noteFrame (.ref e) env) (fun _ s₂ => wpAny M A (setFlight (.ref e) none) Q E s₂) E s' := by
  refine note_next (R.locAt Fr).toFrs R.exc fun h₁ T' n1 c1 x1 => ?_
  refine flight_none (s := { s' with heap := h₁ }) x1 fun h₂ k x2 => h h₂ T' (R.step I Fr (fun b o hb hn => ?_) ?_ x2)
  · have hbT : b ≠ T' := fun q => by rw [q, n1] at hb; cases hb
    rw [k b hbT]
    exact c1 b o hb hn
  · cases q : s.heap.get? T' with
    | none => rfl
    | some o =>
      by_cases d : dom H T'
      · obtain ⟨p, hp, hq⟩ := List.mem_map.mp d
        obtain ⟨o2, ho2, _⟩ := (R.inv.objs p hp).exists
        rw [hq, n1] at ho2; cases ho2
      · obtain ⟨_, sl, h2⟩ := R.chg T' o q d
        rw [n1] at h2; cases h2
theorem Rsd.tupKeep (R : Rsd C H l s K e T ctx s') (I : Inv C H s) (Fr : FrsC C H A l s.heap) : TupKeep s.heap s'.heap := fun b o hb im =>
  (R.chg b o hb (I.noTup hb im)).1 (Fr.imm hb im)
theorem Rsd.fm (R : Rsd C H l s K e T ctx s') (I : Inv C H s) (Fr : FrsC C H A l s.heap) (F : Fm C env gs S H s.heap) : Fm C env gs S H s'.heap := by
  have tk := R.tupKeep I Fr
  obtain ⟨ok, ⟨mr, ⟨oL, es, ep, hL, hd, r⟩, hv⟩, nl, nl0, hc⟩ := F
  obtain ⟨_, sl, h2⟩ := R.chg _ _ hL nl
  refine ⟨ok, ⟨mr, ⟨_, es, ep, h2, hd, r⟩, fun x v a k => ?_⟩, nl, nl0, fun nm c hcm => ?_⟩
  · obtain ⟨u, h1, h2⟩ := hv x v a k; exact ⟨u, h1, h2.keep tk⟩
  · obtain ⟨vo, ⟨oc, ho, hdc⟩, nd, n0, hv⟩ := hc nm c hcm
    obtain ⟨_, sl, h3⟩ := R.chg _ _ ho nd
    refine ⟨vo, ⟨_, h3, hdc⟩, nd, n0, fun v a k => ?_⟩
    obtain ⟨u, h1, h2⟩ := hv v a k; exact ⟨u, h1, h2.keep tk⟩
end
end Mine
set_option maxRecDepth 100000
namespace Mine
open PySem PySem.Calls PyProof.Rows
/-! a context of its own while an exception is being handled -/
mutual
theorem VR.base {b b' h : Heap} (k : ∀ a o, b.get? a = some o → b'.get? a = some o) : ∀ (x : MV) {v : Value}, VR b h x v → VR b' h x v
  | .none, _, r => r
  | .bool _, _, r => r
  | .int _, _, r => r
  | .str _, _, r => r
  | .ref _, _, r => r
  | .raw _, _, r => r
  | .fl _, v, r => by
    unfold VR at r ⊢
    obtain ⟨a, vs, rfl, ⟨o, ho, hc, n, hd⟩, hi⟩ := r
    exact ⟨a, vs, rfl, ⟨o, k a o ho, hc, n, hd⟩, hi⟩
  | .rng _ _, v, r => by unfold VR at r ⊢; exact r
  | .tup xs, v, r => by
    unfold VR at r ⊢
    obtain ⟨a, vs, rfl, hl, hr⟩ := r
    exact ⟨a, vs, rfl, hl, VRs.base k xs hr⟩
theorem VRs.base {b b' h : Heap} (k : ∀ a o, b.get? a = some o → b'.get? a = some o) : ∀ (xs : List MV) {vs : List Value}, VRs b h xs vs → VRs b' h xs vs
  | [], _, r => r
  | x :: xs, vs, r => by
    unfold VRs at r ⊢
    obtain ⟨v, t, rfl, h1, h2⟩ := r
    exact ⟨v, t, rfl, VR.base k x h1, VRs.base k xs h2⟩
end
theorem DRs.base {b b' h : Heap} (k : ∀ a o, b.get? a = some o → b'.get? a = some o) : ∀ (xs : List (MV × MV)) {vs : List DictEntry}, DRs b h xs vs → DRs b' h xs vs
  | [], _, r => r
  | x :: xs, vs, r => by
    unfold DRs at r ⊢
    obtain ⟨v, t, rfl, h1, h2, h3, h4⟩ := r
    exact ⟨v, t, rfl, h1.base k, h2.base k, h3, DRs.base k xs h4⟩
theorem OR.base {b b' h : Heap} (k : ∀ a o, b.get? a = some o → b'.get? a = some o) {a : Addr} : ∀ {o : MO}, OR b h a o → OR b' h a o
  | .list xs, ⟨vs, n, h1, h2⟩ => ⟨vs, n, h1, VRs.base k xs h2⟩
  | .dict es, ⟨h0, ds, n, h1, h2⟩ => ⟨h0, ds, n, h1, DRs.base k es h2⟩
open Classical in
noncomputable def less (h : Heap) (bad : Addr → Prop) : Heap := ⟨h.objs.mapIdx fun i o => if bad i then { o with data := .freed } else o, h.life⟩
open Classical in
theorem less_get (h : Heap) (bad : Addr → Prop) (a : Addr) : (less h bad).get? a = if bad a then none else h.get? a := by
  unfold less Heap.get?
  simp only [Array.getElem?_mapIdx]
  cases q : h.objs[a]? with
  | none => simp
  | some o =>
    by_cases hb : bad a
    · simp [hb]
    · simp [hb]
def reC (C : Cx) (h : Heap) (k : ∀ b o, C.h₀.get? b = some o → h.get? b = some o) (hd : Option Value) (ok : ∀ v, hd = some v → ∃ e o vs, v = .ref e ∧ h.get? e = some o ∧ o.data = .fields vs ∧ vs[2]? = some .none) : Cx :=
  ⟨C.prog, C.w, h, C.gens, C.os, C.mg, C.mb, C.hg.keeps k, C.hb.keeps k, C.hbl, C.hlim.keeps k, hd, ok⟩
section
variable {C : Cx} {A : Around} {env : Env} {gs : List Str} {S : Sg} {H : Hp} {n : Nat} {K e T : Addr} {ctx : Value} {l : List Env} {s s' : Shared}
variable {h : Heap} {k : ∀ b o, C.h₀.get? b = some o → h.get? b = some o} {hd : Option Value} {ok : ∀ v, hd = some v → ∃ e o vs, v = .ref e ∧ h.get? e = some o ∧ o.data = .fields vs ∧ vs[2]? = some .none}
theorem Fn.re {f nm : Str} {pa : Arguments} {bo : List Stmt} {sc : Scope} (g : Fn C f nm pa bo sc) : Fn (reC C h k hd ok) f nm pa bo sc :=
  let ⟨a, o, pm, cd, doc, h1, h2, h3, h4⟩ := g.at'; ⟨g.nodbg, a, o, pm, cd, doc, h1, k _ _ h2, h3, h4.keeps k⟩
theorem Gl.re {f : Str} {v : Value} (g : Gl C f v) : Gl (reC C h k hd ok) f v := ⟨g.nodbg, g.val⟩
theorem Inv.re (I : Inv C H s) (hb : ∀ b o, h.get? b = some o → s.heap.get? b = some o) (hn : ∀ p ∈ H, h.get? p.1 = none) : Inv (reC C h k hd ok) H s :=
  ⟨hb, fun p hp => (I.objs p hp).base k, hn, I.nodup, I.gens, I.os⟩
theorem Fm.re {hp : Heap} (F : Fm C env gs S H hp) (hl : ∀ b, Own env b → h.get? b = none) : Fm (reC C h k hd ok) env gs S H hp := by
  obtain ⟨eo, ⟨mr, hn, hv⟩, nl, nl0, hc⟩ := F
  refine ⟨eo, ⟨mr, hn, fun x v a kk => ?_⟩, nl, hl _ (.inl rfl), fun nm c hcm => ?_⟩
  · obtain ⟨u, h1, h2⟩ := hv x v a kk; exact ⟨u, h1, h2.base k⟩
  · obtain ⟨vo, h1, nd, n0, hv⟩ := hc nm c hcm
    refine ⟨vo, h1, nd, hl c (.inr ⟨nm, hcm⟩), fun v a kk => ?_⟩
    obtain ⟨u, h1, h2⟩ := hv v a kk; exact ⟨u, h1, h2.base k⟩
theorem AOk.mark (hA : AOk C A n) {ok : ∀ v, some (Value.ref e) = some v → ∃ e o vs, v = .ref e ∧ h.get? e = some o ∧ o.data = .fields vs ∧ vs[2]? = some .none} : AOk (reC C h k (some (.ref e)) ok) (A.mark (some (.ref e))) n := ⟨rfl, hA.depth, hA.units⟩
/-- what was there before, without the mutable things and this frame -/
theorem rebase (I : Inv C H s') (F : Fm C env gs S H s'.heap) : ∀ b o, C.h₀.get? b = some o → (less s'.heap fun a => dom H a ∨ Own env a).get? b = some o := fun b o hb => by
  rw [less_get, if_neg]
  · exact I.base b o hb
  · rintro (d | w | ⟨nm, w⟩)
    · obtain ⟨p, hp, rfl⟩ := List.mem_map.mp d
      rw [I.new p hp] at hb; cases hb
    · rw [w, F.nl0] at hb; cases hb
    · obtain ⟨_, _, _, n0, _⟩ := F.cell nm b w
      rw [n0] at hb; cases hb
theorem less_base {bad : Addr → Prop} {hp : Heap} : ∀ b o, (less hp bad).get? b = some o → hp.get? b = some o := fun b o q => by
  rw [less_get] at q
  split at q
  · cases q
  · exact q
theorem less_bad {bad : Addr → Prop} {hp : Heap} {b : Addr} (w : bad b) : (less hp bad).get? b = none := by rw [less_get, if_pos w]
end
end Mine
set_option maxRecDepth 100000
namespace Mine
open PySem PySem.Calls PyProof.Rows
section
variable {C : Cx} {A : Around} {env : Env} {gs : List Str} {S : Sg} {H : Hp} {n : Nat} {K : Addr} {X : Prop}
/-- an expression, a statement whose call may raise -/
def WER (C : Cx) (A : Around) (env : Env) (gs : List Str) (S : Sg) (H : Hp) (e : Expr) (Q : MV → Hp → Prop) (K : Addr) (X : Prop) : Prop :=
  ∀ s l, Inv C H s → Fm C env gs S H s.heap → FrsC C H A l s.heap → wpAny (Md C) A (eval e env) (EP C H s Q) (fun v s' => ∃ e T ctx, v = .ref e ∧ Rsd C H l s K e T ctx s' ∧ X) s
def WSR (C : Cx) (A : Around) (env : Env) (gs : List Str) (S : Sg) (H : Hp) (st : Stmt) (Q : Fl → Sg → Hp → Prop) (K : Addr) (X : Prop) : Prop :=
  ∀ s l, Inv C H s → Fm C env gs S H s.heap → NoFree env S → FrsC C H A l s.heap → wpAny (Md C) A (exec st env) (SP C env gs S H s Q) (fun v s' => ∃ e T ctx, v = .ref e ∧ Rsd C H l s K e T ctx s' ∧ X) s
theorem FrsC.kp {l : List Env} {s s₁ : Shared} (Fr : FrsC C H A l s.heap) (k : Kp s.heap H s₁.heap H) : FrsC C H A l s₁.heap :=
  ⟨⟨Fr.fr, fun x hx => by
    obtain ⟨k1, k2, o, ds, m, k3, k4⟩ := Fr.at' x hx
    exact ⟨k1, k2, o, ds, m, (k _ _ k3 (Fr.off x hx).2).1, k4⟩⟩, Fr.off⟩
theorem Rsd.from {l : List Env} {s s₁ s' : Shared} {e T : Addr} {ctx : Value} (k : Kp s.heap H s₁.heap H) (I₁ : Inv C H s₁) (R : Rsd C H l s₁ K e T ctx s') : Rsd C H l s K e T ctx s' := by
  have key : ∀ b, s₁.heap.get? b = none → s.heap.get? b = none := fun b hb => by
    cases q : s.heap.get? b with
    | none => rfl
    | some o =>
      by_cases d : dom H b
      · obtain ⟨p, hp, rfl⟩ := List.mem_map.mp d
        obtain ⟨o2, ho2, _⟩ := (I₁.objs p hp).exists
        rw [hb] at ho2; cases ho2
      · rw [(k b o q d).1] at hb; cases hb
  exact ⟨R.inv, fun b o hb nb => R.chg b o (k b o hb nb).1 nb, key e R.new, key T R.newT, R.exc, R.ctx0⟩
theorem Rsd.kp {l : List Env} {s s' s₂ : Shared} {e T : Addr} {ctx : Value} (R : Rsd C H l s K e T ctx s') (I : Inv C H s) (k : Kp s'.heap H s₂.heap H) (I₂ : Inv C H s₂) : Rsd C H l s K e T ctx s₂ := by
  obtain ⟨⟨o1, _⟩, o3, _⟩ := R.offs I
  refine ⟨I₂, fun b o hb nb => ?_, R.new, R.newT, ?_, R.ctx0⟩
  · obtain ⟨c1, sl, c2⟩ := R.chg b o hb nb
    exact ⟨fun hf => (k b o (c1 hf) nb).1, sl, (k b _ c2 nb).1⟩
  · obtain ⟨oe, vs, oT, ts, he, hc, hd, h1, h2, hTe, hT, hcT, hdT, h3⟩ := R.exc
    exact ⟨oe, vs, oT, ts, (k _ _ he o1).1, hc, hd, h1, h2, hTe, (k _ _ hT o3).1, hcT, hdT, h3⟩
theorem WER.callF {f nm : Str} {p pos : Pos} {pa : Arguments} {bo : List Stmt} {sc : Scope} {e : Expr} {rest : List Expr} {Q : MV → Hp → Prop} (hx : f ∈ gs) (g : Fn C f nm pa bo sc)
    (h : WEs C A env gs S H (e :: rest) fun xs H' => H' = H ∧ WFX C A H f xs Q K X)
    (he : starEach (e :: rest) env = (false, eval e env) :: starEach rest env := by with_unfolding_all rfl) (hplain : (backTo pos (starEach rest env)).any (·.1) = false := by with_unfolding_all rfl) :
    WER C A env gs S H (.Call (.Name f p) (e :: rest) [] pos) Q K X := by
  obtain ⟨a, o, pm, cd, doc, h1, h2, h3, h4⟩ := g.at'
  intro s l I F Fr
  refine Call_ (wpAny_mono (WE.glob (Q := fun x H' => x = .raw (.ref a) ∧ H' = H) hx h1 ⟨rfl, rfl⟩ g.nodbg s I F) (fun v s₁ h₁ => ?_) noE)
  refine EP.elim h₁ fun y H₁ r₁ I₁ k₁ hq => ?_
  clear h₁
  obtain ⟨rfl, rfl⟩ := hq
  unfold VR at r₁; subst r₁
  refine callWith_def h3 (wpAny_mono (h s₁ pos I₁ (F.keep I k₁)) (fun vs s₂ h₂ => ?_) noE) he
  refine LP.elim h₂ fun xs H₂ r₂ I₂ k₂ q₂ => ?_
  clear h₂
  obtain ⟨rfl, q₂⟩ := q₂
  have k := k₁.trans k₂
  exact ⟨I₂.base _ _ h2, wpAny_mono (q₂ a h1 s₂ vs l I₂ r₂ (Fr.kp k)) (fun _ _ h => h.from k) fun _ _ ⟨e, T, ctx, h1, R, x⟩ => ⟨e, T, ctx, h1, R.from k I₂, x⟩⟩
theorem WSR.assign {x : Str} {px p : Pos} {e : Expr} {Q : Fl → Sg → Hp → Prop} (h : WER C A env gs S H e (fun v H' => ∃ S', Put S x v S' ∧ Q .next S' H') K X)
    (hs : swapsWith e (some (.Name x px)) p.line env = pure false := by with_unfolding_all rfl) : WSR C A env gs S H (.Assign [.Name x px] e p) Q K X := by
  intro s l I F nf Fr
  refine wpAny_Assign_Name (wpAny_mono (h s l I F Fr) (fun v s₁ h₁ => ?_) fun _ _ x => x) hs
  refine EP.elim h₁ fun y H₁ r I₁ k₁ hq => ?_
  clear h₁
  obtain ⟨S', pt, q₁⟩ := hq
  exact store I₁ (F.keep I k₁) (nf x pt.mem) pt r fun s' I' F' k' _ _ => ⟨.next, S', H₁, rfl, I', F', k₁.toS.trans k', pt.names, q₁⟩
theorem WSR.expr {p : Pos} {e : Expr} {Q : Fl → Sg → Hp → Prop} (h : WER C A env gs S H e (fun _ _ => False) K X) (hs : swapsWith e none p.line env = pure false := by with_unfolding_all rfl) : WSR C A env gs S H (.Expr e p) Q K X := by
  intro s l I F nf Fr
  refine wpAny_Expr (wpAny_mono (h s l I F Fr) (fun v s₁ h₁ => ?_) fun _ _ x => x) (by unfold interactive; rw [F.ok.kind]; rfl) hs
  exact EP.elim h₁ fun y H₁ r I₁ k₁ hq => hq.elim
theorem frs1 {ns cs : List Str} {h : Heap} (hfr : A.frames = some [env]) (EK : EnvK env ns cs) (F : Fm C env gs S H h) : FrsC C H A [env] h :=
  ⟨⟨hfr, fun x hx => by
    rw [List.mem_singleton.mp hx]
    obtain ⟨o, ds, k, h1, h2⟩ := F.dictAt
    exact ⟨by rw [EK.kind]; decide, EK.fr, o, ds, k, h1, h2⟩⟩, fun x hx => by rw [List.mem_singleton.mp hx]; exact ⟨F.nl0, F.nl⟩⟩
theorem Fm.ownAt {h : Heap} (F : Fm C env gs S H h) {b : Addr} (w : Own env b) : ∃ o, h.get? b = some o := by
  rcases w with rfl | ⟨nm, w⟩
  · obtain ⟨o, _, _, h1, _⟩ := F.dictAt; exact ⟨o, h1⟩
  · obtain ⟨vo, ⟨o, h1, _⟩, _⟩ := F.cell nm b w; exact ⟨o, h1⟩
theorem no_at : ∀ {S : Sg} {y : Str} {v : MV}, ¬ At (S.map fun p => (p.1, (none : Option MV))) y v
  | _ :: S, _, _, .there a => no_at (S := S) a
/-- try: one statement, one clause without a name, whose suite hands back True -/
theorem WS.tryC {st : Stmt} {xK : Str} {np hpos p : Pos} {b₀ : Stmt} {suite : List Stmt} {ns cs : List Str} {bmB : List Value} {newId : String} {Q : Fl → Sg → Hp → Prop} (hd0 : C.hd = none) (EK : EnvK env ns cs) (hfr : A.frames = some [env]) (hx : xK ∈ gs) (hdb : (xK == ("__debug__" : Str)) = false)
    (O : OwnCls xK K bmB newId C.mg C.h₀) (hbase : bmB.contains (.type "BaseException") = true) (h : WSR C A env gs S H st Q K X)
    (hh : X → ∀ e h k ok, WSs (reC C h k (some (.ref e)) ok) (A.mark (some (.ref e))) env gs S H (b₀ :: suite) fun fl _ _ => fl = .ret (.bool true))
    (hq : ∀ S', Q (.ret (.bool true)) S' []) : WS C A env gs S H (.Try [st] [.ExceptHandler (some (.Name xK np)) none (b₀ :: suite) hpos] [] [] p) Q := by
  intro s I F nf
  have Fr := frs1 hfr EK F
  refine wpAny_Try_except (wpAny_execs_cons (wpAny_mono (h s [env] I F nf Fr) (fun f s₁ h₁ => ?_) fun v s' h' => ?_))
  · obtain ⟨fl, S₁, H₁, r, I₁, F₁, k₁, n₁, q₁⟩ := h₁
    cases fl with
    | next =>
      have : f = .next := r
      subst this
      exact wpAny_execs_nil (wpAny_execs_nil ⟨.next, S₁, H₁, rfl, I₁, F₁, k₁, n₁, q₁⟩)
    | brk =>
      have : f = .brk := r
      subst this
      exact ⟨.brk, S₁, H₁, rfl, I₁, F₁, k₁, n₁, q₁⟩
    | cont =>
      have : f = .cont := r
      subst this
      exact ⟨.cont, S₁, H₁, rfl, I₁, F₁, k₁, n₁, q₁⟩
    | ret x =>
      obtain ⟨v, rfl, hv⟩ := r
      exact ⟨.ret x, S₁, H₁, ⟨v, rfl, hv⟩, I₁, F₁, k₁, n₁, q₁⟩
  · obtain ⟨e, T, ctx, rfl, R, x⟩ := h'
    refine R.note I Fr fun h₁ T₁ R₁ => ?_
    refine wpAny_handleBy_cons (codeAny_handlers_test (wpAny_mono (WE.glob (C := C) (A := A.mark (some (.ref e))) (Q := fun y H' => y = .raw (.ref K) ∧ H' = H) hx O.bound ⟨rfl, rfl⟩ hdb _ R₁.inv (R₁.fm I Fr F)) (fun c s₂ h₂ => ?_) noE)) (by intro q; cases q)
    refine EP.elim h₂ fun y H₂ r₂ I₂ k₂ hq₂ => ?_
    clear h₂
    obtain ⟨rfl, rfl⟩ := hq₂
    unfold VR at r₂; subst r₂
    have R₂ := R₁.kp I k₂ I₂
    obtain ⟨tl, N, nm, q, bs, hdct, sn, sub, ab, col, dd, k0, k1, k2, k3, k5, mN, hC, hN, hni, Tl⟩ := O.obj
    obtain ⟨oe, vs, oT, ts, he, hc, _⟩ := R₂.exc
    have hC₂ := I₂.base _ _ hC
    have go : codeAny (Md C) (A.mark (some (.ref e))) (.handlers (.ref e) [.ExceptHandler none none (b₀ :: suite) hpos] env) (fun r s₂ => match r with
        | .ok f => SP C env gs S H₂ s Q f s₂
        | .error x => cameBackBy (Md C) A env NoE x s₂) s₂ := by
      refine codeAny_handlers_suite (R₂.flight I Fr fun h₃ R₃ => ?_)
      have F₃ := R₃.fm I Fr F
      have heo : ¬ Own env e := fun w => by
        obtain ⟨o, ho⟩ := F.ownAt w
        rw [R.new] at ho; cases ho
      have hed := (R₃.offs I).1.1
      have ok : ∀ v, some (Value.ref e) = some v → ∃ e o vs, v = .ref e ∧ (less h₃ fun a => dom H₂ a ∨ Own env a).get? e = some o ∧ o.data = .fields vs ∧ vs[2]? = some .none := fun v hv => by
        cases hv
        obtain ⟨oe, vs, oT, ts, he, hc, hd, h1, h2, _⟩ := R₃.exc
        refine ⟨e, oe, vs, rfl, ?_, hd, ?_⟩
        · rw [less_get, if_neg (fun w => w.elim hed heo)]
          exact he
        · rw [h2, R₃.ctx0 hd0]
      refine wpAny_mono (hh x e (less h₃ fun a => dom H₂ a ∨ Own env a) (rebase R₃.inv F₃) ok { s₂ with heap := h₃ } (R₃.inv.re less_base fun p hp => less_bad (.inl (List.mem_map.mpr ⟨p, hp, rfl⟩))) (F₃.re fun b w => less_bad (.inr w)) nf) (fun f s₄ h₄ => ?_) noE
      obtain ⟨fl, S₄, H₄, r, I₄, F₄, k₄, n₄, rfl⟩ := h₄
      obtain ⟨v, rfl, hv⟩ := r
      unfold VR at hv; subst hv
      refine ⟨.ret (.bool true), S.map fun p => (p.1, none), [], ⟨_, rfl, by unfold VR; rfl⟩, ⟨fun b o hb => I₄.base b o (rebase R₃.inv F₃ b o hb), fun p hp => (nomatch hp), fun p hp => (nomatch hp), List.nodup_nil, I₄.gens, I₄.os⟩, ?_, fun b o hb nb => ?_, ?_, hq _⟩
      · have nn : ∀ y v, ¬ At (S.map fun p => (p.1, (none : Option MV))) y v := fun y v => no_at
        have hnm : names (S.map fun p => (p.1, (none : Option MV))) = names S := by simp [names, Function.comp_def]
        obtain ⟨eo, ⟨mr, hn, _⟩, _, _, hcell⟩ := F₄
        refine ⟨hnm ▸ F.ok, ⟨mr, hn, fun y v a => absurd a (nn y v)⟩, fun d => (nomatch d), F.nl0, fun nm' c hcm => ?_⟩
        obtain ⟨vo, h1, _⟩ := hcell nm' c hcm
        obtain ⟨_, _, _, n0, _⟩ := F.cell nm' c hcm
        exact ⟨vo, h1, fun d => (nomatch d), n0, fun v a => absurd a (nn _ v)⟩
      · obtain ⟨c1, sl, c2⟩ := R₃.chg b o hb nb
        obtain ⟨_, o', e', r'⟩ := k₄ b _ c2 nb
        refine ⟨fun d => (nomatch d), o', e', fun ho => ?_⟩
        have hbl : b ∉ locs [env] := fun q => ho (.inl (by simpa using q))
        have := c1 hbl
        rw [c2] at this
        exact (r' ho).trans (Option.some.inj this)
      · simp [names, Function.comp_def]
    obtain ⟨hp, g, d, tk, os⟩ := s₂
    exact wpAny_excMatches_sub_self hC₂ he hc (Tl.hasType hbase) go
end
end Mine
set_option maxRecDepth 100000
namespace Mine
open PySem PySem.Calls PyProof.Rows
section
variable {prog : Program} {w : World} {M : Model} {A : Around} {E : Value → Shared → Prop} {h : Heap} {g : Array GenState} {d : Drawn} {t : Nat} {os : OsState}
variable {nm q : Str} {K N : Addr} {bs bm : List Value} {hdct : Bool} {sn : List Str} {sub : List Value} {ab : Bool} {col : Option Bool} {dd : Option Addr} {k0 k1 k2 k3 k5 : Option Value} {newId : String}
variable {nm' q' : Str} {K' N' : Addr} {bs' bm' : List Value} {hdct' : Bool} {sn' : List Str} {sub' : List Value} {ab' : Bool} {col' : Option Bool} {dd' : Option Addr} {k0' k1' k2' k3' k5' : Option Value} {newId' : String}
theorem excMatches_up {e : Addr} {oe : Obj} {Q : Bool → Shared → Prop} (hC : h.get? K = some (excClassObj nm q K N bs bm hdct sn sub ab col dd k0 k1 k2 k3 k5 newId)) (hR : h.get? K' = some (excClassObj nm' q' K' N' bs' bm' hdct' sn' sub' ab' col' dd' k0' k1' k2' k3' k5' newId')) (he : h.get? e = some oe) (hcls : oe.cls = .ref K)
    (hbase : bm'.contains (.type "BaseException") = true) (hup : bm.contains (.ref K') = true) (hq : Q true ⟨h, g, d, t, os⟩) : wpAny M A (excMatches (.ref e) (.ref K')) Q E ⟨h, g, d, t, os⟩ := by
  have hcB : (Value.ref K' :: bm').contains (.type "BaseException") = true := by rw [List.contains_cons, hbase, Bool.or_true]
  have hcC : (Value.ref K :: bm).contains (.ref K') = true := by rw [List.contains_cons, hup, Bool.or_true]
  have f := tc_notTuple
  unfold excMatches
  repeat (first | (with_reducible refine wpAny_loadPart_at he ?_; rw [hcls]) | with_reducible refine wpAny_loadPart_at hR ?_ | with_reducible refine wpAny_loadPart_at hC ?_ | (with_reducible refine wpAny_isSubtype_exc hR ?_; rw [hcB]) | (with_reducible refine wpAny_isSubtype_exc hC ?_; rw [hcC]) | wp_step)
  exact hq
theorem meta_ValueError : typeOf (.type "ValueError") = pure (.type "type") := by kernel_rfl
theorem isi_nested_own {e : Addr} {oe : Obj} {Q : Fin → Shared → Prop} (hC : h.get? K = some (excClassObj nm q K N bs bm hdct sn sub ab col dd k0 k1 k2 k3 k5 newId)) (he : h.get? e = some oe) (hcls : oe.cls = .ref K) (hV : bm.contains (.type "ValueError") = true)
    (hq : Q (.done (.ret (.bool true))) ⟨h, g, d, t, os⟩) : wpAny (model prog w) A (Builtin.«isinstance.nested» ⟨[.ref e, .type "ValueError", rawInt 0], []⟩) Q E ⟨h, g, d, t, os⟩ := by
  have hcV : (Value.ref K :: bm).contains (.type "ValueError") = true := by rw [List.contains_cons, hV, Bool.or_true]
  have hty := meta_ValueError
  have hne : (Value.ref K == Value.type "ValueError") = false := rfl
  repeat (first | (with_reducible refine wpAny_loadPart_at he ?_; rw [hcls]) | with_reducible refine wpAny_loadPart_at hC ?_ | (with_reducible refine wpAny_isSubtype_exc hC ?_; rw [hcV]) | wp_step)
  exact hq
theorem isi_own {e : Addr} {oe : Obj} {Q : Value → Shared → Prop} (hC : h.get? K = some (excClassObj nm q K N bs bm hdct sn sub ab col dd k0 k1 k2 k3 k5 newId)) (he : h.get? e = some oe) (hcls : oe.cls = .ref K) (hV : bm.contains (.type "ValueError") = true)
    (hq : Q (.bool true) ⟨h, g, d, t, os⟩) : wpAny (model prog w) A (call (.builtin "isinstance") [.ref e, .type "ValueError"]) Q E ⟨h, g, d, t, os⟩ :=
  call_isinstance (S := fun _ R s => (s.heap.get? K = some (excClassObj nm q K N bs bm hdct sn sub ab col dd k0 k1 k2 k3 k5 newId) ∧ s.heap.get? e = some oe) ∧ R (.ok (.ret (.bool true))) s)
    (fun _ _ _ _ s hs => by
      obtain ⟨h, g, d, t, os⟩ := s
      exact isinstance_outer (isi_nested_own hs.1.1 hs.1.2 hcls hV hs.2) (by intro q; cases q)) ⟨⟨hC, he⟩, hq⟩
end
end Mine
set_option maxRecDepth 100000
namespace Mine
open PySem PySem.Calls PyProof.Rows
theorem excMatches_upS {M : Model} {A : Around} {E : Value → Shared → Prop} {s : Shared} {nm q : Str} {K N : Addr} {bs bm : List Value} {hdct : Bool} {sn : List Str} {sub : List Value} {ab : Bool} {col : Option Bool} {dd : Option Addr} {k0 k1 k2 k3 k5 : Option Value} {newId : String}
    {nm' q' : Str} {K' N' : Addr} {bs' bm' : List Value} {hdct' : Bool} {sn' : List Str} {sub' : List Value} {ab' : Bool} {col' : Option Bool} {dd' : Option Addr} {k0' k1' k2' k3' k5' : Option Value} {newId' : String} {e : Addr} {oe : Obj} {Q : Bool → Shared → Prop} (hC : s.heap.get? K = some (excClassObj nm q K N bs bm hdct sn sub ab col dd k0 k1 k2 k3 k5 newId)) (hR : s.heap.get? K' = some (excClassObj nm' q' K' N' bs' bm' hdct' sn' sub' ab' col' dd' k0' k1' k2' k3' k5' newId')) (he : s.heap.get? e = some oe) (hcls : oe.cls = .ref K)
    (hbase : bm'.contains (.type "BaseException") = true) (hup : bm.contains (.ref K') = true) (hq : Q true s) : wpAny M A (excMatches (.ref e) (.ref K')) Q E s := by
  obtain ⟨h, g, d, t, os⟩ := s
  exact excMatches_up hC hR he hcls hbase hup hq
section
variable {C : Cx} {A : Around} {env : Env} {gs : List Str} {S : Sg} {H : Hp} {n : Nat} {K K' : Addr} {X : Prop}
theorem isiOwn {x : Str} {p p1 p2 pos : Pos} {e : Addr} {oe : Obj} {s : Shared} {bmB : List Value} {newId xK : _} (I : Inv C H s) (F : Fm C env gs S H s.heap) (a : At S x (.ref e)) (hx : Str.ofString "isinstance" ∈ gs) (g : Gl C "isinstance" (.builtin "isinstance")) (hv : Str.ofString "ValueError" ∈ gs) (gv : Gl C "ValueError" (.type "ValueError"))
    (O : OwnCls xK K bmB newId C.mg C.h₀) (hV : bmB.contains (.type "ValueError") = true) (he : s.heap.get? e = some oe) (hcls : oe.cls = .ref K) (hed : ¬ dom H e)
    (hst : starEach [.Name x p1, .Name "ValueError" p2] env = [(false, eval (.Name x p1) env), (false, eval (.Name "ValueError" p2) env)] := by with_unfolding_all rfl) :
    wpAny (Md C) A (eval (.Call (.Name "isinstance" p) [.Name x p1, .Name "ValueError" p2] [] pos) env) (fun v s' => v = .bool true ∧ Inv C H s' ∧ Kp s.heap H s'.heap H) NoE s := by
  obtain ⟨tl, N, nm, q, bs, hdct, sn, sub, ab, col, dd, k0, k1, k2, k3, k5, mN, hC, hN, hni, Tl⟩ := O.obj
  refine Call_ (wpAny_mono (WE.gl (C := C) (A := A) (Q := fun y H' => y = .raw (.builtin "isinstance") ∧ H' = H) hx g ⟨rfl, rfl⟩ s I F) (fun v s₁ h₁ => ?_) noE)
  refine EP.elim h₁ fun y H₁ r₁ I₁ kp₁ hq => ?_
  clear h₁
  obtain ⟨rfl, rfl⟩ := hq
  unfold VR at r₁; subst r₁
  have hargs : WEs C A env gs S H₁ [.Name x p1, .Name "ValueError" p2] fun xs H' => xs = [.ref e, .raw (.type "ValueError")] ∧ H' = H₁ := WEs.cons (WE.var a (WEs.cons (WE.gl hv gv (WEs.nil ⟨rfl, rfl⟩)) (by with_unfolding_all rfl))) (by with_unfolding_all rfl)
  refine callWith_builtin1 (wpAny_mono (hargs s₁ pos I₁ (F.keep I kp₁)) (fun vs s₂ h₂ => ?_) noE) hst rfl
  refine LP.elim h₂ fun xs H₂ r₂ I₂ kp₂ hq => ?_
  clear h₂
  obtain ⟨rfl, rfl⟩ := hq
  obtain ⟨v1, t1, rfl, hv1, r₃⟩ := r₂.inv
  obtain ⟨v2, t2, rfl, hv2, r₄⟩ := r₃.inv
  have := r₄.inv0
  subst this
  unfold VR at hv1 hv2
  subst hv1 hv2
  have kp := kp₁.trans kp₂
  have hC₂ := I₂.base _ _ hC
  have he₂ := (kp _ _ he hed).1
  have I₂' := I₂
  obtain ⟨hp, g', d, tk, os⟩ := s₂
  exact isi_own hC₂ he₂ hcls (Tl.hasType hV) ⟨rfl, I₂', kp⟩
/-- a try of one statement that raises, one clause with a name, which hands back isinstance(name, ValueError) -/
theorem tryRefused {st : Stmt} {xK xR nme : Str} {np hpos p rp ip ip1 ip2 ipos : Pos} {rest : List Stmt} {bmB bmR : List Value} {newId newR : String} {l : List Env} {s : Shared} (I : Inv C H s) (F : Fm C env gs S H s.heap) (nf : NoFree env S) (Fr : FrsC C H A (env :: l) s.heap) (hx : xR ∈ gs) (hdb : (xR == ("__debug__" : Str)) = false)
    (O : OwnCls xK K bmB newId C.mg C.h₀) (OR : OwnCls xR K' bmR newR C.mg C.h₀) (hbase : bmR.contains (.type "BaseException") = true) (hV : bmB.contains (.type "ValueError") = true)
    (hup : ∀ bm N nm q bs hdct sn sub ab col dd k0 k1 k2 k3 k5, C.h₀.get? K = some (excClassObj nm q K N bs bm hdct sn sub ab col dd k0 k1 k2 k3 k5 newId) → bm.contains (.ref K') = true)
    (hi : Str.ofString "isinstance" ∈ gs) (gi : Gl C "isinstance" (.builtin "isinstance")) (hv : Str.ofString "ValueError" ∈ gs) (gv : Gl C "ValueError" (.type "ValueError"))
    (hl : env.kindOf nme = some .local) (pt : ∀ v, ∃ S', Put S nme v S' ∧ At S' nme v)
    (h : WSR C A env gs S H st (fun _ _ _ => False) K X)
    (hst : starEach [.Name nme ip1, .Name "ValueError" ip2] env = [(false, eval (.Name nme ip1) env), (false, eval (.Name "ValueError" ip2) env)] := by with_unfolding_all rfl) :
    wpAny (Md C) A (execs (.Try [st] [.ExceptHandler (some (.Name xR np)) (some nme) [.Return (some (.Call (.Name "isinstance" ip) [.Name nme ip1, .Name "ValueError" ip2] [] ipos)) rp] hpos] [] [] p :: rest) env)
      (fun f s' => f = .ret (.bool true) ∧ Inv C H s' ∧ ∀ b o, s.heap.get? b = some o → ¬ dom H b → ¬ Own env b → (b ∉ locs l → s'.heap.get? b = some o) ∧ ∃ sl, s'.heap.get? b = some { o with slots := sl }) NoE s := by
  refine wpAny_execs_cons (wpAny_Try_except (wpAny_execs_cons (wpAny_mono (h s (env :: l) I F nf Fr) (fun f s₁ h₁ => ?_) fun v s' h' => ?_)))
  · obtain ⟨fl, S₁, H₁, r, I₁, F₁, k₁, n₁, q₁⟩ := h₁
    exact q₁.elim
  · obtain ⟨e, T, ctx, rfl, R, x⟩ := h'
    refine R.note I Fr fun h₁ T₁ R₁ => ?_
    refine wpAny_handleBy_cons (codeAny_handlers_test (wpAny_mono (WE.glob (C := C) (A := A.mark (some (.ref e))) (Q := fun y H' => y = .raw (.ref K') ∧ H' = H) hx OR.bound ⟨rfl, rfl⟩ hdb _ R₁.inv (R₁.fm I Fr F)) (fun c s₂ h₂ => ?_) noE)) (by intro q; cases q)
    refine EP.elim h₂ fun y H₂ r₂ I₂ k₂ hq₂ => ?_
    clear h₂
    obtain ⟨rfl, rfl⟩ := hq₂
    unfold VR at r₂; subst r₂
    have R₂ := R₁.kp I k₂ I₂
    obtain ⟨tl, N, nm, q, bs, hdct, sn, sub, ab, col, dd, k0, k1, k2, k3, k5, mN, hC, hN, hni, Tl⟩ := O.obj
    obtain ⟨tl', N', nm', q', bs', hdct', sn', sub', ab', col', dd', k0', k1', k2', k3', k5', mN', hC', hN', hni', Tl'⟩ := OR.obj
    obtain ⟨oe, vs, oT, ts, he, hc, _⟩ := R₂.exc
    have hC₂ := I₂.base _ _ hC
    have hR₂ := I₂.base _ _ hC'
    have hup' := hup _ _ _ _ _ _ _ _ _ _ _ _ _ _ _ _ hC
    have heo : ¬ Own env e := fun w => by
      obtain ⟨o, ho⟩ := F.ownAt w
      rw [R.new] at ho; cases ho
    refine excMatches_upS hC₂ hR₂ he hc (Tl'.hasType hbase) hup' ?_
    refine codeAny_handlers_suite_as (R₂.flight I Fr fun h₃ R₃ => ?_)
    obtain ⟨S', pt', at'⟩ := pt (.ref e)
    refine store R₃.inv (R₃.fm I Fr F) (by rw [hl]; decide) pt' (by unfold VR; rfl) fun s₄ I₄ F₄ k₄ tk₄ ext₄ => ?_
    obtain ⟨oe, vs, oT, ts, he, hc, _⟩ := R₃.exc
    have hed := (R₃.offs I).1.1
    have he₄ : s₄.heap.get? e = some oe := ext₄ hl e oe (fun q => heo (.inl q)) he
    refine wpAny_execs_cons (wpAny_Return_some (wpAny_mono (isiOwn (A := A.mark (some (.ref e))) I₄ F₄ at' hi gi hv gv O hV he₄ hc hed hst) (fun u s₅ h₅ => ?_) noE))
    obtain ⟨rfl, I₅, kp₅⟩ := h₅
    have F₅ := F₄.keep I₄ kp₅
    obtain ⟨mr, hn, _⟩ := F₅.ns
    refine wpAny_nameGoes hl hn (by rw [F.ok.kind]; rfl) fun h₆ m₆ hn₆ hs₆ => ⟨rfl, ?_, fun b o hb nb no => ?_⟩
    · have ex : ∀ b o, b ≠ env.locals → s₅.heap.get? b = some o → h₆.get? b = some o := fun b o hb e => hs₆.extBut b o hb e
      have tk : TupKeep s₅.heap h₆ := fun b o e' hm => ex b o (fun q => by
        obtain ⟨oL, es, ep, hL, hd, _⟩ := hn
        rw [q, hL] at e'; cases e'
        rcases hm with ⟨_, _, _, hd'⟩ | ⟨_, _, hd'⟩ <;> (rw [hd] at hd'; cases hd')) e'
      exact ⟨fun b o e' => ex b o (fun q => by rw [q, F.nl0] at e'; cases e') (I₅.base b o e'), fun p hp => (I₅.objs p hp).keep tk fun ob e' => ex _ _ (fun q => F.nl (q ▸ List.mem_map_of_mem hp)) e', I₅.new, I₅.nodup, I₅.gens, I₅.os⟩
    · have hbl : b ≠ env.locals := fun q => no (.inl q)
      have fin : ∀ o', h₃.get? b = some o' → h₆.get? b = some o' := fun o' e' => hs₆.extBut b o' hbl ((kp₅ b o' (ext₄ hl b o' hbl e') nb).1)
      obtain ⟨c1, sl, c2⟩ := R₃.chg b o hb nb
      refine ⟨fun hf => fin o (c1 fun q => ?_), sl, fin _ c2⟩
      rcases List.mem_cons.mp q with q | q
      · exact hbl q
      · exact hf q
end
end Mine
set_option maxRecDepth 100000
namespace Mine
open PySem PySem.Calls PyProof.Rows
section
variable {C : Cx} {A : Around} {env : Env} {gs : List Str} {S : Sg} {H : Hp} {n : Nat} {K K' : Addr} {X : Prop}
/-- what a call may do that raised and caught on its way -/
def Sl (H : Hp) (l : List Env) (h h' : Heap) : Prop := ∀ b o, h.get? b = some o → ¬ dom H b → (b ∉ locs l → h'.get? b = some o) ∧ ∃ sl, h'.get? b = some { o with slots := sl }
def WFB (C : Cx) (A : Around) (H : Hp) (f : Str) (xs : List MV) : Prop :=
  ∀ a, C.mg f = some (.ref a) → ∀ s vs l, Inv C H s → VRs C.h₀ s.heap xs vs → FrsC C H A l s.heap → wpAny (Md C) A (call (.ref a) vs) (fun v s' => v = .bool true ∧ Inv C H s' ∧ Sl H l s.heap s'.heap) NoE s
theorem WFB.intro {f name : Str} {params : Arguments} {body : List Stmt} {scope : Scope} (g : Fn C f name params body scope) (hA : AOk C A (n + 1)) {xs : List MV} (ps os gs cs : List Str) (S : Sg)
    (hsc : (scopeOk scope (ps ++ os) gs && cs.all fun x => scope.names.lookup x == some .cell) = true) (hl : xs.length = ps.length)
    (hb : ∀ vs pm cd doc, vs.length = ps.length → bindArgs (docDef name params body scope pm cd doc) ⟨vs, []⟩ = pure (ps.zip vs)) (hS : startS ps xs os = S)
    (h : ∀ env s l, AOk C (A.deeper env) n → EnvK env (ps ++ os) cs → (∀ x, env.kindOf x = scope.names.lookup x) → Inv C H s → Fm C env gs S H s.heap → NoFree env S → FrsC C H (A.deeper env) (env :: l) s.heap →
      wpAny (Md C) (A.deeper env) (execs body env) (fun f s' => f = .ret (.bool true) ∧ Inv C H s' ∧ ∀ b o, s.heap.get? b = some o → ¬ dom H b → ¬ Own env b → (b ∉ locs l → s'.heap.get? b = some o) ∧ ∃ sl, s'.heap.get? b = some { o with slots := sl }) NoE s) : WFB C A H f xs := by
  intro a ha s vs l I r Fr
  refine wpAny_call (enter g hA ps os gs cs S hsc hl hb hS ha I r fun env s₁ hA' ek hkd hf hk hown hkeep I₁ F₁ nf => ?_)
  have Fr' : FrsC C H (A.deeper env) (env :: l) s₁.heap := ⟨⟨by show A.frames.map _ = _; rw [Fr.fr]; rfl, fun x hx => by
    rcases List.mem_cons.mp hx with rfl | hx
    · obtain ⟨o, ds, k, ho, hn⟩ := F₁.dictAt
      exact ⟨by rw [hk]; decide, hf, o, ds, k, ho, hn⟩
    · obtain ⟨k1, k2, o, ds, k, k3, k4⟩ := Fr.at' x hx
      exact ⟨k1, k2, o, ds, k, hkeep _ _ k3, k4⟩⟩, fun x hx => by
    rcases List.mem_cons.mp hx with rfl | hx
    · exact ⟨F₁.nl0, F₁.nl⟩
    · exact Fr.off x hx⟩
  refine wpAny_mono (h env s₁ l hA' ek hkd I₁ F₁ nf Fr') (fun fl s' h' => ?_) noE
  obtain ⟨rfl, I', c⟩ := h'
  exact ⟨rfl, I', fun b o hb nb => c b o (hkeep b o hb) nb fun w => by rw [hown b w] at hb; cases hb⟩
theorem Sl.fm {l : List Env} {s : Shared} {h' : Heap} (c : Sl H l s.heap h') (I : Inv C H s) (Fr : FrsC C H A l s.heap) (F : Fm C env gs S H s.heap) : Fm C env gs S H h' := by
  have tk : TupKeep s.heap h' := fun b o hb im => (c b o hb (I.noTup hb im)).1 (Fr.imm hb im)
  obtain ⟨ok, ⟨mr, ⟨oL, es, ep, hL, hd, r⟩, hv⟩, nl, nl0, hc⟩ := F
  obtain ⟨_, sl, h2⟩ := c _ _ hL nl
  refine ⟨ok, ⟨mr, ⟨_, es, ep, h2, hd, r⟩, fun x v a k => ?_⟩, nl, nl0, fun nm c' hcm => ?_⟩
  · obtain ⟨u, h1, h2⟩ := hv x v a k; exact ⟨u, h1, h2.keep tk⟩
  · obtain ⟨vo, ⟨oc, ho, hdc⟩, nd, n0, hv⟩ := hc nm c' hcm
    obtain ⟨_, sl, h3⟩ := c _ _ ho nd
    refine ⟨vo, ⟨_, h3, hdc⟩, nd, n0, fun v a k => ?_⟩
    obtain ⟨u, h1, h2⟩ := hv v a k; exact ⟨u, h1, h2.keep tk⟩
theorem WS.notB {f nm : Str} {p pos np ip : Pos} {pa : Arguments} {bo : List Stmt} {sc : Scope} {e : Expr} {rest : List Expr} {body : List Stmt} {ns cs : List Str} {Q : Fl → Sg → Hp → Prop} (EK : EnvK env ns cs) (hfr : A.frames = some [env]) (hx : f ∈ gs) (g : Fn C f nm pa bo sc)
    (h : WEs C A env gs S H (e :: rest) fun xs H' => H' = H ∧ WFB C A H f xs) (q : Q .next S H)
    (he : starEach (e :: rest) env = (false, eval e env) :: starEach rest env := by with_unfolding_all rfl)
    (hpl : isTrue (.Call (.Name f p) (e :: rest) [] pos) env (eval (.Call (.Name f p) (e :: rest) [] pos) env) = (do let v ← eval (.Call (.Name f p) (e :: rest) [] pos) env; standAt (Expr.pos (.Call (.Name f p) (e :: rest) [] pos)); holding [v] (truthy v)) := by with_unfolding_all rfl) :
    WS C A env gs S H (.If (.UnaryOp .Not (.Call (.Name f p) (e :: rest) [] pos) np) body [] ip) Q := by
  intro s I F nf
  have Fr := frs1 hfr EK F
  obtain ⟨a, o, pm, cd, doc, h1, h2, h3, h4⟩ := g.at'
  have key : wpAny (Md C) A (eval (.Call (.Name f p) (e :: rest) [] pos) env) (fun v s' => v = .bool true ∧ Inv C H s' ∧ Sl H [env] s.heap s'.heap) NoE s := by
    refine Call_ (wpAny_mono (WE.glob (C := C) (A := A) (Q := fun y H' => y = .raw (.ref a) ∧ H' = H) hx h1 ⟨rfl, rfl⟩ g.nodbg s I F) (fun v s₁ h₁ => ?_) noE)
    refine EP.elim h₁ fun y H₁ r₁ I₁ k₁ hq => ?_
    clear h₁
    obtain ⟨rfl, rfl⟩ := hq
    unfold VR at r₁; subst r₁
    refine callWith_def h3 (wpAny_mono (h s₁ pos I₁ (F.keep I k₁)) (fun vs s₂ h₂ => ?_) noE) he
    refine LP.elim h₂ fun xs H₂ r₂ I₂ k₂ q₂ => ?_
    clear h₂
    obtain ⟨rfl, q₂⟩ := q₂
    have k := k₁.trans k₂
    exact ⟨I₂.base _ _ h2, wpAny_mono (q₂ a h1 s₂ vs [env] I₂ r₂ (Fr.kp k)) (fun _ _ ⟨e1, I', c⟩ => ⟨e1, I', fun b o hb nb => c b o (k b o hb nb).1 nb⟩) noE⟩
  refine wpAny_If (isTrue_not (isTrue_plain (wpAny_mono key (fun v s₁ h₁ => ?_) noE) hpl))
  obtain ⟨rfl, I₁, c⟩ := h₁
  refine wpAny_truthy_bool ?_
  exact wpAny_execs_nil ⟨.next, S, H, rfl, I₁, c.fm I Fr F, fun b o hb nb => ⟨nb, by
    obtain ⟨c1, sl, c2⟩ := c b o hb nb
    refine ⟨_, c2, fun ho => ?_⟩
    have := c1 (fun q => ho (.inl (by simpa using q)))
    rw [c2] at this
    exact Option.some.inj this⟩, rfl, q⟩
end
end Mine
set_option maxRecDepth 100000
namespace Mine
open PySem PySem.Calls PyProof.Rows
section
variable {prog : Program} {w : World} {A : Around} {E : Value → Shared → Prop} {s : Shared}
theorem lri_len : typeLookup (.type "list_reverseiterator") "__len__" = pure none := by rw [typeLookup_type, builtinLookup_eq_fast]; kernel_rfl
theorem lri_hint : typeLookup (.type "list_reverseiterator") "__length_hint__" = pure (some (.builtin "list_reverseiterator.__length_hint__")) := by rw [typeLookup_type, builtinLookup_eq_fast]; kernel_rfl
theorem hint_rev {r : Addr} {Q : Bool → Shared → Prop} (hT : s.TypeIs (.ref r) "list_reverseiterator") (h : Q false s) : wpAny (model prog w) A (Builtin.List.listLengthHint (.ref r)) Q E s := by
  unfold Builtin.List.listLengthHint
  refine wpAny_bind (wpAny_specialOf hT lri_len ?_)
  refine wpAny_ite_split (fun hab => absurd hab (by decide +kernel)) (fun _ => ?_)
  refine wpAny_ite_split (fun hab => absurd hab (by decide)) (fun _ => ?_)
  refine wpAny_bind (wpAny_specialOf hT lri_hint ?_)
  generalize hid : ("list_reverseiterator.__length_hint__" : String) = id0
  wp_delta
  rw [show splitId id0 = some ("list_reverseiterator", "__length_hint__") from by subst hid; decide +kernel]
  subst hid
  refine wpAny_bind (wpAny_isInstance (T := "list_reverseiterator") (b := true) hT (by rw [isSubtype_type]; kernel_rfl) ?_)
  refine wpAny_ite_split (fun hab => absurd hab (by decide)) (fun _ => ?_)
  refine wpAny_ite_split (fun _ => ?_) (fun hab => absurd (by decide +kernel) hab)
  refine wpAny_ite_split (fun hab => absurd hab (by decide)) (fun _ => ?_)
  exact wpAny_pure h
theorem init_rev {R : Result → Shared → Prop} {r l S : Addr} {items : Array Value} (hh : A.handled = none) (hit : s.heap.IsRevIter r l ((items.size : Int) - 1)) (hl : s.heap.IsList l items) (hne : l ≠ r) (hSr : S ≠ r) (hSl : S ≠ l) (hS : s.heap.get? S = some { cls := .type "list", data := .seq #[] }) (hn : items.size ≤ sizeLine)
    (hR : ∀ h' tk acc' c', (∀ b o, b ≠ S → b ≠ r → s.heap.get? b = some o → h'.get? b = some o) → h'.get? S = some { cls := .type "list", dict := none, data := .seq acc' c', slots := #[] } → ItemsOf (fun i v => items[items.size - 1 - i]? = some v) acc' items.size → R (.ok (.ret .none)) { s with heap := h', toks := tk }) :
    wpAny (model prog w) A.in1 (Builtin.«list.__init__» ⟨[.ref S, .ref r], []⟩)
      (fun fin s' => match fin with | .done f => R (.ok f) s' | .again c' => c'.quiet = true ∧ codeAny (model prog w) A c' R s') (fun e s' => R (.error e) s') s := by
  show wpAny _ _ (do let old ← Builtin.List.listItems (.ref S); Builtin.List.listUpdate (.ref S) (fun _ => #[]); letGo old.toList.reverse; Builtin.List.listExtendWith (.ref S) (.ref r) .none) _ _ s
  refine wpAny_bind ?_
  unfold Builtin.List.listItems
  refine wpAny_bind (wpAny_seqItems hS rfl (wpAny_pure ?_))
  show wpAny _ _ (updateSeq S (fun _ => #[]) >>= fun _ => letGo (#[] : Array Value).toList.reverse >>= fun _ => Builtin.List.listExtendWith (.ref S) (.ref r) .none) _ _ s
  refine wpAny_bind (wpAny_updateSeq hS rfl ?_)
  have hS₂ := Heap.get?_update_self (Obj.mapSeq (fun _ => (#[] : Array Value))) hS rfl
  have oth : ∀ b o, b ≠ S → s.heap.get? b = some o → (s.heap.update S (Obj.mapSeq (fun _ => (#[] : Array Value)))).get? b = some o :=
    fun b o hb e => (Heap.get?_update_other _ _ (Ne.symm hb)).trans e
  refine wpAny_bind (wpAny_letGo ?_)
  have hit₂ : (s.heap.update S (Obj.mapSeq (fun _ => (#[] : Array Value)))).IsRevIter r l ((items.size : Int) - 1 - ((0 : Nat) : Int)) := by
    rw [show (items.size : Int) - 1 - ((0 : Nat) : Int) = (items.size : Int) - 1 by omega]
    exact hit.at fun o e => oth r o (Ne.symm hSr) e
  have hl₂ : (s.heap.update S (Obj.mapSeq (fun _ => (#[] : Array Value)))).IsList l items := hl.at fun o e => oth l o (Ne.symm hSl) e
  unfold Builtin.List.listExtendWith
  refine wpAny_bind (wpAny_typeOf (T := "list_reverseiterator") hit₂.typeIs ?_)
  have h1 : Builtin.List.listSameRef (.ref S) (.ref r) = false := by simp [Builtin.List.listSameRef, hSr]
  simp only [h1, show (Value.type "list_reverseiterator" == Value.type "list") = false from by decide, show (Value.type "list_reverseiterator" == Value.type "tuple") = false from by decide, Bool.or_false, Bool.false_eq_true, if_false]
  refine wpAny_bind (wpAny_pyIter_revIter hit₂ ?_)
  refine wpAny_bind (wpAny_holding (hint_rev hit₂.typeIs ?_))
  have W := Walks.listRev (prog := prog) (w := w) (A := A.in1) hh r l hne items
  have hSf : S ∉ [r, l] := by simp only [List.mem_cons, List.not_mem_nil, or_false, not_or]; exact ⟨hSr, hSl⟩
  have key : ∀ (h : Heap) (c₁ tk : Nat), (0 ≤ items.size ∧ h.IsRevIter r l ((items.size : Int) - 1 - ((0 : Nat) : Int)) ∧ h.IsList l items) → (∀ b o, b ≠ S → s.heap.get? b = some o → h.get? b = some o) →
      h.get? S = some { cls := .type "list", data := .seq #[] c₁ } → codeAny (model prog w) A (.builtin "list.extend.loop" ⟨[.ref S, .ref r, .none], []⟩) R { s with heap := h, toks := tk } := by
    intro h c₁ tk hst hk hS₁
    refine codeAny_extend_loopS W.toS hn S hSf .none items.size 0 _ #[] c₁ rfl (Nat.zero_le _) hst hS₁ (ItemsOf.nil _) fun s' acc' c' hm hS' hacc => ?_
    rw [Moved.eq_with hm]
    refine hR s'.heap s'.toks acc' c' (fun b o hb hbr e => hm.heap b o (fun hmem => ?_) (hk b o hb e)) hS' hacc
    rcases List.mem_cons.mp hmem with e' | hmem
    · exact hb e'
    · exact hbr (List.mem_singleton.mp hmem)
  exact wpAny_ite_split (fun hab => absurd hab (by decide)) (fun _ => wpAny_pure ⟨plainId_quiet PySem.F.plain_extend_loop _, key _ _ _ ⟨Nat.zero_le _, hit₂, hl₂⟩ oth hS₂⟩)
theorem call_list_rev {Q : Value → Shared → Prop} {r l : Addr} {items : Array Value} (hh : A.handled = none) (hit : s.heap.IsRevIter r l ((items.size : Int) - 1)) (hl : s.heap.IsList l items) (hne : l ≠ r) (hn : items.size ≤ sizeLine)
    (hQ : ∀ h' tk acc' c', (∀ b o, b ≠ r → s.heap.get? b = some o → h'.get? b = some o) → h'.get? s.heap.objs.size = some { cls := .type "list", dict := none, data := .seq acc' c', slots := #[] } → ItemsOf (fun i v => items[items.size - 1 - i]? = some v) acc' items.size → Q (.ref s.heap.objs.size) { s with heap := h', toks := tk }) :
    wpAny (model prog w) A (call (.type "list") [.ref r]) Q E s := by
  refine callType_codes (Q₁ := fun obj s₁ => obj = .ref s.heap.objs.size ∧ s₁ = { s with heap := s.heap.push { cls := .type "list", data := .seq #[] } }) PySem.F.called_list (PySem.F.typeCall_list_1 _) PySem.F.entry_list_init
    (code_list_new _ ⟨rfl, rfl⟩) fun obj s₁ h₁ => ?_
  obtain ⟨rfl, rfl⟩ := h₁
  have hS : (s.heap.push { cls := .type "list", data := .seq #[] }).get? s.heap.objs.size = some { cls := .type "list", data := .seq #[] } := Heap.get?_push_size _ rfl
  have hlr : r < s.heap.objs.size := let ⟨_, ho, _⟩ := hit; Heap.lt_size ho
  have hll : l < s.heap.objs.size := let ⟨_, ho, _⟩ := hl; Heap.lt_size ho
  refine ⟨⟨_, hS, rfl⟩, PySem.F.args_list_init_2 _ _, init_rev (A := A.in1) hh (hit.at fun o e => Heap.get?_push_of_some _ e) (hl.at fun o e => Heap.get?_push_of_some _ e) hne (Nat.ne_of_gt hlr) (Nat.ne_of_gt hll) hS hn fun h' tk acc' c' hk hS' hacc => ?_⟩
  exact ⟨rfl, hQ h' tk acc' c' (fun b o hb e => hk b o (Nat.ne_of_lt (Heap.lt_size e)) hb (Heap.get?_push_of_some _ e)) hS' hacc⟩
end
end Mine
set_option maxRecDepth 100000
namespace Mine
open PySem PySem.Calls PyProof.Rows
section
variable {C : Cx} {A : Around} {env : Env} {gs : List Str} {S : Sg} {H : Hp} {n : Nat} {Q : MV → Hp → Prop}
theorem WE.listRev {p p2 pos pos2 : Pos} {e : Expr} (hh : A.handled = Option.none) (hx : Str.ofString "list" ∈ gs) (g : Gl C "list" (.type "list")) (hr : Str.ofString "reversed" ∈ gs) (gr : Gl C "reversed" (.type "reversed"))
    (h : WE C A env gs S H e fun x H₁ => ∃ a xs, x = .ref a ∧ (a, MO.list xs) ∈ H₁ ∧ xs.length ≤ sizeLine ∧ ∀ D, ¬ dom H₁ D → Q (.ref D) ((D, .list xs.reverse) :: H₁))
    (he : starEach [e] env = [(false, eval e env)] := by with_unfolding_all rfl)
    (he2 : starEach [.Call (.Name "reversed" p2) [e] [] pos2] env = [(false, eval (.Call (.Name "reversed" p2) [e] [] pos2) env)] := by with_unfolding_all rfl) :
    WE C A env gs S H (.Call (.Name "list" p) [.Call (.Name "reversed" p2) [e] [] pos2] [] pos) Q := by
  intro s I F
  refine Call_ (wpAny_mono (WE.gl (C := C) (A := A) (Q := fun x H' => x = .raw (.type "list") ∧ H' = H) hx g ⟨rfl, rfl⟩ s I F) (fun v s₁ h₁ => ?_) noE)
  refine EP.elim h₁ fun x H₁ r₁ I₁ k₁ hq => ?_
  clear h₁
  obtain ⟨rfl, rfl⟩ := hq
  unfold VR at r₁; subst r₁
  have F₁ := F.keep I k₁
  rw [show backTo pos (starEach [.Call (.Name "reversed" p2) [e] [] pos2] env) = [(false, eval (.Call (.Name "reversed" p2) [e] [] pos2) env)] from by rw [he2]; rfl]
  refine PySem.callWith_type rfl (evalArgs_plain (spliced_cons ?_))
  refine Call_ (wpAny_mono (WE.gl (C := C) (A := A) (Q := fun x H' => x = .raw (.type "reversed") ∧ H' = H₁) hr gr ⟨rfl, rfl⟩ s₁ I₁ F₁) (fun v s₂ h₂ => ?_) noE)
  refine EP.elim h₂ fun x H₂ r₂ I₂ k₂ hq => ?_
  clear h₂
  obtain ⟨rfl, rfl⟩ := hq
  unfold VR at r₂; subst r₂
  rw [show backTo pos2 (starEach [e] env) = [(false, eval e env)] from by rw [he]; rfl]
  refine PySem.callWith_type rfl (evalArgs_plain (spliced_cons (wpAny_mono (h s₂ I₂ (F₁.keep I₁ k₂)) (fun v s₃ h₃ => spliced_nil ?_) noE)))
  refine EP.elim h₃ fun x H₃ r₃ I₃ k₃ hq => ?_
  clear h₃
  obtain ⟨a, xs, rfl, hm, hsz, q⟩ := hq
  unfold VR at r₃; subst r₃
  obtain ⟨vs, m, ho, hrs⟩ := I₃.objs _ hm
  have hl : s₃.heap.IsList a vs.toArray := ⟨_, ho, rfl, m, rfl⟩
  have k := (k₁.trans k₂).trans k₃
  refine call_reversed_list hl ?_
  refine spliced_nil ?_
  have hk : ∀ b o, s₃.heap.get? b = some o → (s₃.heap.push (revObj a ((vs.toArray.size : Int) - 1))).get? b = some o := fun b o e => Heap.get?_push_of_some _ e
  have hne : a ≠ s₃.heap.objs.size := Nat.ne_of_lt (Heap.lt_size ho)
  refine call_list_rev (s := { s₃ with heap := _ }) hh (r := s₃.heap.objs.size) (l := a) (items := vs.toArray) ⟨_, Heap.get?_push_size _ rfl, rfl, rfl⟩ (hl.push _) hne (by rw [List.size_toArray, hrs.length]; exact hsz) fun h' tk acc' c' hk' hS' hacc => ?_
  have keep : ∀ b o, s₃.heap.get? b = some o → h'.get? b = some o := fun b o e => hk' b o (Nat.ne_of_lt (Heap.lt_size e)) (hk b o e)
  have hacc2 : acc'.toList = vs.reverse := by
    apply List.ext_getElem?
    intro i
    by_cases hi : i < vs.length
    · have hsz2 : acc'.size = vs.length := by simpa using hacc.1
      have hlt : i < acc'.toList.length := by rw [Array.length_toList]; omega
      have hv := hacc.2 i acc'.toList[i] (by rw [← Array.getElem?_toList]; simp)
      rw [List.getElem?_reverse hi, List.getElem?_eq_getElem hlt]
      simpa using hv.symm
    · have hsz2 : acc'.size = vs.length := by simpa using hacc.1
      rw [List.getElem?_eq_none (by rw [Array.length_toList]; omega), List.getElem?_eq_none (by rw [List.length_reverse]; omega)]
  have hna : s₃.heap.get? (s₃.heap.objs.size + 1) = Option.none := by
    cases e : s₃.heap.get? (s₃.heap.objs.size + 1) with
    | none => rfl
    | some o => exact absurd (Heap.lt_size e) (Nat.not_lt.mpr (Nat.le_succ _))
  rw [Heap.size_push] at hS' ⊢
  obtain ⟨I', kk, nd⟩ := I₃.add (mo := .list xs.reverse) keep hna ⟨vs.reverse, c', by rw [← hacc2]; simpa using hS', hrs.reverse.keep (.of_keeps keep)⟩ tk
  exact ⟨_, _, by unfold VR; rfl, I', k.trans kk, q _ nd⟩
end
end Mine
set_option maxRecDepth 100000
namespace Mine
open PySem PySem.W PySem.Calls PyProof.Rows
section
variable {C : Cx} {A : Around} {env : Env} {gs : List Str} {S : Sg} {H : Hp} {n : Nat} {Q : MV → Hp → Prop}
theorem WC.insert0 {a : Addr} {xs : List MV} {x : MV} {H' : Hp} (hm : (a, MO.list xs) ∈ H) (hsz : xs.length ≤ sizeLine) (u : Upd H a (.list (x :: xs)) H') (q : Q .none H') : WC C A H (.builtin "list.insert") [.ref a, .int 0, x] Q := fun s vs I r => by
  obtain ⟨v1, t1, rfl, hv1, r₁⟩ := r.inv
  obtain ⟨v2, t2, rfl, hv2, r₂⟩ := r₁.inv
  obtain ⟨v3, t3, rfl, hv3, r₃⟩ := r₂.inv
  have := r₃.inv0
  subst this
  unfold VR at hv1 hv2; subst hv1
  obtain ⟨t, rfl⟩ := hv2
  obtain ⟨vs, m, ho, hr⟩ := I.objs _ hm
  refine call_meets PySem.F.slot_list_insert ⟨_, ho, rfl⟩ PySem.F.entry_list_insert (PySem.F.args_list_insert_3 _ _ _) (PySem.AutoListH.list_insert_list_int_val_1 a vs.toArray m 0 t v3 (by decide) (by rw [List.size_toArray, hr.length]; exact hsz)) ⟨ho, ?_⟩
  generalize hf : (fun xs : Array Value => have k := if (0 : Int) < 0 then ((0 : Int) + ((xs.size : Nat) : Int)).toNat else min (0 : Int).toNat xs.size; (xs.extract 0 k).push v3 ++ xs.extract k) = f
  have hs : Heap.SameBut a s.heap (s.heap.update a (Obj.mapSeq f)) := Heap.SameBut.update ..
  have tk : TupKeep s.heap (s.heap.update a (Obj.mapSeq f)) := fun b o e hi => hs.extBut b o (fun q => I.noTup e hi (by rw [q]; exact List.mem_map_of_mem (f := (·.1)) hm)) e
  have hfv : f vs.toArray = (v3 :: vs).toArray := by
    subst hf
    apply Array.ext'
    simp
  obtain ⟨m', hnew⟩ : ∃ m', (s.heap.update a (Obj.mapSeq f)).get? a = some { cls := .type "list", data := .seq (v3 :: vs).toArray m' } := by
    have := Heap.get?_update_self (Obj.mapSeq f) ho (by simp [Obj.mapSeq, Obj.isFreed])
    rw [this]
    refine ⟨(m + 1), ?_⟩
    simp [Obj.mapSeq, hfv]
  obtain ⟨I', k⟩ := I.upd hm u hs.extBut ⟨v3 :: vs, m', hnew, (VRs.cons hv3 hr).keep tk⟩ s.toks
  exact ⟨.none, H', by unfold VR; rfl, I', k, q⟩
/-- xs.insert(0, e) -/
theorem WE.insert0 {o e : Expr} {k : Nat} {p apos pos : Pos} (h : WE C A env gs S H o fun x H₁ => ∃ a xs, x = .ref a ∧ (a, MO.list xs) ∈ H₁ ∧ WE C A env gs S H₁ e fun y H₂ => ∃ ys H₃, (a, MO.list ys) ∈ H₂ ∧ Upd H₂ a (.list (y :: ys)) H₃ ∧ ys.length ≤ sizeLine ∧ Q .none H₃)
    (hbase : attributeBase o ("insert" : Str) env (eval o env) = eval o env := by with_unfolding_all rfl) (he : starEach [.Constant (.int 0) k p, e] env = [(false, eval (.Constant (.int 0) k p) env), (false, eval e env)] := by with_unfolding_all rfl) (he2 : starEach [e] env = [(false, eval e env)] := by with_unfolding_all rfl)
    (hline : (apos.endLine == pos.line) = true := by with_unfolding_all rfl) :
    WE C A env gs S H (.Call (.Attribute o "insert" apos) [.Constant (.int 0) k p, e] [] pos) Q := by
  refine WE.meth1 (id := "list.insert") PySem.F.slot_list_insert PySem.F.type_list_insert (h.mono fun x H₁ h₁ => ?_) hbase (by rw [he, he2]) (by rw [he2]; rfl) (by rw [he]; rfl) hline
  obtain ⟨a, xs, rfl, hm, h₂⟩ := h₁
  refine ⟨a, xs, rfl, hm, WEs.cons (WE.int (WEs.cons (h₂.mono fun y H₂ h₃ => WEs.nil ?_) he2)) (by rw [he, he2])⟩
  obtain ⟨ys, H₃, h4, h5, h6, h7⟩ := h₃
  exact WC.insert0 h4 h6 h5 h7
end
end Mine
set_option maxRecDepth 100000
set_option maxHeartbeats 4000000
namespace Mine
open PySem PySem.W PySem.Calls PyProof.Rows

def getDef : Option Stmt → DefRec
  | some (.FunctionDef n a b _ _ _ sc _ _ pos) => ⟨n, a, b, sc, pos⟩
  | _ => ⟨Str.ofString "", { posonlyargs := [], args := [], vararg := none, kwonlyargs := [], kw_defaults := [], kwarg := none, defaults := [] }, [], { kind := .function, names := [], isGenerator := false, isCoroutine := false, more := [] }, ⟨0, 0, 0, 0⟩⟩
theorem seq_next {Q : Fl → Sg → Hp → Prop} {k : Sg → Hp → Prop} {S : Sg} {H : Hp} (h : k S H) : Seq Q k .next S H := h
theorem seq_ret {Q : Fl → Sg → Hp → Prop} {k : Sg → Hp → Prop} {S : Sg} {H : Hp} {v : MV} (h : Q (.ret v) S H) : Seq Q k (.ret v) S H := h
theorem loop_next {Q : Fl → Sg → Hp → Prop} {k : Sg → Hp → Prop} {S : Sg} {H : Hp} (h : k S H) : LoopQ Q k .next S H := h
theorem loop_ret {Q : Fl → Sg → Hp → Prop} {k : Sg → Hp → Prop} {S : Sg} {H : Hp} {v : MV} (h : Q (.ret v) S H) : LoopQ Q k (.ret v) S H := h
theorem ret_of {Q : MV → Hp → Prop} {S : Sg} {H : Hp} {v : MV} (h : ∃ H', H'.Sublist H ∧ Q v H') : Ret Q (.ret v) S H := h
abbrev pw := PySem.Challenge.pw_uf050005_05
def dd (i : Nat) : DefRec := getDef pw.main.body[i]?
structure Fx (C : Cx) : Prop where
  p_is_whole : Fn C "is_whole" (dd 9).name (dd 9).params (dd 9).body (dd 9).scope
  p_is_place : Fn C "is_place" (dd 10).name (dd 10).params (dd 10).body (dd 10).scope
  p_is_road : Fn C "is_road" (dd 11).name (dd 11).params (dd 11).body (dd 11).scope
  p_checked : Fn C "checked" (dd 12).name (dd 12).params (dd 12).body (dd 12).scope
  p_need_place : Fn C "need_place" (dd 13).name (dd 13).params (dd 13).body (dd 13).scope
  p_ends_right : Fn C "ends_right" (dd 15).name (dd 15).params (dd 15).body (dd 15).scope
  p_back : Fn C "back" (dd 16).name (dd 16).params (dd 16).body (dd 16).scope
  p_is_tree : Fn C "is_tree" (dd 17).name (dd 17).params (dd 17).body (dd 17).scope
  p_way : Fn C "way" (dd 18).name (dd 18).params (dd 18).body (dd 18).scope
  f_cell : Fn C "_law_cell_at" (dd 20).name (dd 20).params (dd 20).body (dd 20).scope
  f_mixed : Fn C "_law_mixed" (dd 21).name (dd 21).params (dd 21).body (dd 21).scope
  f_road : Fn C "_law_road" (dd 22).name (dd 22).params (dd 22).body (dd 22).scope
  f_many : Fn C "_law_many" (dd 23).name (dd 23).params (dd 23).body (dd 23).scope
  f_built : Fn C "_law_built" (dd 24).name (dd 24).params (dd 24).body (dd 24).scope
  f_way : Fn C "_law_way" (dd 25).name (dd 25).params (dd 25).body (dd 25).scope
  f_ways : Fn C "_law_ways" (dd 26).name (dd 26).params (dd 26).body (dd 26).scope
  f_refused : Fn C "_law_refused" (dd 27).name (dd 27).params (dd 27).body (dd 27).scope
  f_law : Fn C "law" (dd 28).name (dd 28).params (dd 28).body (dd 28).scope
  c_MOST_PLACES : ∃ t, C.mg "MOST_PLACES" = some (.int 12 t)
  c_MOST_ROADS : ∃ t, C.mg "MOST_ROADS" = some (.int 60 t)
  c_TOO_DEAR : ∃ t, C.mg "TOO_DEAR" = some (.int 10000000000000000000000000000000000000000 t)
  g_len : Gl C "len" (.builtin "len")
  g_isi : Gl C "isinstance" (.builtin "isinstance")
  g_int : Gl C "int" (.type "int")
  g_bool : Gl C "bool" (.type "bool")
  g_list : Gl C "list" (.type "list")
  g_tuple : Gl C "tuple" (.type "tuple")
  g_range : Gl C "range" (.type "range")
  g_reversed : Gl C "reversed" (.type "reversed")
abbrev bmV : List Value := [.type "ValueError", .type "Exception", .type "BaseException", .type "object"]
/-- the two exception classes of the text that the law meets -/
structure Cl (C : Cx) (KB KR : Addr) : Prop where
  bt : OwnCls "BadTree" KB bmV "ValueError.__new__" C.mg C.h₀
  rt : OwnCls "RoadError" KR bmV "ValueError.__new__" C.mg C.h₀
  up : ∀ bm N nm q bs hdct sn sub ab col dd k0 k1 k2 k3 k5, C.h₀.get? KB = some (excClassObj nm q KB N bs bm hdct sn sub ab col dd k0 k1 k2 k3 k5 "ValueError.__new__") → bm.contains (.ref KR) = true
  gv : Gl C "ValueError" (.type "ValueError")
section
variable {C : Cx} {h : Heap} {k : ∀ b o, C.h₀.get? b = some o → h.get? b = some o} {hd : Option Value} {ok : ∀ v, hd = some v → ∃ e o vs, v = .ref e ∧ h.get? e = some o ∧ o.data = .fields vs ∧ vs[2]? = some .none}
theorem Fx.re (X : Fx C) : Fx (reC C h k hd ok) :=
  ⟨X.p_is_whole.re, X.p_is_place.re, X.p_is_road.re, X.p_checked.re, X.p_need_place.re, X.p_ends_right.re, X.p_back.re, X.p_is_tree.re, X.p_way.re, X.f_cell.re, X.f_mixed.re, X.f_road.re, X.f_many.re, X.f_built.re, X.f_way.re, X.f_ways.re, X.f_refused.re, X.f_law.re, X.c_MOST_PLACES, X.c_MOST_ROADS, X.c_TOO_DEAR, X.g_len.re, X.g_isi.re, X.g_int.re, X.g_bool.re, X.g_list.re, X.g_tuple.re, X.g_range.re, X.g_reversed.re⟩
theorem Cl.re {KB KR : Addr} (c : Cl C KB KR) : Cl (reC C h k hd ok) KB KR := by
  refine ⟨c.bt.keeps k, c.rt.keeps k, fun bm N nm q bs hdct sn sub ab col dd k0 k1 k2 k3 k5 e => ?_, c.gv.re⟩
  obtain ⟨tl, N', nm', q', bs', hdct', sn', sub', ab', col', dd', k0', k1', k2', k3', k5', mN, hC, _⟩ := c.bt.obj
  exact c.up bm N nm q bs hdct sn sub ab col dd k0 k1 k2 k3 k5 (hC.trans ((k _ _ hC).symm.trans e))
end
local macro_rules | `(tactic| wtm_at "at") => `(tactic| first | with_reducible exact At.here | (apply At.there; wtm_at "at"))
local macro_rules | `(tactic| wtm_at "put") => `(tactic| first | with_reducible exact Put.here | (apply Put.there; wtm_at "put"))
local macro_rules | `(tactic| wtm_at "mem") => `(tactic| first | with_reducible exact List.mem_cons_self | (apply List.mem_cons_of_mem; wtm_at "mem") | assumption)
local macro_rules | `(tactic| wtm_at "upd") => `(tactic| first | with_reducible exact Upd.here | (apply Upd.there; wtm_at "upd"))
local macro_rules | `(tactic| wtm_at "bind") => `(tactic| (intro vs pm cd doc h; rcases vs with _ | ⟨a, _ | ⟨b, _ | ⟨c, _ | ⟨d, _ | ⟨e, _ | ⟨f, r⟩⟩⟩⟩⟩⟩ <;> first | rfl | (simp at h)))

local macro_rules | `(tactic| wtm_at "isiE") => `(tactic| first
  | ((with_reducible refine WE.isi (T := "int") ?hx ?g ?ht ?gt ?_ ?he); (case gt => with_reducible exact Fx.g_int (by assumption)); (case hx => wtm_at "mem"); (case g => exact Fx.g_isi (by assumption)); (case ht => wtm_at "mem"); (case he => with_unfolding_all rfl))
  | ((with_reducible refine WE.isi (T := "bool") ?hx ?g ?ht ?gt ?_ ?he); (case gt => with_reducible exact Fx.g_bool (by assumption)); (case hx => wtm_at "mem"); (case g => exact Fx.g_isi (by assumption)); (case ht => wtm_at "mem"); (case he => with_unfolding_all rfl))
  | ((with_reducible refine WE.isi (T := "list") ?hx ?g ?ht ?gt ?_ ?he); (case gt => with_reducible exact Fx.g_list (by assumption)); (case hx => wtm_at "mem"); (case g => exact Fx.g_isi (by assumption)); (case ht => wtm_at "mem"); (case he => with_unfolding_all rfl))
  | ((with_reducible refine WE.isi (T := "tuple") ?hx ?g ?ht ?gt ?_ ?he); (case gt => with_reducible exact Fx.g_tuple (by assumption)); (case hx => wtm_at "mem"); (case g => exact Fx.g_isi (by assumption)); (case ht => wtm_at "mem"); (case he => with_unfolding_all rfl)))
local macro_rules | `(tactic| wtm_at "isi") => `(tactic| first
  | wtm_at "isiE" | ((with_reducible refine WT.plain ?hh ?he); (case' hh => wtm_at "isiE"); (case he => with_unfolding_all rfl)))
local macro_rules | `(tactic| wtm_at "ex") => `(tactic| first
  | with_reducible refine ⟨_, by wtm_at "put", ?_⟩
  | with_reducible refine ⟨_, rfl, ?_⟩
  | with_reducible refine ⟨_, Isi.ii, ?_⟩ | with_reducible refine ⟨_, Isi.ib, ?_⟩ | with_reducible refine ⟨_, Isi.bi, ?_⟩ | with_reducible refine ⟨_, Isi.bb, ?_⟩
  | with_reducible refine ⟨_, Isi.tt, ?_⟩ | with_reducible refine ⟨_, Isi.ll (by wtm_at "mem"), ?_⟩
  | ((with_reducible refine ⟨_, Len.listM (by wtm_at "mem"), ?h, ?_⟩); (case h => omega))
  | ((with_reducible refine ⟨_, Len.list (by wtm_at "mem"), ?h, ?_⟩); (case h => (simp only [List.length_cons, List.length_nil]; omega)))
  | ((with_reducible refine ⟨_, Len.list (by wtm_at "mem"), ?h, ?_⟩); (case h => omega))
  | ((with_reducible refine ⟨_, Len.tup, ?h, ?_⟩); (case h => (simp only [List.length_cons, List.length_nil, List.length_map]; omega))))
local macro_rules | `(tactic| wtm_at "we") => `(tactic| first
  | ((with_reducible apply WE.var); wtm_at "at")
  | with_reducible refine WE.int ?_ | with_reducible refine WE.bin ?_
  | ((with_reducible refine WE.cmp ?_ ?hm); (case hm => with_unfolding_all rfl)) | with_reducible refine WE.tuple ?_ | with_reducible refine WE.list ?_
  | ((with_reducible refine WE.slice ?_ ?ht); (case ht => (intro _ _; with_unfolding_all rfl))) | with_reducible refine WE.sub ?_
  | wtm_at "isiE"
  | ((with_reducible refine WE.len ?hx ?g ?_ ?he); (case hx => wtm_at "mem"); (case g => exact Fx.g_len (by assumption)); (case he => with_unfolding_all rfl))
  | with_reducible refine WE.bo1 ?_ | with_reducible refine WE.and ?_ | with_reducible refine WE.or ?_
  | with_reducible refine WE.bool ?_ | with_reducible refine WE.none ?_ | with_reducible refine WE.str ?_ | ((with_reducible refine WE.cmp2 ?_ ?hm); (case hm => with_unfolding_all rfl)) | with_reducible refine WE.not ?_)
local macro_rules | `(tactic| wtm_at "w2") => `(tactic| first
  | with_reducible refine W2.add ?_ | with_reducible refine W2.sub ?_
  | ((with_reducible refine W2.modS ?hb ?_); (case hb => omega))
  | ((with_reducible refine W2.divS ?hb ?hp ?_); (case hb => omega); (case hp => omega))
  | ((with_reducible refine W2.mulR ?h1 ?h2 ?_); (case h1 => omega); (case h2 => omega))
  | ((with_reducible refine W2.mulL ?h1 ?h2 ?_); (case h1 => omega); (case h2 => omega))
  | with_reducible refine W2.lt ?_ | with_reducible refine W2.le ?_ | with_reducible refine W2.gt ?_ | with_reducible refine W2.ge ?_ | with_reducible refine W2.eq ?_ | with_reducible refine W2.ne ?_
  | (with_reducible refine W2.itemT (by with_unfolding_all decide) (by with_unfolding_all rfl) (by with_unfolding_all decide) ?_))
local macro_rules | `(tactic| wtm_at "wt") => `(tactic| first
  | ((with_reducible refine WT.cmp ?_ ?hm); (case hm => with_unfolding_all rfl)) | ((with_reducible refine WT.cmp2 ?_ ?hm); (case hm => with_unfolding_all rfl)) | with_reducible refine WT.not ?_ | with_reducible refine WT.and0 ?_ | with_reducible refine WT.or0 ?_ | with_reducible refine WT.and ?_ | with_reducible refine WT.or ?_
  | ((with_reducible refine WT.plain ?hh ?he); (case' hh => wtm_at "isiE"); (case he => with_unfolding_all rfl)))
local macro_rules | `(tactic| wtm_at "if") => `(tactic| first
  | with_reducible refine if_t ?_ | with_reducible refine if_f ?_ | with_reducible refine if_nt ?_ | with_reducible refine if_nf ?_)
local macro_rules | `(tactic| wtm_at "ws") => `(tactic| first
  | with_reducible refine WS.ret ?_ | with_reducible refine WS.if ?_ | ((with_reducible refine WS.assign ?_ ?hs); (case hs => with_unfolding_all rfl)) | ((with_reducible refine WS.expr ?_ ?hs); (case hs => with_unfolding_all rfl)) | with_reducible refine WS.pass ?_)
local macro_rules | `(tactic| wtm_at "e") => `(tactic| first
  | ((with_reducible refine (?_ : WE _ _ _ _ _ _ _ _)); wtm_at "we")
  | ((with_reducible refine (?_ : WEs _ _ _ _ _ _ _ _)); (first | with_reducible refine WEs.nil ?_ | ((with_reducible refine WEs.cons ?_ ?he); (case he => with_unfolding_all rfl))))
  | ((with_reducible refine (?_ : W2 _ _ _ _ _ _ _)); wtm_at "w2")
  | ((with_reducible refine (?_ : WT _ _ _ _ _ _ _ _)); wtm_at "wt")
  | ((with_reducible refine (?_ : WS _ _ _ _ _ _ _ _)); wtm_at "ws")
  | wtm_at "if"
  | with_reducible refine WB.bool ?_
  | with_reducible refine WSs.nil ?_
  | with_reducible refine seq_ret ?_ | with_reducible refine loop_next ?_ | with_reducible refine loop_ret ?_ | with_reducible refine ret_of ?_
  | with_reducible refine WO.none ?_ | with_reducible refine WO.some ?_
  | wtm_at "ex"
  | ((with_reducible refine ⟨Nat.le_of_ble_eq_true ?h, ?_⟩); (case h => rfl))
  | with_reducible refine And.intro (Eq.refl MV.none) ?_
  | ((with_reducible refine And.intro ?h ?_); (case h => omega)))
local macro_rules | `(tactic| wtm_at "s") => `(tactic| first | wtm_at "e" | with_reducible refine WSs.cons ?_ | with_reducible refine seq_next ?_)

section
variable {C : Cx} {A : Around} {H : Hp} {n : Nat} {Q : MV → Hp → Prop}
theorem get_map {α β : Type} {f : α → β} {l : List α} {i : Nat} {y : β} (h : (l.map f)[i]? = some y) : ∃ x, l[i]? = some x ∧ y = f x := by
  rw [List.getElem?_map, Option.map_eq_some_iff] at h
  obtain ⟨x, h1, h2⟩ := h
  exact ⟨x, h1, h2.symm⟩

/-! the guards of a net -/
theorem sp_whole (X : Fx C) (hA : AOk C A (n + 1)) {x : MV} {b1 b2 : Bool} (h1 : Isi H x "int" b1) (h2 : Isi H x "bool" b2) (q : Q (.bool (b1 && !b2)) H) : WF C A H "is_whole" [x] Q := by
  refine WF.intro X.p_is_whole hA ["thing"] [] ["isinstance", "int", "bool"] [] [("thing", some x)] (by decide +kernel) rfl (by wtm_at "bind") rfl ?_
  intro env hA' K
  refine WSs.cons ?_
  repeat wtm_at "s"
  refine ⟨b1, h1, ?_⟩
  repeat wtm_at "s"
  cases b1 with
  | true =>
    repeat wtm_at "s"
    refine ⟨b2, h2, ?_⟩
    repeat wtm_at "s"
    exact ⟨H, List.Sublist.refl _, q⟩
  | false =>
    repeat wtm_at "s"
    exact ⟨H, List.Sublist.refl _, q⟩
theorem WE.whole (X : Fx C) (hA : AOk C A (n + 1)) {env : Env} {gs : List Str} {S : Sg} {e : Expr} {p pos : Pos} (hx : Str.ofString "is_whole" ∈ gs) (h : WE C A env gs S H e fun x H' => ∃ b1 b2, Isi H' x "int" b1 ∧ Isi H' x "bool" b2 ∧ Q (.bool (b1 && !b2)) H')
    (he : starEach [e] env = [(false, eval e env)] := by with_unfolding_all rfl) : WE C A env gs S H (.Call (.Name "is_whole" p) [e] [] pos) Q := by
  refine WE.callF hx X.p_is_whole (WEs.cons (h.mono fun x H' h' => WEs.nil ?_) he) he
  obtain ⟨b1, b2, h1, h2, q⟩ := h'
  exact sp_whole X hA h1 h2 q
theorem sp_place (X : Fx C) (hA : AOk C A (n + 2)) {m k : Int} (q : Q (.bool (decide (0 ≤ k ∧ k < m))) H) : WF C A H "is_place" [.int m, .int k] Q := by
  refine WF.intro X.p_is_place hA ["many", "thing"] [] ["is_whole"] [] [("many", some (.int m)), ("thing", some (.int k))] (by decide +kernel) rfl (by wtm_at "bind") rfl ?_
  intro env hA' K
  refine WSs.cons (WS.ret (WE.and (WE.whole X hA' (by wtm_at "mem") ?_)))
  repeat wtm_at "s"
  refine ⟨true, false, .ii, .ib, ?_⟩
  refine WB.bool (if_t ?_)
  repeat wtm_at "s"
  refine if_d (fun h => ?_) (fun h => ?_)
  · repeat wtm_at "s"
    refine ⟨H, List.Sublist.refl _, ?_⟩
    have e : decide (0 ≤ k ∧ k < m) = decide (k < m) := by simp [h]
    rw [e] at q
    exact q
  · repeat wtm_at "s"
    refine ⟨H, List.Sublist.refl _, ?_⟩
    have e : decide (0 ≤ k ∧ k < m) = false := by simp [h]
    rw [e] at q
    exact q
theorem WE.place (X : Fx C) (hA : AOk C A (n + 2)) {env : Env} {gs : List Str} {S : Sg} {e e2 : Expr} {p pos : Pos} (hx : Str.ofString "is_place" ∈ gs)
    (h : WE C A env gs S H e fun x H1 => WE C A env gs S H1 e2 fun y H2 => ∃ m k, x = .int m ∧ y = .int k ∧ Q (.bool (decide (0 ≤ k ∧ k < m))) H2)
    (he : starEach [e, e2] env = [(false, eval e env), (false, eval e2 env)] := by with_unfolding_all rfl) (he2 : starEach [e2] env = [(false, eval e2 env)] := by with_unfolding_all rfl) : WE C A env gs S H (.Call (.Name "is_place" p) [e, e2] [] pos) Q := by
  refine WE.callF hx X.p_is_place (WEs.cons (h.mono fun x H1 h1 => WEs.cons (h1.mono fun y H2 h2 => WEs.nil ?_) he2) (by rw [he, he2])) (by rw [he, he2])
  obtain ⟨m, k, rfl, rfl, q⟩ := h2
  exact sp_place X hA q
/-- a road of a net of m places -/
def RdOk (m : Int) (r : Rd) : Prop := 0 ≤ r.1 ∧ r.1 < m ∧ 0 ≤ r.2.1 ∧ r.2.1 < m ∧ r.1 ≠ r.2.1 ∧ 0 ≤ r.2.2 ∧ r.2.2 < 10 ^ 40
theorem sp_is_road (X : Fx C) (hA : AOk C A (n + 3)) {m : Int} {r : Rd} (hr : RdOk m r) (q : Q (.bool true) H) : WF C A H "is_road" [.int m, rdV r] Q := by
  obtain ⟨h1, h2, h3, h4, h5, h6, h7⟩ := hr
  refine WF.intro X.p_is_road hA ["many", "road"] [] ["isinstance", "tuple", "len", "is_place", "is_whole", "TOO_DEAR"] [] [("many", some (.int m)), ("road", some (rdV r))] (by decide +kernel) rfl (by wtm_at "bind") rfl ?_
  intro env hA' K
  refine WSs.cons ?_
  repeat wtm_at "s"
  refine if_ne (fun h => absurd rfl h) (fun _ => ?_)
  repeat wtm_at "s"
  refine WT.plain (WE.place X hA' (by wtm_at "mem") ?_)
  repeat wtm_at "s"
  refine ⟨_, _, rfl, rfl, ?_⟩
  repeat wtm_at "s"
  refine if_nd (fun h => absurd ⟨h1, h2⟩ h) (fun _ => ?_)
  repeat wtm_at "s"
  refine WT.plain (WE.place X hA' (by wtm_at "mem") ?_)
  repeat wtm_at "s"
  refine ⟨_, _, rfl, rfl, ?_⟩
  repeat wtm_at "s"
  refine if_nd (fun h => absurd ⟨h3, h4⟩ h) (fun _ => ?_)
  repeat wtm_at "s"
  refine if_eq (fun h => absurd h h5) (fun _ => ?_)
  repeat wtm_at "s"
  refine WE.whole X (hA'.le (by omega : n + 1 ≤ n + 2)) (by wtm_at "mem") ?_
  repeat wtm_at "s"
  refine ⟨true, false, .ii, .ib, ?_⟩
  refine WB.bool (if_t ?_)
  repeat wtm_at "s"
  refine if_d (fun _ => ?_) (fun h => absurd h6 h)
  repeat wtm_at "s"
  refine WE.gint (by wtm_at "mem") (by decide +kernel) X.c_TOO_DEAR ?_
  repeat wtm_at "s"
  refine ⟨H, List.Sublist.refl _, ?_⟩
  have e : decide (r.2.2 < 10000000000000000000000000000000000000000) = true := decide_eq_true (by omega)
  rw [e]; exact q
theorem sp_checked (X : Fx C) (hA : AOk C A (n + 4)) {m : Int} {a : Addr} {R : List Rd} (hm : 1 ≤ m ∧ m ≤ 12) (hR : R.length ≤ 60) (hok : ∀ r ∈ R, RdOk m r) (hmem : (a, MO.list (R.map rdV)) ∈ H) (q : Q .none H) : WF C A H "checked" [.int m, .ref a] Q := by
  refine WF.intro X.p_checked hA ["many", "roads"] ["road"] ["is_whole", "MOST_PLACES", "isinstance", "list", "len", "MOST_ROADS", "is_road"] [] [("many", some (.int m)), ("roads", some (.ref a)), ("road", none)] (by decide +kernel) rfl (by wtm_at "bind") rfl ?_
  intro env hA' K
  refine WSs.cons ?_
  repeat wtm_at "s"
  refine WT.plain (WE.whole X (hA'.le (by omega : n + 1 ≤ n + 3)) (by wtm_at "mem") ?_)
  repeat wtm_at "s"
  refine ⟨true, false, .ii, .ib, ?_⟩
  refine WB.bool (if_nt ?_)
  repeat wtm_at "s"
  refine if_d (fun h => absurd h (by omega)) (fun _ => ?_)
  repeat wtm_at "s"
  refine WE.gint (by wtm_at "mem") (by decide +kernel) X.c_MOST_PLACES ?_
  repeat wtm_at "s"
  refine if_d (fun h => absurd h (by omega)) (fun _ => ?_)
  repeat wtm_at "s"
  refine WE.gint (by wtm_at "mem") (by decide +kernel) X.c_MOST_ROADS ?_
  repeat wtm_at "s"
  refine if_d (fun h => absurd h (by omega)) (fun _ => ?_)
  repeat wtm_at "s"
  refine WS.for (WI.of ?_)
  repeat wtm_at "e"
  refine ItOf.list hA' (by wtm_at "mem") ?_
  refine for_intro (fun (i : Nat) (S : Sg) (H' : Hp) => ∃ o, S = ([("many", some (.int m)), ("roads", some (.ref a)), ("road", o)] : Sg) ∧ H' = H) ⟨none, rfl, rfl⟩ ?_ ?_ ?_
  · rintro i S H' ⟨o, rfl, rfl⟩
    exact hmem
  · rintro i x S H' hx ⟨o, rfl, rfl⟩
    obtain ⟨r, hr, rfl⟩ := get_map hx
    refine WA.name (by wtm_at "put") ?_
    repeat wtm_at "s"
    refine WT.plain (WE.callF (by wtm_at "mem") X.p_is_road ?_)
    repeat wtm_at "s"
    refine sp_is_road X hA' (hok r (List.mem_of_getElem? hr)) ?_
    repeat wtm_at "s"
    rfl
  · rintro S H' ⟨o, rfl, rfl⟩
    repeat wtm_at "s"
    exact ⟨_, List.Sublist.refl _, q⟩
theorem sp_need (X : Fx C) (hA : AOk C A (n + 3)) {m k : Int} (h0 : 0 ≤ k) (h1 : k < m) (q : Q .none H) : WF C A H "need_place" [.int m, .int k] Q := by
  refine WF.intro X.p_need_place hA ["many", "place"] [] ["is_place"] [] [("many", some (.int m)), ("place", some (.int k))] (by decide +kernel) rfl (by wtm_at "bind") rfl ?_
  intro env hA' K
  refine WSs.cons ?_
  repeat wtm_at "s"
  refine WT.plain (WE.place X hA' (by wtm_at "mem") ?_)
  repeat wtm_at "s"
  refine ⟨_, _, rfl, rfl, ?_⟩
  repeat wtm_at "s"
  refine if_nd (fun h => absurd ⟨h0, h1⟩ h) (fun _ => ?_)
  repeat wtm_at "s"
  exact ⟨_, List.Sublist.refl _, q⟩
end
set_option maxRecDepth 100000
set_option maxHeartbeats 4000000
open PySem PySem.W PySem.Calls PyProof.Rows
section
variable {C : Cx} {A : Around} {H : Hp} {n : Nat} {Q : MV → Hp → Prop}
def cellF (ns : List Int) (k : Int) : Int := if k < (ns.length : Int) then ns.getD k.toNat 0 else 0

theorem sp_cell (X : Fx C) (hA : AOk C A (n + 1)) {ns : List Int} {k : Int} (hk : 0 ≤ k) (hl : ns.length ≤ 63) (q : Q (.int (cellF ns k)) H) : WF C A H "_law_cell_at" [.fl ns, .int k] Q := by
  refine WF.intro X.f_cell hA ["_law_script", "_law_k"] [] ["len"] [] [("_law_script", some (.fl ns)), ("_law_k", some (.int k))] (by decide +kernel) rfl (by wtm_at "bind") rfl ?_
  intro env hA' K
  refine WSs.cons (WS.if (WT.cmp ?_))
  refine WE.var (by wtm_at "at") ?_
  refine WE.callB (by wtm_at "mem") X.g_len ?_
  refine WEs.cons (WE.var (by wtm_at "at") (WEs.nil ?_))
  refine WC.lenF (by omega) ?_
  refine W2.lt ?_
  refine ⟨_, rfl, ?_⟩
  by_cases h : k < (ns.length : Int)
  · rw [if_pos (by simpa using h)]
    refine WSs.cons (WS.ret ?_)
    refine WE.sub (WE.var (by wtm_at "at") (WE.var (by wtm_at "at") ?_))
    refine W2.itemF (x := ns.getD k.toNat 0) hk ?_ (by omega) ?_
    · have : k.toNat < ns.length := by omega
      simp [this]
    · refine ⟨H, List.Sublist.refl _, ?_⟩
      simp only [cellF, if_pos h] at q
      exact q
  · rw [if_neg (by simpa using h)]
    refine WSs.nil ?_
    refine WSs.cons (WS.ret (WE.int ?_))
    refine ⟨H, List.Sublist.refl _, ?_⟩
    simp only [cellF, if_neg h] at q
    exact q

theorem WE.cellC (X : Fx C) (hA : AOk C A (n + 1)) {env : Env} {gs : List Str} {S : Sg} {ns : List Int} {k : Int} {kk : Nat} {p p1 p2 pos : Pos} (hl : ns.length ≤ 63) (hx : Str.ofString "_law_cell_at" ∈ gs) (a : At S "_law_script" (.fl ns)) (hk : 0 ≤ k) (q : Q (.int (cellF ns k)) H) :
    WE C A env gs S H (.Call (.Name "_law_cell_at" p) [.Name "_law_script" p1, .Constant (.int k) kk p2] [] pos) Q :=
  WE.callF hx X.f_cell (WEs.cons (WE.var a (WEs.cons (WE.int (WEs.nil (sp_cell X hA hk hl q))))))

def mixedF (c k : Int) : Int := (c * 16807 + k * k * 7919 + k * 48271 + 11) % 2147483647
theorem sp_mixed (X : Fx C) (hA : AOk C A (n + 1)) {c k : Int} (hk : 0 ≤ k) (hk' : k < 1000) (q : Q (.int (mixedF c k)) H) : WF C A H "_law_mixed" [.int c, .int k] Q := by
  refine WF.intro X.f_mixed hA ["_law_cell", "_law_k"] [] [] [] [("_law_cell", some (.int c)), ("_law_k", some (.int k))] (by decide +kernel) rfl (by wtm_at "bind") rfl ?_
  intro env hA' K
  have hkk : k * k < 1000000 := by
    have : k * k ≤ 999 * 999 := Int.mul_le_mul (by omega) (by omega) (by omega) (by omega)
    omega
  have hkk0 : 0 ≤ k * k := Int.mul_nonneg hk hk
  refine WSs.cons ?_
  repeat wtm_at "s"
  exact ⟨H, List.Sublist.refl _, q⟩

theorem mixed_range (c k : Int) : 0 ≤ mixedF c k ∧ mixedF c k < 2147483647 := by
  unfold mixedF; omega
theorem mixed_bd (c k : Int) : Bd (mixedF c k) := by
  have := mixed_range c k
  exact Bd.small (by omega) (by omega)
def roadF (c m : Int) : Rd := (c % m, (c % m + 1 + c / m % (m - 1)) % m, c / m / m % 10 ^ 40)
theorem sp_road (X : Fx C) (hA : AOk C A (n + 1)) {c m : Int} (hm : 2 ≤ m) (hm' : m ≤ 12) (q : Q (rdV (roadF c m)) H) : WF C A H "_law_road" [.int c, .int m] Q := by
  refine WF.intro X.f_road hA ["_law_cell", "_law_many_here"] ["_law_start", "_law_end"] [] [] [("_law_cell", some (.int c)), ("_law_many_here", some (.int m)), ("_law_start", none), ("_law_end", none)] (by decide +kernel) rfl (by wtm_at "bind") rfl ?_
  intro env hA' K
  refine WSs.cons ?_
  repeat wtm_at "s"
  refine W2.powL (r := 10 ^ 40) (by omega) (by decide) (by rfl) ?_
  repeat wtm_at "s"
  exact ⟨H, List.Sublist.refl _, q⟩
theorem wrap_at {m s d : Int} (hs : 0 ≤ s) (hs' : s < m) (hd : 0 ≤ d) (hd' : d < m) : (s + d) % m = if s + d < m then s + d else s + d - m := by
  split
  · exact Int.emod_eq_of_lt (by omega) (by omega)
  · rw [← Int.sub_emod_right]
    exact Int.emod_eq_of_lt (by omega) (by omega)
theorem wrap_ne {m s a b : Int} (hs : 0 ≤ s) (hs' : s < m) (ha : 0 ≤ a) (hab : a < b) (hb : b < m) : (s + a) % m ≠ (s + b) % m := by
  rw [wrap_at hs hs' ha (by omega), wrap_at hs hs' (by omega) hb]
  split <;> split <;> omega
theorem road_at_ok {m s d c : Int} (hs : 0 ≤ s) (hs' : s < m) (hd : 0 < d) (hd' : d < m) (hc : 0 ≤ c ∧ c < 10 ^ 40) : RdOk m (s, (s + d) % m, c) := by
  have e := wrap_at hs hs' (by omega : 0 ≤ d) hd'
  refine ⟨hs, hs', Int.emod_nonneg _ (by omega), Int.emod_lt_of_pos _ (by omega), ?_, hc.1, hc.2⟩
  show s ≠ (s + d) % m
  rw [e]
  split <;> omega
theorem tree_rd_ok {m s a b c : Int} (hs : 0 ≤ s) (hs' : s < m) (ha : 0 ≤ a) (hab : a < b) (hb : b < m) (hc : 0 ≤ c ∧ c < 10 ^ 40) : RdOk m ((s + a) % m, (s + b) % m, c) :=
  ⟨Int.emod_nonneg _ (by omega), Int.emod_lt_of_pos _ (by omega), Int.emod_nonneg _ (by omega), Int.emod_lt_of_pos _ (by omega), wrap_ne hs hs' ha hab hb, hc.1, hc.2⟩
theorem slice_rot {α : Type} {l : List α} {k : Int} {p : α → Prop} (h : ∀ x ∈ l, p x) : ∀ x ∈ sliceL (some k) none l ++ sliceL none (some k) l, p x := by
  intro x hx
  rcases List.mem_append.mp hx with h1 | h1
  · exact h x (List.mem_of_mem_drop h1)
  · exact h x (List.mem_of_mem_take h1)
theorem slice_rot_length {α : Type} (l : List α) (k : Int) : (sliceL (some k) none l ++ sliceL none (some k) l).length = l.length := by
  simp [sliceL]; omega
theorem roadF_ok (c : Int) {m : Int} (hm : 2 ≤ m) : RdOk m (roadF c m) := by
  have h1 := Int.emod_nonneg c (by omega : m ≠ 0)
  have h2 := Int.emod_lt_of_pos c (by omega : 0 < m)
  have h3 := Int.emod_nonneg (c / m) (by omega : m - 1 ≠ 0)
  have h4 := Int.emod_lt_of_pos (c / m) (by omega : 0 < m - 1)
  have := road_at_ok h1 h2 (d := 1 + c / m % (m - 1)) (c := c / m / m % 10 ^ 40) (by omega) (by omega) (by omega)
  rw [← Int.add_assoc] at this
  exact this
def manyF (c : Int) : Int := if c / 8 % 5 = 1 then 1 + c / 40 % 12 else 1 + c % 8
theorem many_range (c : Int) : 1 ≤ manyF c ∧ manyF c ≤ 12 := by unfold manyF; split <;> omega
theorem sp_many (X : Fx C) (hA : AOk C A (n + 1)) {c : Int} (q : Q (.int (manyF c)) H) : WF C A H "_law_many" [.int c] Q := by
  refine WF.intro X.f_many hA ["_law_cell"] [] [] [] [("_law_cell", some (.int c))] (by decide +kernel) rfl (by wtm_at "bind") rfl ?_
  intro env hA' K
  refine WSs.cons ?_
  repeat wtm_at "s"
  refine if_eq (fun h => ?_) (fun h => ?_)
  · repeat wtm_at "s"
    refine ⟨H, List.Sublist.refl _, ?_⟩
    simp only [manyF, if_pos h] at q
    exact q
  · repeat wtm_at "s"
    refine ⟨H, List.Sublist.refl _, ?_⟩
    simp only [manyF, if_neg h] at q
    exact q

/-- a tree as it is built: None or a number at each place -/
def Plain (x : MV) : Prop := x = .none ∨ ∃ i, x = .int i
abbrev gsB : List Str := ["range", "_law_mixed", "_law_cell_at", "len"]
abbrev sgB (ns : List Int) (m root : Int) (rows k number tree more cut roads : Option MV) : Sg :=
  [("_law_script", some (.fl ns)), ("_law_many_here", some (.int m)), ("_law_root", some (.int root)), ("_law_rows", rows), ("_law_k", k), ("_law_number", number), ("_law_tree", tree), ("_law_more", more), ("_law_cut", cut), ("_law_roads", roads)]
def BuiltQ (m : Int) (H : Hp) (Q : MV → Hp → Prop) : Prop := ∀ (a t : Addr) (R : List Rd) (T : List MV) (k : Int), R.length ≤ 60 → (∀ r ∈ R, RdOk m r) → (2 < m → 0 < R.length) → (T.length : Int) = m → (∀ x ∈ T, Plain x) → Q (.tup [.ref a, .ref t, .int k]) ((a, .list (R.map rdV)) :: (t, .list T) :: H)

theorem built_c (X : Fx C) {env : Env} (hA' : AOk C (A.deeper env) (n + 2)) {ns : List Int} {m root : Int} (hl : ns.length ≤ 63) {D E M : Addr} {R P : List Rd} {T : List MV} {o1 o2 : Option MV} (hm : 1 ≤ m ∧ m ≤ 12) (hR : R.length ≤ 20) (hP : P.length ≤ 30) (hRo : ∀ r ∈ R, RdOk m r) (hPo : ∀ r ∈ P, RdOk m r) (hT : (T.length : Int) = m) (hTp : ∀ x ∈ T, Plain x) (h2 : 2 < m → 0 < P.length) (q : BuiltQ m H Q) :
    WSs C (A.deeper env) env gsB (sgB ns m root (some (.ref D)) o1 o2 (some (.ref E)) (some (.ref M)) none none) ((M, .list (P.map rdV)) :: (E, .list T) :: (D, .list (R.map rdV)) :: H) ((dd 24).body.drop 6) (Ret Q) := by
  have hC : AOk C (A.deeper env) (n + 1) := hA'.le (by omega)
  refine WSs.cons ?_
  repeat wtm_at "s"
  refine WE.cellC X hC hl (by wtm_at "mem") (by wtm_at "at") (by decide) ?_
  repeat wtm_at "s"
  have hk0 := Int.emod_nonneg (cellF ns 3) (by omega : (R.length : Int) + (P.length : Int) + 1 ≠ 0)
  generalize cellF ns 3 % ((R.length : Int) + (P.length : Int) + 1) = cut at hk0
  refine WS.for (WI.of ?_)
  refine WE.callT (by wtm_at "mem") X.g_range ?_
  repeat wtm_at "e"
  refine WC.range1 ?_
  refine ItOf.range hA' (by decide) (by decide) (by omega) (by omega) ?_
  refine for_intro (fun i S H' => ∃ (o1 : Option MV) (T : List MV), S = sgB ns m root (some (.ref D)) o1 o2 (some (.ref E)) (some (.ref M)) (some (.int cut)) none ∧ H' = (M, .list (P.map rdV)) :: (E, .list T) :: (D, .list (R.map rdV)) :: H ∧ (T.length : Int) = m ∧ ∀ x ∈ T, Plain x) ⟨_, T, rfl, rfl, hT, hTp⟩ (fun _ _ _ _ => trivial) ?_ ?_
  · rintro i x S H' hx ⟨o1, T, rfl, rfl, hT, hTp⟩
    obtain ⟨rfl, hlt⟩ := rangeL_get hx
    have hi : i < R.length := by omega
    obtain ⟨r, hr⟩ : ∃ r, R[i]? = some r := ⟨R[i], by simp [hi]⟩
    obtain ⟨g1, g2, g3, g4, _⟩ := hRo r (List.mem_of_getElem? hr)
    refine WA.name (by wtm_at "put") ?_
    refine WSs.cons (WS.setItem ?_)
    repeat wtm_at "s"
    refine W2.itemM (l := R) (x := r) (by wtm_at "mem") (by omega) (by rw [show (0 + (i : Int)).toNat = i by omega]; exact hr) (by omega) ?_
    repeat wtm_at "s"
    refine W3.setL (xs := T) (by wtm_at "mem") g3 (by omega) (by omega) (by wtm_at "upd") ?_
    repeat wtm_at "s"
    refine ⟨_, _, rfl, rfl, by simpa using hT, fun y hy => ?_⟩
    rcases List.mem_or_eq_of_mem_set hy with h | rfl
    · exact hTp y h
    · exact .inr ⟨_, rfl⟩
  · rintro S H' ⟨o1, T, rfl, rfl, hT, hTp⟩
    repeat wtm_at "s"
    refine W2.addL (xs := R.map rdV) (ys := P.map rdV) (by wtm_at "mem") (by wtm_at "mem") (by simp [sizeLine]; omega) fun D3 hD3 => ?_
    rw [← List.map_append]
    have hL : (R ++ P).length ≤ 60 := by simp; omega
    have hL2 : 2 < m → 0 < (R ++ P).length := fun h => by have := h2 h; simp; omega
    have hO : ∀ r ∈ R ++ P, RdOk m r := fun r hr' => by
      rcases List.mem_append.mp hr' with h1 | h1
      · exact hRo r h1
      · exact hPo r h1
    generalize R ++ P = L at hL hO hL2
    repeat wtm_at "s"
    refine ⟨L.map rdV, .inl ⟨D3, rfl, by wtm_at "mem"⟩, by simp [sizeLine]; omega, fun D4 hD4 => ?_⟩
    repeat wtm_at "s"
    refine ⟨L.map rdV, .inl ⟨D3, rfl, by wtm_at "mem"⟩, by simp [sizeLine]; omega, fun D5 hD5 => ?_⟩
    rw [sliceL_map, sliceL_map]
    refine W2.addL (xs := (sliceL (some cut) none L).map rdV) (ys := (sliceL none (some cut) L).map rdV) (by wtm_at "mem") (by wtm_at "mem") (by simp [sizeLine, sliceL]; omega) fun D6 hD6 => ?_
    rw [← List.map_append]
    repeat wtm_at "s"
    exact ⟨_, .cons_cons _ (.cons _ (.cons _ (.cons _ (.cons _ (.cons_cons _ (.cons _ (.refl _))))))), q D6 E _ T _ (by rw [slice_rot_length]; exact hL) (slice_rot hO) (by rw [slice_rot_length]; exact hL2) hT hTp⟩

theorem built_b (X : Fx C) {env : Env} (hA' : AOk C (A.deeper env) (n + 2)) {ns : List Int} {m root : Int} (hl : ns.length ≤ 63) {D E M : Addr} {R P : List Rd} {T : List MV} {o1 o2 : Option MV} (hm : 1 ≤ m ∧ m ≤ 12) (hroot : 0 ≤ root ∧ root < m) (hR : R.length ≤ 20) (hP : P.length ≤ 29) (hRo : ∀ r ∈ R, RdOk m r) (hPo : ∀ r ∈ P, RdOk m r) (hT : (T.length : Int) = m) (hTp : ∀ x ∈ T, Plain x) (q : BuiltQ m H Q) :
    WSs C (A.deeper env) env gsB (sgB ns m root (some (.ref D)) o1 o2 (some (.ref E)) (some (.ref M)) none none) ((M, .list (P.map rdV)) :: (E, .list T) :: (D, .list (R.map rdV)) :: H) ((dd 24).body.drop 5) (Ret Q) := by
  refine WSs.cons ?_
  repeat wtm_at "e"
  refine if_d (fun h => ?_) (fun h => ?_)
  · refine WSs.cons ?_
    repeat wtm_at "e"
    refine WE.append ?_
    repeat wtm_at "e"
    refine ⟨M, _, rfl, by wtm_at "mem", ?_⟩
    repeat wtm_at "e"
    refine ⟨_, _, by wtm_at "mem", by wtm_at "upd", by simp [sizeLine]; omega, rfl, ?_⟩
    refine seq_next (WSs.nil (seq_next ?_))
    have e : P.map rdV ++ [MV.tup [.int ((root + m - 1) % m), .int ((root + 1) % m), .int 1]] = (P ++ [((root + m - 1) % m, (root + 1) % m, 1)]).map rdV := by simp
    rw [e]
    refine built_c X hA' hl hm hR (by simp; omega) hRo (fun r hr => ?_) hT hTp (fun _ => by simp) q
    rcases List.mem_append.mp hr with h1 | h1
    · exact hPo r h1
    · rw [List.mem_singleton.mp h1]
      have h0 : RdOk m ((root + 1) % m, (root + (m - 1)) % m, 1) := tree_rd_ok hroot.1 hroot.2 (by omega) (by omega) (by omega) (by omega)
      obtain ⟨g1, g2, g3, g4, g5, g6, g7⟩ := h0
      rw [← Int.add_sub_assoc] at g3 g4 g5
      exact ⟨g3, g4, g1, g2, fun e => g5 e.symm, g6, g7⟩
  · exact WSs.nil (seq_next (built_c X hA' hl hm hR (by omega) hRo hPo hT hTp (fun h' => absurd h' h) q))

theorem sp_built (X : Fx C) (hA : AOk C A (n + 3)) {ns : List Int} {m root : Int} (hl : ns.length ≤ 63) (hb : ∀ x ∈ ns, Bd x) (hm : 1 ≤ m ∧ m ≤ 12) (hroot : 0 ≤ root ∧ root < m) (q : BuiltQ m H Q) : WF C A H "_law_built" [.fl ns, .int m, .int root] Q := by
  refine WF.intro X.f_built hA ["_law_script", "_law_many_here", "_law_root"] ["_law_rows", "_law_k", "_law_number", "_law_tree", "_law_more", "_law_cut", "_law_roads"] gsB ["_law_many_here"] (sgB ns m root none none none none none none none) (by decide +kernel) rfl (by wtm_at "bind") rfl ?_
  intro env hA' K
  have hC : AOk C (A.deeper env) (n + 1) := hA'.le (by omega)
  refine WSs.cons ?_
  repeat wtm_at "s"
  intro D hD
  repeat wtm_at "s"
  refine WS.for (WI.of ?_)
  refine WE.callT (by wtm_at "mem") X.g_range ?_
  repeat wtm_at "e"
  refine WC.range2 ?_
  refine ItOf.range hA' (by decide) (by decide) (by omega) (by omega) ?_
  refine for_intro (fun i S H' => ∃ (R : List Rd) (o1 o2 : Option MV), S = sgB ns m root (some (.ref D)) o1 o2 none none none none ∧ H' = (D, .list (R.map rdV)) :: H ∧ R.length = i ∧ ∀ r ∈ R, RdOk m r) ⟨[], none, none, rfl, rfl, rfl, by simp⟩ (fun _ _ _ _ => trivial) ?_ ?_
  · rintro i x S H' hx ⟨R, o1, o2, rfl, rfl, hRl, hRo⟩
    obtain ⟨rfl, hlt⟩ := rangeL_get hx
    refine WA.name (by wtm_at "put") ?_
    repeat wtm_at "s"
    refine WE.callF (by wtm_at "mem") X.f_mixed ?_
    refine WEs.cons (WE.cellC X hC hl (by wtm_at "mem") (by wtm_at "at") (by decide) ?_)
    repeat wtm_at "s"
    refine sp_mixed X hC (by omega) (by omega) ?_
    have mr := mixed_range (cellF ns 2) (1 + (i : Int))
    have mb := mixed_bd (cellF ns 2) (1 + (i : Int))
    generalize mixedF (cellF ns 2) (1 + (i : Int)) = num at mr mb ⊢
    repeat wtm_at "s"
    refine WE.cellC X hC hl (by wtm_at "mem") (by wtm_at "at") (by decide) ?_
    repeat wtm_at "s"
    refine if_eq (fun h => ?g1) (fun h => ?g2)
    case' g1 =>
      repeat wtm_at "s"
      have mr : 0 ≤ 1 + (i : Int) - 1 ∧ 1 + (i : Int) - 1 < 2147483647 := by omega
      have mb : Bd (1 + (i : Int) - 1) := Bd.small (by omega) (by omega)
      generalize 1 + (i : Int) - 1 = num at mr mb ⊢
    case' g2 => repeat wtm_at "s"
    all_goals
      refine WE.append ?_
      repeat wtm_at "s"
      refine ⟨D, _, rfl, by wtm_at "mem", ?_⟩
      repeat wtm_at "s"
      have dv0 : 0 ≤ num / (1 + (i : Int)) := Int.ediv_nonneg mr.1 (by omega)
      have dv1 : num / (1 + (i : Int)) ≤ num := Int.ediv_le_self _ mr.1
      have ok : RdOk m ((root + num % (1 + (i : Int))) % m, (root + (1 + (i : Int))) % m, num / (1 + (i : Int))) :=
        tree_rd_ok hroot.1 hroot.2 (Int.emod_nonneg _ (by omega)) (Int.emod_lt_of_pos _ (by omega)) (by omega) (by omega)
      refine ⟨_, _, by wtm_at "mem", by wtm_at "upd", by simp [sizeLine]; omega, rfl, ?_⟩
      repeat wtm_at "s"
      refine ⟨R ++ [((root + num % (1 + (i : Int))) % m, (root + (1 + (i : Int))) % m, num / (1 + (i : Int)))], _, _, rfl, by simp, by simp [hRl], ?_⟩
      intro r hr'
      rcases List.mem_append.mp hr' with h1 | h1
      · exact hRo r h1
      · rw [List.mem_singleton.mp h1]; exact ok
  · rintro S H' ⟨R, o1, o2, rfl, rfl, hRl, hRo⟩
    rw [rangeL_length] at hRl
    refine seq_next ?_
    refine WSs.cons (WS.assignComp (ys := []) [] K .nil (by decide +kernel) (WI.of ?_))
    refine WE.callT (by wtm_at "mem") X.g_range ?_
    repeat wtm_at "e"
    refine WC.range1 ?_
    refine ItOf.range hA' (by decide) (by decide) (by omega) (by omega) ?_
    have hlen : (rangeL 0 m).length = m.toNat := by rw [rangeL_length]; congr 1; omega
    refine comp_intro (fun i ys H' => ys = List.replicate i MV.none ∧ H' = (D, .list (R.map rdV)) :: H) (by rw [hlen]; simp [sizeLine]; omega) ⟨rfl, rfl⟩ ?_ ?_ ?_
    · rintro i ys H' ⟨rfl, rfl⟩
      exact ⟨trivial, by simp⟩
    · rintro i v ys H' cenv hv ⟨rfl, rfl⟩
      refine ct_nil (if_t ?_)
      repeat wtm_at "e"
      exact ⟨List.replicate_succ'.symm, rfl⟩
    · rintro ys H' ⟨rfl, rfl⟩ E hE
      rw [hlen]
      have hT : ((List.replicate m.toNat MV.none).length : Int) = m := by simp; omega
      have hTp : ∀ x ∈ List.replicate m.toNat MV.none, Plain x := fun x hx => .inl (List.mem_replicate.mp hx).2
      generalize List.replicate m.toNat MV.none = T at hT hTp
      refine ⟨_, by wtm_at "put", seq_next ?_⟩
      repeat wtm_at "s"
      intro M hM
      repeat wtm_at "s"
      refine if_d (fun h => ?_) (fun h => ?_)
      · refine WSs.cons (WS.assignComp (ys := ["_law_many_here"]) ["_law_road"] K (.cons (y := "_law_many_here") (by wtm_at "at") (by wtm_at "mem") .nil) (by decide +kernel) (WI.of ?_))
        repeat wtm_at "e"
        refine ⟨_, .inr ⟨ns, rfl, rfl⟩, by rw [List.length_map]; simp [sizeLine]; omega, fun D1 hD1 => ?_⟩
        refine ItOf.list hA' (by wtm_at "mem") ?_
        rw [sliceL_map]
        have hsl : (sliceL (some 7) (some 27) ns).length ≤ 20 := by simp [sliceL]; omega
        refine comp_intro (fun i ys H' => ∃ R' : List Rd, ys = R'.map rdV ∧ R'.length = i ∧ (∀ r ∈ R', RdOk m r) ∧ H' = (D1, MO.list ((sliceL (some 7) (some 27) ns).map .int)) :: (M, .list []) :: (E, .list T) :: (D, MO.list (R.map rdV)) :: H) (by simp [sizeLine]; omega) ⟨[], rfl, rfl, by simp, rfl⟩ ?_ ?_ ?_
        · rintro i ys H' ⟨R', rfl, hRi, _, rfl⟩
          exact ⟨List.mem_cons_self, by simp [hRi]⟩
        · rintro i v ys H' cenv hv ⟨R', rfl, hRi, hRo', rfl⟩
          obtain ⟨c, hc, rfl⟩ := get_map hv
          have hcb : Bd c := hb c (by
            have := List.mem_of_getElem? hc
            simp only [sliceL] at this
            exact List.mem_of_mem_drop (List.mem_of_mem_take this))
          refine ct_nil (if_t ?_)
          refine WE.callF (by wtm_at "mem") X.f_road ?_
          repeat wtm_at "e"
          refine sp_road X hC (by omega) hm.2 ?_
          refine ⟨R' ++ [roadF c m], by simp, by simp [hRi], ?_, rfl⟩
          intro r hr'
          rcases List.mem_append.mp hr' with h1 | h1
          · exact hRo' r h1
          · rw [List.mem_singleton.mp h1]; exact roadF_ok c (by omega)
        · rintro ys H' ⟨R', rfl, hRi, hRo', rfl⟩ D2 hD2
          rw [List.length_map] at hRi
          refine ⟨_, by wtm_at "put", seq_next (WSs.nil (seq_next ?_))⟩
          exact WSs.sub (built_b X hA' hl hm hroot (by omega) (by omega) hRo hRo' hT hTp q) (.cons_cons _ (.cons _ (.cons _ (.refl _))))
      · refine WSs.nil (seq_next ?_)
        exact built_b X hA' hl (P := []) hm hroot (by omega) (by simp) hRo (by simp) hT hTp q
end
set_option maxRecDepth 100000
set_option maxHeartbeats 4000000
open PySem PySem.W PySem.Calls PyProof.Rows
section
variable {C : Cx} {A : Around} {H : Hp} {n : Nat} {Q : MV → Hp → Prop}
theorem length_le_of_nodup {α : Type} [DecidableEq α] : ∀ {l k : List α}, l.Nodup → (∀ x ∈ l, x ∈ k) → l.length ≤ k.length
  | [], _, _, _ => Nat.zero_le _
  | a :: l, k, nd, h => by
    have hn := List.nodup_cons.mp nd
    have ha := h a List.mem_cons_self
    have h1 := length_le_of_nodup (k := k.erase a) hn.2 fun x hx => (List.mem_erase_of_ne (fun (e : x = a) => hn.1 (e ▸ hx))).mpr (h x (List.mem_cons_of_mem _ hx))
    rw [List.length_erase_of_mem ha] at h1
    have := List.length_pos_of_mem ha
    rw [List.length_cons]; omega
/-- nodup lists of places are short -/
theorem within_short {m : Int} {W : List Int} (hm : 0 ≤ m) (nd : W.Nodup) (hw : ∀ x ∈ W, 0 ≤ x ∧ x < m) : (W.length : Int) ≤ m := by
  have h1 : (W.map Int.toNat).Nodup := by
    refine List.pairwise_map.mpr (List.Pairwise.imp_of_mem (fun {a b} ha hb hab q => hab ?_) nd)
    have := hw a ha; have := hw b hb; omega
  have h2 : ∀ x ∈ W.map Int.toNat, x ∈ List.range m.toNat := fun x hx => by
    obtain ⟨y, hy, rfl⟩ := List.mem_map.mp hx
    have := hw y hy
    exact List.mem_range.mpr (by omega)
  have h3 : (W.map Int.toNat).length ≤ (List.range m.toNat).length := length_le_of_nodup h1 h2
  rw [List.length_map, List.length_range] at h3
  omega
/-! what a tree's list may hold -/
inductive TK (H : Hp) : MV → Prop
  | none : TK H .none
  | bool (b : Bool) : TK H (.bool b)
  | int (i : Int) : TK H (.int i)
  | str (x : Str) : TK H (.str x)
  | list {a xs} : (a, MO.list xs) ∈ H → TK H (.ref a)
  | dict {a es} : (a, MO.dict es) ∈ H → TK H (.ref a)
  | tup (i : Int) (a : Addr) : TK H (.tup [.int i, .ref a])
theorem TK.sub {H H' : Hp} {x : MV} (h : TK H x) (hs : ∀ p ∈ H, p ∈ H') : TK H' x := by
  cases h with
  | none => exact .none
  | bool b => exact .bool b
  | int i => exact .int i
  | str x => exact .str x
  | list h => exact .list (hs _ h)
  | dict h => exact .dict (hs _ h)
  | tup i a => exact .tup i a
theorem TK.noRaw {H : Hp} {x : MV} (h : TK H x) : noRaw x = true := by cases h <;> rfl
theorem TK.sm {H : Hp} {x : MV} (h : TK H x) : Sm H 1 x x := by
  cases h with
  | none => exact .none
  | bool b => exact .bool b
  | int i => exact .int i
  | str x => exact .str x
  | list h => exact .ref _
  | dict h => exact .ref _
  | tup i a => exact .tup (.cons (.int _) (.cons (.ref _) .nil))
theorem TK.isi {H : Hp} {x : MV} (h : TK H x) : ∃ b1 b2, Isi H x "int" b1 ∧ Isi H x "bool" b2 ∧ ((∃ i, x = .int i ∧ b1 = true ∧ b2 = false) ∨ ((∀ i, x ≠ .int i) ∧ (b1 = false ∨ b2 = true))) := by
  cases h with
  | none => exact ⟨_, _, .ni, .nb, .inr ⟨fun _ h => (nomatch h), .inl rfl⟩⟩
  | bool b => exact ⟨_, _, .bi, .bb, .inr ⟨fun _ h => (nomatch h), .inr rfl⟩⟩
  | int i => exact ⟨_, _, .ii, .ib, .inl ⟨i, rfl, rfl, rfl⟩⟩
  | str x => exact ⟨_, _, .si, .sb, .inr ⟨fun _ h => (nomatch h), .inl rfl⟩⟩
  | list h => exact ⟨_, _, .li h, .lb h, .inr ⟨fun _ h => (nomatch h), .inl rfl⟩⟩
  | dict h => exact ⟨_, _, .di h, .db h, .inr ⟨fun _ h => (nomatch h), .inl rfl⟩⟩
  | tup i a => exact ⟨_, _, .ti, .tb, .inr ⟨fun _ h => (nomatch h), .inl rfl⟩⟩

/-! plain trees -/
def EndAt (R : List Rd) (T : List MV) (p : Int) : Prop := ∃ (i : Int) (r : Rd), T[p.toNat]? = some (.int i) ∧ 0 ≤ i ∧ R[i.toNat]? = some r ∧ r.2.1 = p
structure Ends (m root : Int) (R : List Rd) (T : List MV) : Prop where
  len : (T.length : Int) = m
  rt : T[root.toNat]? = some .none
  at' : ∀ p, 0 ≤ p → p < m → p ≠ root → EndAt R T p
def par (R : List Rd) (T : List MV) (p : Int) : Int :=
  match T[p.toNat]? with
  | some (.int i) => match R[i.toNat]? with
    | some r => r.1
    | none => p
  | _ => p
def climb (R : List Rd) (T : List MV) (root p : Int) : Int := if p = root then root else par R T p
def up (R : List Rd) (T : List MV) (root : Int) : Nat → Int → Int
  | 0, p => p
  | k + 1, p => climb R T root (up R T root k p)
theorem par_eq {R : List Rd} {T : List MV} {p i : Int} {r : Rd} (h1 : T[p.toNat]? = some (.int i)) (h2 : R[i.toNat]? = some r) : par R T p = r.1 := by
  unfold par; rw [h1]; simp only []; rw [h2]
section
variable {R : List Rd} {T : List MV} {root m : Int}
theorem up_root : ∀ k, up R T root k root = root
  | 0 => rfl
  | k + 1 => by show climb R T root (up R T root k root) = root; rw [up_root k]; simp [climb]
theorem up_add (p : Int) (j : Nat) : ∀ k, up R T root (k + j) p = up R T root k (up R T root j p)
  | 0 => by rw [Nat.zero_add]; rfl
  | k + 1 => by rw [Nat.succ_add]; show climb R T root _ = climb R T root _; rw [up_add p j k]
theorem up_stay {p : Int} {j k : Nat} (h : up R T root j p = root) (hk : j ≤ k) : up R T root k p = root := by
  obtain ⟨d, rfl⟩ := Nat.exists_eq_add_of_le hk
  rw [Nat.add_comm, up_add, h, up_root]
theorem climb_in (hE : Ends m root R T) (hok : ∀ r ∈ R, RdOk m r) (hroot : 0 ≤ root ∧ root < m) {p : Int} (h0 : 0 ≤ p) (h1 : p < m) : 0 ≤ climb R T root p ∧ climb R T root p < m := by
  unfold climb
  split
  · exact hroot
  · rename_i hne
    obtain ⟨i, r, e1, e2, e3, e4⟩ := hE.at' p h0 h1 hne
    rw [par_eq e1 e3]
    obtain ⟨g1, g2, _⟩ := hok r (List.mem_of_getElem? e3)
    exact ⟨g1, g2⟩
theorem up_in (hE : Ends m root R T) (hok : ∀ r ∈ R, RdOk m r) (hroot : 0 ≤ root ∧ root < m) {p : Int} (h0 : 0 ≤ p) (h1 : p < m) : ∀ k, 0 ≤ up R T root k p ∧ up R T root k p < m
  | 0 => ⟨h0, h1⟩
  | k + 1 => have := up_in hE hok hroot h0 h1 k; climb_in hE hok hroot this.1 this.2
/-- one turn more or less than the places does not matter -/
theorem up_enough (hE : Ends m root R T) (hok : ∀ r ∈ R, RdOk m r) (hroot : 0 ≤ root ∧ root < m) {p : Int} (h0 : 0 ≤ p) (h1 : p < m) (h : up R T root (m.toNat + 1) p = root) : up R T root m.toNat p = root := by
  apply Classical.byContradiction
  intro hn
  have nd : ((List.range (m.toNat + 1)).map fun k => up R T root k p).Nodup := by
    refine List.pairwise_map.mpr (List.Pairwise.imp_of_mem (fun {i j} hi hj hij e => ?_) List.pairwise_lt_range)
    have hi := List.mem_range.mp hi
    have hj := List.mem_range.mp hj
    have e2 : up R T root (m.toNat + 1 - j + i) p = up R T root (m.toNat + 1 - j + j) p := by rw [up_add, up_add, e]
    rw [show m.toNat + 1 - j + j = m.toNat + 1 by omega, h] at e2
    exact hn (up_stay e2 (by omega))
  have := within_short (m := m) (by omega) nd fun x hx => by
    obtain ⟨k, _, rfl⟩ := List.mem_map.mp hx
    exact up_in hE hok hroot h0 h1 k
  rw [List.length_map, List.length_range] at this
  omega
end
theorem sp_ends (X : Fx C) (hA : AOk C A (n + 2)) {m root : Int} {a t : Addr} {R : List Rd} {T : List MV} (hm : 1 ≤ m ∧ m ≤ 12) (hroot : 0 ≤ root ∧ root < m) (hR : R.length ≤ 60) (hTl : T.length ≤ 20) (ha : (a, MO.list (R.map rdV)) ∈ H) (ht : (t, MO.list T) ∈ H) (hk : ∀ x ∈ T, TK H x)
    (q : ∀ b : Bool, (b = true ↔ Ends m root R T) → Q (.bool b) H) : WF C A H "ends_right" [.int m, .ref a, .int root, .ref t] Q := by
  refine WF.intro X.p_ends_right hA ["many", "roads", "root", "tree"] ["place", "number"] ["len", "range", "is_whole"] [] [("many", some (.int m)), ("roads", some (.ref a)), ("root", some (.int root)), ("tree", some (.ref t)), ("place", none), ("number", none)] (by decide +kernel) rfl (by wtm_at "bind") rfl ?_
  intro env hA' K
  refine WSs.cons ?_
  repeat wtm_at "s"
  refine if_ne (fun h => ?_) (fun h => ?_)
  · repeat wtm_at "s"
    exact ⟨_, List.Sublist.refl _, q false ⟨fun e => (nomatch e), fun e => absurd e.len h⟩⟩
  obtain ⟨x, hx⟩ : ∃ x, T[root.toNat]? = some x := ⟨T[root.toNat]'(by omega), by simp⟩
  repeat wtm_at "s"
  refine W2.itemL (xs := T) (x := x) ht hroot.1 hx (by omega) ?_
  repeat wtm_at "s"
  refine W2.isNotNone (hk x (List.mem_of_getElem? hx)).noRaw ?_
  repeat wtm_at "s"
  refine if_b (fun hn => ?_) (fun hn => ?_)
  · repeat wtm_at "s"
    refine ⟨_, List.Sublist.refl _, q false ⟨fun e => (nomatch e), fun e => ?_⟩⟩
    have := e.rt
    rw [hx] at this; cases this
    cases hn
  have hxn : x = .none := by
    cases x <;> first | rfl | (simp [isNone] at hn)
  subst hxn
  repeat wtm_at "s"
  refine WS.for (WI.of ?_)
  refine WE.callT (by wtm_at "mem") X.g_range ?_
  repeat wtm_at "e"
  refine WC.range1 ?_
  refine ItOf.range hA' (by decide) (by decide) (by omega) (by omega) ?_
  refine for_intro (fun (i : Nat) (S : Sg) (H' : Hp) => ∃ o1 o2, S = ([("many", some (.int m)), ("roads", some (.ref a)), ("root", some (.int root)), ("tree", some (.ref t)), ("place", o1), ("number", o2)] : Sg) ∧ H' = H ∧ ∀ p : Int, 0 ≤ p → p < i → p ≠ root → EndAt R T p) ⟨none, none, rfl, rfl, fun p _ _ _ => by omega⟩ (fun _ _ _ _ => trivial) ?_ ?_
  · rintro i x S H' hx ⟨o1, o2, rfl, rfl, hI⟩
    obtain ⟨rfl, hlt⟩ := rangeL_get hx
    rw [Int.zero_add] at hlt ⊢
    refine WA.name (by wtm_at "put") ?_
    repeat wtm_at "s"
    refine if_ne (fun hne => ?_) (fun hne => ?_)
    · obtain ⟨x, hx⟩ : ∃ x, T[i]? = some x := ⟨T[i]'(by omega), by simp⟩
      have hx' : T[(i : Int).toNat]? = some x := by simpa using hx
      have bad : ¬ EndAt R T (i : Int) → Ends m root R T → false = true := fun hb e => absurd (e.at' _ (by omega) (by omega) hne) hb
      repeat wtm_at "s"
      refine W2.itemL (xs := T) (x := x) ht (by omega) hx' (by omega) ?_
      obtain ⟨b1, b2, i1, i2, hi⟩ := (hk x (List.mem_of_getElem? hx)).isi
      repeat wtm_at "s"
      refine WT.plain (WE.whole X hA' (by wtm_at "mem") ?_)
      repeat wtm_at "s"
      refine ⟨b1, b2, i1, i2, ?_⟩
      rcases hi with ⟨j, rfl, rfl, rfl⟩ | ⟨hni, hb⟩
      · refine WB.bool (if_nt ?_)
        repeat wtm_at "s"
        refine if_d (fun h => ?_) (fun h => ?_)
        · repeat wtm_at "s"
          refine ⟨_, List.Sublist.refl _, q false ⟨fun e => (nomatch e), bad fun ⟨k, r, e1, e2, _⟩ => ?_⟩⟩
          rw [hx'] at e1; cases e1; omega
        repeat wtm_at "s"
        refine if_d (fun h2 => ?_) (fun h2 => ?_)
        · repeat wtm_at "s"
          refine ⟨_, List.Sublist.refl _, q false ⟨fun e => (nomatch e), bad fun ⟨k, r, e1, e2, e3, _⟩ => ?_⟩⟩
          rw [hx'] at e1; cases e1
          have := get_lt e3
          omega
        obtain ⟨r, hr⟩ : ∃ r, R[j.toNat]? = some r := ⟨R[j.toNat]'(by omega), by simp⟩
        repeat wtm_at "s"
        refine W2.itemM (l := R) (x := r) ha (by omega) hr (by omega) ?_
        repeat wtm_at "s"
        refine if_ne (fun h3 => ?_) (fun h3 => ?_)
        · repeat wtm_at "s"
          refine ⟨_, List.Sublist.refl _, q false ⟨fun e => (nomatch e), bad fun ⟨k, r', e1, e2, e3, e4⟩ => ?_⟩⟩
          rw [hx'] at e1; cases e1
          rw [hr] at e3; cases e3
          exact h3 e4
        · repeat wtm_at "s"
          refine ⟨_, _, rfl, rfl, fun p hp1 hp2 hp3 => ?_⟩
          rcases (by omega : p = (i : Int) ∨ p < i) with rfl | hp
          · exact ⟨j, r, hx', by omega, hr, h3⟩
          · exact hI p hp1 hp hp3
      · have hw : (b1 && !b2) = false := by rcases hb with rfl | rfl <;> simp
        rw [hw]
        refine WB.bool (if_nf ?_)
        repeat wtm_at "s"
        refine ⟨_, List.Sublist.refl _, q false ⟨fun e => (nomatch e), bad fun ⟨k, r, e1, e2, _⟩ => ?_⟩⟩
        rw [hx'] at e1; cases e1
        exact hni k rfl
    · repeat wtm_at "s"
      refine ⟨_, _, rfl, rfl, fun p hp1 hp2 hp3 => ?_⟩
      exact hI p hp1 (by omega) hp3
  · rintro S H' ⟨o1, o2, rfl, rfl, hI⟩
    rw [rangeL_length] at hI
    repeat wtm_at "s"
    exact ⟨_, List.Sublist.refl _, q true ⟨fun _ => ⟨h, hx, fun p h0 h1 h2 => hI p h0 (by omega) h2⟩, fun _ => rfl⟩⟩

theorem sp_back (X : Fx C) (hA : AOk C A (n + 1)) {m root p : Int} {a t : Addr} {R : List Rd} {T : List MV} (hm : 1 ≤ m ∧ m ≤ 12) (hroot : 0 ≤ root ∧ root < m) (hp : 0 ≤ p ∧ p < m) (hR : R.length ≤ 60) (hok : ∀ r ∈ R, RdOk m r) (ha : (a, MO.list (R.map rdV)) ∈ H) (ht : (t, MO.list T) ∈ H) (hE : Ends m root R T)
    (q1 : up R T root (m.toNat + 1) p ≠ root → Q .none H) (q2 : up R T root (m.toNat + 1) p = root → ∀ D, Q (.ref D) H) : WF C A H "back" [.int m, .ref a, .int root, .ref t, .int p] Q := by
  refine WF.intro X.p_back hA ["many", "roads", "root", "tree", "place"] ["found"] ["len"] [] [("many", some (.int m)), ("roads", some (.ref a)), ("root", some (.int root)), ("tree", some (.ref t)), ("place", some (.int p)), ("found", none)] (by decide +kernel) rfl (by wtm_at "bind") rfl ?_
  intro env hA' K
  refine WSs.cons ?_
  repeat wtm_at "s"
  intro D hD
  repeat wtm_at "s"
  refine WS.while (fun j S H' => ∃ (k : Nat) (xs : List MV), j + k = m.toNat + 1 ∧ xs.length = k ∧ S = ([("many", some (.int m)), ("roads", some (.ref a)), ("root", some (.int root)), ("tree", some (.ref t)), ("place", some (.int (up R T root k p))), ("found", some (.ref D))] : Sg) ∧ H' = (D, .list xs) :: H) (m.toNat + 1) ⟨0, [], rfl, rfl, rfl, rfl⟩ ?_
  rintro j S H' ⟨k, xs, hj, hk, rfl, rfl⟩
  repeat wtm_at "e"
  refine if_ne (fun hne => ?_) (fun hne => ?_)
  · repeat wtm_at "s"
    refine if_d (fun h => ?_) (fun h => ?_)
    · repeat wtm_at "s"
      refine ⟨_, List.sublist_cons_self _ _, q1 ?_⟩
      have : k = m.toNat + 1 := by omega
      rw [← this]; exact hne
    · have hi := up_in hE hok hroot hp.1 hp.2 k
      obtain ⟨i, r, e1, e2, e3, e4⟩ := hE.at' _ hi.1 hi.2 hne
      have hc : up R T root (k + 1) p = r.1 := by
        show climb R T root (up R T root k p) = r.1
        unfold climb
        rw [if_neg hne, par_eq e1 e3]
      generalize up R T root k p = w at hi e1 e4 hne hc
      repeat wtm_at "s"
      refine WE.append ?_
      repeat wtm_at "s"
      refine ⟨D, _, rfl, by wtm_at "mem", ?_⟩
      repeat wtm_at "s"
      refine W2.itemL (xs := T) (by wtm_at "mem") hi.1 e1 (by omega) ?_
      refine ⟨_, _, by wtm_at "mem", by wtm_at "upd", by simp [sizeLine]; omega, rfl, ?_⟩
      repeat wtm_at "s"
      refine W2.itemL (xs := T) (by wtm_at "mem") hi.1 e1 (by omega) ?_
      refine W2.itemM (l := R) (x := r) (by wtm_at "mem") e2 e3 (by have := get_lt e3; omega) ?_
      repeat wtm_at "s"
      refine ⟨j - 1, by omega, k + 1, _, by omega, ?_, by rw [hc], rfl⟩
      simp [hk]
  · repeat wtm_at "s"
    refine ⟨_, List.sublist_cons_self _ _, q2 ?_ D⟩
    exact up_stay hne (by omega)

def Tree (m root : Int) (R : List Rd) (T : List MV) : Prop := Ends m root R T ∧ ∀ p, 0 ≤ p → p < m → up R T root m.toNat p = root
theorem sp_is_tree (X : Fx C) (hA : AOk C A (n + 5)) {m root : Int} {a t : Addr} {R : List Rd} {T : List MV} (hm : 1 ≤ m ∧ m ≤ 12) (hroot : 0 ≤ root ∧ root < m) (hR : R.length ≤ 60) (hok : ∀ r ∈ R, RdOk m r) (hTl : T.length ≤ 20) (ha : (a, MO.list (R.map rdV)) ∈ H) (ht : (t, MO.list T) ∈ H) (hk : ∀ x ∈ T, TK H x)
    (q : ∀ b : Bool, (b = true ↔ Tree m root R T) → Q (.bool b) H) : WF C A H "is_tree" [.int m, .ref a, .int root, .ref t] Q := by
  refine WF.intro X.p_is_tree hA ["many", "roads", "root", "tree"] ["place"] ["checked", "need_place", "ends_right", "range", "back"] [] [("many", some (.int m)), ("roads", some (.ref a)), ("root", some (.int root)), ("tree", some (.ref t)), ("place", none)] (by decide +kernel) rfl (by wtm_at "bind") rfl ?_
  intro env hA' K
  refine WSs.cons ?_
  repeat wtm_at "s"
  refine WE.callF (by wtm_at "mem") X.p_checked ?_
  repeat wtm_at "s"
  refine sp_checked X hA' hm hR hok ha ?_
  repeat wtm_at "s"
  refine WE.callF (by wtm_at "mem") X.p_need_place ?_
  repeat wtm_at "s"
  refine sp_need X (hA'.le (by omega : n + 3 ≤ n + 4)) hroot.1 hroot.2 ?_
  repeat wtm_at "s"
  refine WT.plain (WE.callF (by wtm_at "mem") X.p_ends_right ?_)
  repeat wtm_at "s"
  refine sp_ends X (hA'.le (by omega : n + 2 ≤ n + 4)) hm hroot hR hTl ha ht hk fun b hb => ?_
  refine WB.bool ?_
  cases b with
  | false =>
    repeat wtm_at "s"
    exact ⟨_, List.Sublist.refl _, q false ⟨fun e => (nomatch e), fun e => hb.mpr e.1⟩⟩
  | true =>
    have hE := hb.mp rfl
    repeat wtm_at "s"
    refine WS.for (WI.of ?_)
    refine WE.callT (by wtm_at "mem") X.g_range ?_
    repeat wtm_at "e"
    refine WC.range1 ?_
    refine ItOf.range hA' (by decide) (by decide) (by omega) (by omega) ?_
    refine for_intro (fun (i : Nat) (S : Sg) (H' : Hp) => ∃ o1, S = ([("many", some (.int m)), ("roads", some (.ref a)), ("root", some (.int root)), ("tree", some (.ref t)), ("place", o1)] : Sg) ∧ H' = H ∧ ∀ p : Int, 0 ≤ p → p < i → up R T root m.toNat p = root) ⟨none, rfl, rfl, fun p _ _ => by omega⟩ (fun _ _ _ _ => trivial) ?_ ?_
    · rintro i x S H' hx ⟨o1, rfl, rfl, hI⟩
      obtain ⟨rfl, hlt⟩ := rangeL_get hx
      rw [Int.zero_add] at hlt ⊢
      refine WA.name (by wtm_at "put") ?_
      repeat wtm_at "s"
      refine WE.callF (by wtm_at "mem") X.p_back ?_
      repeat wtm_at "s"
      refine sp_back X (hA'.le (by omega : n + 1 ≤ n + 4)) hm hroot (p := (i : Int)) (by omega) hR hok ha ht hE (fun h => ?_) (fun h D => ?_)
      · repeat wtm_at "s"
        refine W2.isNone rfl ?_
        repeat wtm_at "s"
        refine if_t ?_
        repeat wtm_at "s"
        refine ⟨_, List.Sublist.refl _, q false ⟨fun e => (nomatch e), fun e => ?_⟩⟩
        exact absurd (up_stay (e.2 (i : Int) (by omega) hlt) (by omega)) h
      · repeat wtm_at "s"
        refine W2.isNone rfl ?_
        repeat wtm_at "s"
        refine if_f ?_
        repeat wtm_at "s"
        refine ⟨rfl, fun p h0 h1 => ?_⟩
        rcases (by omega : p = (i : Int) ∨ p < i) with rfl | hp
        · exact up_enough hE hok hroot h0 hlt h
        · exact hI p h0 hp
    · rintro S H' ⟨o1, rfl, rfl, hI⟩
      rw [rangeL_length] at hI
      repeat wtm_at "s"
      exact ⟨_, List.Sublist.refl _, q true ⟨fun _ => ⟨hE, fun p h0 h1 => hI p h0 (by omega)⟩, fun _ => rfl⟩⟩
/-! the way, as numbers of roads -/
def numAt (T : List MV) (p : Int) : Int :=
  match T[p.toNat]? with
  | some (.int i) => i
  | _ => 0
def wy (R : List Rd) (T : List MV) (root : Int) : Nat → Int → List Int
  | 0, _ => []
  | k + 1, p => if up R T root k p = root then wy R T root k p else numAt T (up R T root k p) :: wy R T root k p
theorem numAt_eq {T : List MV} {p i : Int} (h : T[p.toNat]? = some (.int i)) : numAt T p = i := by unfold numAt; rw [h]
section
variable {R : List Rd} {T : List MV} {root m : Int}
theorem wy_stay {p : Int} {j k : Nat} (h : up R T root j p = root) (hk : j ≤ k) : wy R T root k p = wy R T root j p := by
  induction k with
  | zero => have : j = 0 := by omega
            rw [this]
  | succ k ih =>
    rcases Nat.lt_or_ge k j with h1 | h1
    · rw [show j = k + 1 by omega]
    · show (if up R T root k p = root then wy R T root k p else _) = _
      rw [if_pos (up_stay h h1)]
      exact ih h1
theorem wy_eq {p : Int} {j k : Nat} (h : up R T root j p = root) (h' : up R T root k p = root) : wy R T root k p = wy R T root j p := by
  rcases Nat.le_total j k with hl | hl
  · exact wy_stay h hl
  · exact (wy_stay h' hl).symm
theorem wy_len (p : Int) : ∀ k, (wy R T root k p).length ≤ k
  | 0 => Nat.le_refl _
  | k + 1 => by
    show (if up R T root k p = root then wy R T root k p else _).length ≤ k + 1
    have := wy_len p k
    split
    · omega
    · simp; omega
end
theorem sp_backL (X : Fx C) (hA : AOk C A (n + 1)) {m root p : Int} {a t : Addr} {R : List Rd} {T : List MV} (hm : 1 ≤ m ∧ m ≤ 12) (hroot : 0 ≤ root ∧ root < m) (hp : 0 ≤ p ∧ p < m) (hR : R.length ≤ 60) (hok : ∀ r ∈ R, RdOk m r) (ha : (a, MO.list (R.map rdV)) ∈ H) (ht : (t, MO.list T) ∈ H) (hT : Tree m root R T)
    (q : ∀ D, ¬ dom H D → Q (.ref D) ((D, .list ((wy R T root m.toNat p).map .int).reverse) :: H)) : WF C A H "back" [.int m, .ref a, .int root, .ref t, .int p] Q := by
  have hE := hT.1
  refine WF.intro X.p_back hA ["many", "roads", "root", "tree", "place"] ["found"] ["len"] [] [("many", some (.int m)), ("roads", some (.ref a)), ("root", some (.int root)), ("tree", some (.ref t)), ("place", some (.int p)), ("found", none)] (by decide +kernel) rfl (by wtm_at "bind") rfl ?_
  intro env hA' K
  refine WSs.cons ?_
  repeat wtm_at "s"
  intro D hD
  repeat wtm_at "s"
  refine WS.while (fun j S H' => ∃ (k : Nat) (xs : List MV), j + k = m.toNat + 1 ∧ xs.length = k ∧ xs = ((wy R T root k p).map .int).reverse ∧ S = ([("many", some (.int m)), ("roads", some (.ref a)), ("root", some (.int root)), ("tree", some (.ref t)), ("place", some (.int (up R T root k p))), ("found", some (.ref D))] : Sg) ∧ H' = (D, .list xs) :: H) (m.toNat + 1) ⟨0, [], rfl, rfl, rfl, rfl, rfl⟩ ?_
  rintro j S H' ⟨k, xs, hj, hk, hxs, rfl, rfl⟩
  repeat wtm_at "e"
  refine if_ne (fun hne => ?_) (fun hne => ?_)
  · repeat wtm_at "s"
    refine if_d (fun h => ?_) (fun h => ?_)
    · exact absurd (up_stay (hT.2 p hp.1 hp.2) (by omega)) hne
    · have hi := up_in hE hok hroot hp.1 hp.2 k
      obtain ⟨i, r, e1, e2, e3, e4⟩ := hE.at' _ hi.1 hi.2 hne
      have hc : up R T root (k + 1) p = r.1 := by
        show climb R T root (up R T root k p) = r.1
        unfold climb
        rw [if_neg hne, par_eq e1 e3]
      have hw : wy R T root (k + 1) p = i :: wy R T root k p := by
        show (if up R T root k p = root then wy R T root k p else _) = _
        rw [if_neg hne, numAt_eq e1]
      generalize up R T root k p = w at hi e1 e4 hne hc
      repeat wtm_at "s"
      refine WE.append ?_
      repeat wtm_at "s"
      refine ⟨D, _, rfl, by wtm_at "mem", ?_⟩
      repeat wtm_at "s"
      refine W2.itemL (xs := T) (by wtm_at "mem") hi.1 e1 (by omega) ?_
      refine ⟨_, _, by wtm_at "mem", by wtm_at "upd", by simp [sizeLine]; omega, rfl, ?_⟩
      repeat wtm_at "s"
      refine W2.itemL (xs := T) (by wtm_at "mem") hi.1 e1 (by omega) ?_
      refine W2.itemM (l := R) (x := r) (by wtm_at "mem") e2 e3 (by have := get_lt e3; omega) ?_
      repeat wtm_at "s"
      refine ⟨j - 1, by omega, k + 1, _, by omega, ?_, ?_, by rw [hc], rfl⟩
      · simp [hk]
      · rw [hw, hxs]; simp
  · repeat wtm_at "s"
    refine ⟨_, List.Sublist.refl _, ?_⟩
    rw [hxs, wy_eq (hT.2 p hp.1 hp.2) hne]
    exact q D hD
theorem sp_way {KB KR : Addr} (X : Fx C) (L : Cl C KB KR) (hA : AOk C A (n + 6)) {m root p : Int} {a t : Addr} {R : List Rd} {T : List MV} (hm : 1 ≤ m ∧ m ≤ 12) (hroot : 0 ≤ root ∧ root < m) (hp : 0 ≤ p ∧ p < m) (hR : R.length ≤ 60) (hok : ∀ r ∈ R, RdOk m r) (hTl : T.length ≤ 20) (ha : (a, MO.list (R.map rdV)) ∈ H) (ht : (t, MO.list T) ∈ H) (hk : ∀ x ∈ T, TK H x)
    (hd : Tree m root R T → C.hd = none) (q : Tree m root R T → ∀ D, ¬ dom H D → Q (.ref D) ((D, .list ((wy R T root m.toNat p).map .int)) :: H)) : WFX C A H "way" [.int m, .ref a, .int root, .ref t, .int p] Q KB (¬ Tree m root R T) := by
  refine WFX.intro X.p_way hA ["many", "roads", "root", "tree", "place"] [] ["checked", "need_place", "is_tree", "BadTree", "list", "reversed", "back"] [] [("many", some (.int m)), ("roads", some (.ref a)), ("root", some (.int root)), ("tree", some (.ref t)), ("place", some (.int p))] (by decide +kernel) rfl (by wtm_at "bind") rfl ?_
  intro env hA' K
  refine WSsX.cons (WSX.of ?_)
  repeat wtm_at "s"
  refine WE.callF (by wtm_at "mem") X.p_checked ?_
  repeat wtm_at "s"
  refine sp_checked X (hA'.le (by omega : n + 4 ≤ n + 5)) hm hR hok ha ?_
  repeat wtm_at "s"
  refine WSsX.cons (WSX.of ?_)
  repeat wtm_at "s"
  refine WE.callF (by wtm_at "mem") X.p_need_place ?_
  repeat wtm_at "s"
  refine sp_need X (hA'.le (by omega : n + 3 ≤ n + 5)) hroot.1 hroot.2 ?_
  repeat wtm_at "s"
  refine WSsX.cons (WSX.of ?_)
  repeat wtm_at "s"
  refine WE.callF (by wtm_at "mem") X.p_need_place ?_
  repeat wtm_at "s"
  refine sp_need X (hA'.le (by omega : n + 3 ≤ n + 5)) hp.1 hp.2 ?_
  repeat wtm_at "s"
  refine WSsX.cons (WSX.if ?_)
  repeat wtm_at "s"
  refine WT.plain (WE.callF (by wtm_at "mem") X.p_is_tree ?_)
  repeat wtm_at "s"
  refine sp_is_tree X hA' hm hroot hR hok hTl ha ht hk fun b hb => ?_
  refine WB.bool ?_
  cases b with
  | false =>
    refine if_nf ?_
    refine WSsX.cons (WSX.raise hA' (by wtm_at "mem") rfl L.bt PySem.F.excBase_ValueError ⟨List.Sublist.refl _, fun h => ?_⟩)
    exact absurd (hb.mpr h) (by decide)
  | true =>
    have hT := hb.mp rfl
    refine if_nt ?_
    refine WSsX.of (WSs.nil (seq_next ?_))
    refine WSsX.of (WSs.cons ?_)
    repeat wtm_at "s"
    refine WE.listRev (hA'.handled.trans (hd hT)) (by wtm_at "mem") X.g_list (by wtm_at "mem") X.g_reversed ?_
    refine WE.callF (by wtm_at "mem") X.p_back ?_
    repeat wtm_at "s"
    refine sp_backL X (hA'.le (by omega : n + 1 ≤ n + 5)) hm hroot hp hR hok ha ht hT fun D hD => ?_
    refine ⟨D, _, rfl, by wtm_at "mem", ?_, fun E hE => ?_⟩
    · have := wy_len (R := R) (T := T) (root := root) p m.toNat
      simp [sizeLine]; omega
    · rw [List.reverse_reverse]
      repeat wtm_at "s"
      exact ⟨_, .cons_cons _ (.cons _ (.refl _)), q hT E fun d => hE (List.mem_cons_of_mem _ d)⟩
end
set_option maxRecDepth 100000
set_option maxHeartbeats 4000000
open PySem PySem.W PySem.Calls PyProof.Rows
/-- one place's way back is right -/
def WayOk (m root : Int) (R : List Rd) (T : List MV) (p : Int) : Prop := (∀ j : Nat, j < m.toNat → up R T root j p ≠ root → EndAt R T (up R T root j p)) ∧ up R T root m.toNat p = root
theorem tree_iff {m root : Int} {R : List Rd} {T : List MV} (hm : 1 ≤ m) (hroot : 0 ≤ root ∧ root < m) (hok : ∀ r ∈ R, RdOk m r) (hT : (T.length : Int) = m) (hn : T[root.toNat]? = some .none) : (∀ p, 0 ≤ p → p < m → WayOk m root R T p) ↔ Tree m root R T := by
  constructor
  · intro h
    exact ⟨⟨hT, hn, fun p h0 h1 hne => (h p h0 h1).1 0 (by omega) hne⟩, fun p h0 h1 => (h p h0 h1).2⟩
  · intro h p h0 h1
    refine ⟨fun j _ hne => ?_, h.2 p h0 h1⟩
    have := up_in h.1 hok hroot h0 h1 j
    exact h.1.at' _ this.1 this.2 hne
section
variable {C : Cx} {A : Around} {H : Hp} {n : Nat} {Q : MV → Hp → Prop}
theorem sp_law_way (X : Fx C) (hA : AOk C A (n + 1)) {m root p : Int} {a t : Addr} {R : List Rd} {T : List MV} (hm : 1 ≤ m ∧ m ≤ 12) (_hroot : 0 ≤ root ∧ root < m) (hp : 0 ≤ p ∧ p < m) (hR : R.length ≤ 60) (hok : ∀ r ∈ R, RdOk m r) (hT : (T.length : Int) = m) (ha : (a, MO.list (R.map rdV)) ∈ H) (ht : (t, MO.list T) ∈ H) (hk : ∀ x ∈ T, TK H x)
    (q1 : ¬ WayOk m root R T p → Q .none H) (q2 : WayOk m root R T p → ∀ D, ¬ dom H D → Q (.ref D) ((D, .list ((wy R T root m.toNat p).map .int)) :: H)) : WF C A H "_law_way" [.int m, .ref a, .int root, .ref t, .int p] Q := by
  refine WF.intro X.f_way hA ["_law_many_here", "_law_roads", "_law_root", "_law_tree", "_law_place"] ["_law_found", "_law_turn", "_law_one"] ["range", "isinstance", "int", "bool", "len"] [] [("_law_many_here", some (.int m)), ("_law_roads", some (.ref a)), ("_law_root", some (.int root)), ("_law_tree", some (.ref t)), ("_law_place", some (.int p)), ("_law_found", none), ("_law_turn", none), ("_law_one", none)] (by decide +kernel) rfl (by wtm_at "bind") rfl ?_
  intro env hA' K
  refine WSs.cons ?_
  repeat wtm_at "s"
  intro D hD
  repeat wtm_at "s"
  refine WS.for (WI.of ?_)
  refine WE.callT (by wtm_at "mem") X.g_range ?_
  repeat wtm_at "e"
  refine WC.range1 ?_
  refine ItOf.range hA' (by decide) (by decide) (by omega) (by omega) ?_
  refine for_intro (fun (k : Nat) (S : Sg) (H' : Hp) => ∃ o1 o2, S = ([("_law_many_here", some (.int m)), ("_law_roads", some (.ref a)), ("_law_root", some (.int root)), ("_law_tree", some (.ref t)), ("_law_place", some (.int (up R T root k p))), ("_law_found", some (.ref D)), ("_law_turn", o1), ("_law_one", o2)] : Sg) ∧ H' = (D, .list ((wy R T root k p).map .int)) :: H ∧ (0 ≤ up R T root k p ∧ up R T root k p < m) ∧ ∀ j : Nat, j < k → up R T root j p ≠ root → EndAt R T (up R T root j p)) ⟨none, none, rfl, rfl, hp, fun j hj => by omega⟩ (fun _ _ _ _ => trivial) ?_ ?_
  · rintro k x S H' hx ⟨o1, o2, rfl, rfl, hi, hI⟩
    obtain ⟨rfl, hlt⟩ := rangeL_get hx
    rw [Int.zero_add] at hlt ⊢
    refine WA.name (by wtm_at "put") ?_
    have hwl := wy_len (R := R) (T := T) (root := root) p k
    repeat wtm_at "s"
    refine if_ne (fun hne => ?_) (fun hne => ?_)
    · obtain ⟨x, hx⟩ : ∃ x, T[(up R T root k p).toNat]? = some x := ⟨T[(up R T root k p).toNat]'(by omega), by simp⟩
      have bad : ¬ EndAt R T (up R T root k p) → Q .none H := fun hb => q1 fun e => hb (e.1 k (by omega) hne)
      have hc : ∀ i r, x = .int i → R[i.toNat]? = some r → up R T root (k + 1) p = r.1 := fun i r e1 e3 => by
        subst e1
        show climb R T root (up R T root k p) = r.1
        unfold climb
        rw [if_neg hne, par_eq hx e3]
      have hw : ∀ i, x = .int i → wy R T root (k + 1) p = i :: wy R T root k p := fun i e1 => by
        subst e1
        show (if up R T root k p = root then wy R T root k p else _) = _
        rw [if_neg hne, numAt_eq hx]
      have hI' : EndAt R T (up R T root k p) → ∀ j : Nat, j < k + 1 → up R T root j p ≠ root → EndAt R T (up R T root j p) := fun he j hj hn => by
        rcases (by omega : j = k ∨ j < k) with rfl | h
        · exact he
        · exact hI j h hn
      clear hI
      generalize up R T root k p = w at hi hx bad hne hc hI'
      repeat wtm_at "s"
      refine W2.itemL (xs := T) (x := x) (by wtm_at "mem") hi.1 hx (by omega) ?_
      obtain ⟨b1, b2, i1, i2, hxi⟩ := (hk x (List.mem_of_getElem? hx)).sub (H' := (D, MO.list ((wy R T root k p).map .int)) :: H) (fun p hp => List.mem_cons_of_mem _ hp) |>.isi
      rcases hxi with ⟨j, rfl, rfl, rfl⟩ | ⟨hni, hb⟩
      · repeat wtm_at "s"
        refine if_d (fun h => ?_) (fun h => ?_)
        · repeat wtm_at "s"
          refine ⟨_, List.sublist_cons_self _ _, bad fun ⟨k, r, e1, e2, _⟩ => ?_⟩
          rw [hx] at e1; cases e1; omega
        repeat wtm_at "s"
        refine if_d (fun h2 => ?_) (fun h2 => ?_)
        · repeat wtm_at "s"
          refine ⟨_, List.sublist_cons_self _ _, bad fun ⟨k, r, e1, e2, e3, _⟩ => ?_⟩
          rw [hx] at e1; cases e1
          have := get_lt e3
          omega
        obtain ⟨r, hr⟩ : ∃ r, R[j.toNat]? = some r := ⟨R[j.toNat]'(by omega), by simp⟩
        repeat wtm_at "s"
        refine W2.itemM (l := R) (x := r) (by wtm_at "mem") (by omega) hr (by omega) ?_
        repeat wtm_at "s"
        refine if_ne (fun h3 => ?_) (fun h3 => ?_)
        · repeat wtm_at "s"
          refine ⟨_, List.sublist_cons_self _ _, bad fun ⟨k, r', e1, e2, e3, e4⟩ => ?_⟩
          rw [hx] at e1; cases e1
          rw [hr] at e3; cases e3
          exact h3 e4
        · repeat wtm_at "s"
          refine WE.insert0 ?_
          repeat wtm_at "s"
          refine ⟨D, _, rfl, by wtm_at "mem", ?_⟩
          repeat wtm_at "s"
          refine ⟨_, _, by wtm_at "mem", by wtm_at "upd", by simp [sizeLine]; omega, rfl, ?_⟩
          repeat wtm_at "s"
          refine W2.itemM (l := R) (x := r) (by wtm_at "mem") (by omega) hr (by omega) ?_
          repeat wtm_at "s"
          obtain ⟨g1, g2, _⟩ := hok r (List.mem_of_getElem? hr)
          refine ⟨_, _, by rw [hc j r rfl hr], by rw [hw j rfl]; rfl, by rw [hc j r rfl hr]; exact ⟨g1, g2⟩, hI' ⟨j, r, hx, by omega, hr, h3⟩⟩
      · have hq := bad fun ⟨k, r, e1, e2, _⟩ => by rw [hx] at e1; cases e1; exact hni k rfl
        repeat wtm_at "s"
        refine ⟨b1, i1, ?_⟩
        cases b1 with
        | false =>
          repeat wtm_at "s"
          exact ⟨_, List.sublist_cons_self _ _, hq⟩
        | true =>
          repeat wtm_at "s"
          refine ⟨b2, i2, ?_⟩
          have : b2 = true := hb.resolve_left (by simp)
          subst this
          repeat wtm_at "s"
          exact ⟨_, List.sublist_cons_self _ _, hq⟩
    · have hc : up R T root (k + 1) p = up R T root k p := by
        show climb R T root (up R T root k p) = _
        unfold climb
        rw [if_pos hne, hne]
      have hw : wy R T root (k + 1) p = wy R T root k p := by
        show (if up R T root k p = root then wy R T root k p else _) = _
        rw [if_pos hne]
      repeat wtm_at "s"
      refine ⟨_, _, by rw [hc], by rw [hw], by rw [hc]; exact hi, fun j hj hn => ?_⟩
      rcases (by omega : j = k ∨ j < k) with rfl | h
      · exact absurd hne hn
      · exact hI j h hn
  · rintro S H' ⟨o1, o2, rfl, rfl, hi, hI⟩
    rw [rangeL_length, show (m - 0).toNat = m.toNat by simp] at hI hi ⊢
    repeat wtm_at "s"
    refine if_ne (fun hne => ?_) (fun hne => ?_)
    · repeat wtm_at "s"
      exact ⟨_, List.sublist_cons_self _ _, q1 fun e => hne e.2⟩
    · repeat wtm_at "s"
      exact ⟨_, List.Sublist.refl _, q2 ⟨hI, hne⟩ D hD⟩

theorem dps_ways : ∀ (ys : List MV), (∀ y ∈ ys, y = .none ∨ ∃ D g, y = .ref D ∧ (D, MO.list (List.map .int g)) ∈ H) → ∃ dys, Dps H ys dys ∧ PyData.canLayAll0 dys = true ∧ ((dys.any fun y => PyData.eqv y .none) = true ↔ MV.none ∈ ys)
  | [], _ => ⟨[], .nil, rfl, by simp⟩
  | y :: ys, h => by
    obtain ⟨ds, h1, h2, h3⟩ := dps_ways ys fun z hz => h z (List.mem_cons_of_mem _ hz)
    rcases h y List.mem_cons_self with rfl | ⟨D, g, rfl, hm⟩
    · exact ⟨.none :: ds, .cons .none h1, by simp [PyData.canLayAll0, PyData.canLay0, h2], by simp [PyData.eqv]⟩
    · refine ⟨.list (g.map .int) :: ds, .cons (.list hm (dps_ints g)) h1, by simp [PyData.canLayAll0, PyData.canLay0, canLay_ints, h2], ?_⟩
      rw [List.any_cons, Bool.or_eq_true, h3]
      simp [PyData.eqv]
/-- what stands for a place in the list of ways -/
def LW (m root : Int) (R : List Rd) (T : List MV) (H : Hp) (p : Int) (y : MV) : Prop :=
  (¬ WayOk m root R T p ∧ y = .none) ∨ (WayOk m root R T p ∧ ∃ D, y = .ref D ∧ (D, MO.list ((wy R T root m.toNat p).map .int)) ∈ H)
theorem LW.sub {m root : Int} {R : List Rd} {T : List MV} {H H' : Hp} {p : Int} {y : MV} (h : LW m root R T H p y) (hs : ∀ x ∈ H, x ∈ H') : LW m root R T H' p y := by
  rcases h with h | ⟨h1, D, h2, h3⟩
  · exact .inl h
  · exact .inr ⟨h1, D, h2, hs _ h3⟩
theorem sp_ways (X : Fx C) (hA : AOk C A (n + 2)) {m root : Int} {a t : Addr} {R : List Rd} {T : List MV} (hm : 1 ≤ m ∧ m ≤ 12) (hroot : 0 ≤ root ∧ root < m) (hR : R.length ≤ 60) (hok : ∀ r ∈ R, RdOk m r) (hT : (T.length : Int) = m) (ha : (a, MO.list (R.map rdV)) ∈ H) (ht : (t, MO.list T) ∈ H) (hk : ∀ x ∈ T, TK H x)
    (q1 : ¬ Tree m root R T → Q .none H) (q2 : Tree m root R T → ∀ F ys E, (∀ p, 0 ≤ p → p < m → ∃ D, ys[p.toNat]? = some (.ref D) ∧ (D, MO.list ((wy R T root m.toNat p).map .int)) ∈ E ++ H) → Q (.ref F) ((F, .list ys) :: (E ++ H))) : WF C A H "_law_ways" [.int m, .ref a, .int root, .ref t] Q := by
  refine WF.intro X.f_ways hA ["_law_many_here", "_law_roads", "_law_root", "_law_tree"] ["_law_found"] ["range"] ["_law_many_here", "_law_roads", "_law_root", "_law_tree"] [("_law_many_here", some (.int m)), ("_law_roads", some (.ref a)), ("_law_root", some (.int root)), ("_law_tree", some (.ref t)), ("_law_found", none)] (by decide +kernel) rfl (by wtm_at "bind") rfl ?_
  intro env hA' K
  obtain ⟨x, hx⟩ : ∃ x, T[root.toNat]? = some x := ⟨T[root.toNat]'(by omega), by simp⟩
  refine WSs.cons ?_
  repeat wtm_at "s"
  refine W2.itemL (xs := T) (x := x) ht hroot.1 hx (by omega) ?_
  repeat wtm_at "s"
  refine W2.isNotNone (hk x (List.mem_of_getElem? hx)).noRaw ?_
  repeat wtm_at "s"
  refine if_b (fun hn => ?_) (fun hn => ?_)
  · repeat wtm_at "s"
    refine ⟨_, List.Sublist.refl _, q1 fun e => ?_⟩
    have := e.1.rt
    rw [hx] at this; cases this
    cases hn
  have hxn : x = .none := by
    cases x <;> first | rfl | (simp [isNone] at hn)
  subst hxn
  have iff := tree_iff (R := R) hm.1 hroot hok hT hx
  refine WSs.nil (seq_next ?_)
  refine WSs.cons (WS.assignComp (ys := ["_law_many_here", "_law_roads", "_law_root", "_law_tree"]) ["_law_way"] K (.cons (y := "_law_many_here") (by wtm_at "at") (by wtm_at "mem") (.cons (y := "_law_roads") (by wtm_at "at") (by wtm_at "mem") (.cons (y := "_law_root") (by wtm_at "at") (by wtm_at "mem") (.cons (y := "_law_tree") (by wtm_at "at") (by wtm_at "mem") .nil)))) (by decide +kernel) (WI.of ?_))
  refine WE.callT (by wtm_at "mem") X.g_range ?_
  repeat wtm_at "e"
  refine WC.range1 ?_
  refine ItOf.range hA' (by decide) (by decide) (by omega) (by omega) ?_
  refine comp_intro (fun i ys H' => ∃ E, H' = E ++ H ∧ ys.length = i ∧ ∀ (j : Nat) y, ys[j]? = some y → LW m root R T (E ++ H) (j : Int) y) (by rw [rangeL_length]; simp [sizeLine]; omega) ⟨[], rfl, rfl, by simp⟩ ?_ ?_ ?_
  · rintro i ys H' ⟨E, rfl, hg, _⟩
    exact ⟨trivial, by omega⟩
  · rintro i v ys H' cenv hv ⟨E, rfl, hg, hI⟩
    obtain ⟨rfl, hlt⟩ := rangeL_get hv
    rw [Int.zero_add] at hlt ⊢
    refine ct_nil (if_t ?_)
    refine WE.callF (by wtm_at "mem") X.f_way ?_
    repeat wtm_at "e"
    have ext : ∀ (E' : Hp) (y : MV), (∀ x ∈ E, x ∈ E') → LW m root R T (E' ++ H) (i : Int) y → ∀ (j : Nat) z, (ys ++ [y])[j]? = some z → LW m root R T (E' ++ H) (j : Int) z := fun E' y hs hy j z hz => by
      rcases Nat.lt_or_ge j ys.length with h | h
      · rw [List.getElem?_append_left h] at hz
        exact (hI j z hz).sub fun x hx => by
          rcases List.mem_append.mp hx with h | h
          · exact List.mem_append_left _ (hs x h)
          · exact List.mem_append_right _ h
      · rw [List.getElem?_append_right h] at hz
        have hj := get_lt hz
        simp only [List.length_singleton] at hj
        have : j = i := by omega
        subst this
        rw [hg, Nat.sub_self] at hz
        cases hz
        exact hy
    refine sp_law_way X (hA'.le (by omega : n + 1 ≤ n + 1)) (R := R) (T := T) hm hroot (p := (i : Int)) ⟨by omega, hlt⟩ hR hok hT (List.mem_append_right _ ha) (List.mem_append_right _ ht) (fun x hx => (hk x hx).sub fun p hp => List.mem_append_right _ hp) (fun h => ?_) (fun h D hD => ?_)
    · exact ⟨E, rfl, by simp [hg], ext E _ (fun _ h => h) (.inl ⟨h, rfl⟩)⟩
    · exact ⟨(D, _) :: E, rfl, by simp [hg], ext _ _ (fun _ h => List.mem_cons_of_mem _ h) (.inr ⟨h, D, rfl, by simp⟩)⟩
  · rintro ys H' ⟨E, rfl, hg, hI⟩ F hF
    rw [rangeL_length, show (m - 0).toNat = m.toNat by simp] at hg
    refine ⟨_, by wtm_at "put", seq_next ?_⟩
    obtain ⟨dys, d1, d2, d3⟩ := dps_ways (H := (F, MO.list ys) :: (E ++ H)) ys fun y hy => by
      obtain ⟨j, hj⟩ := List.mem_iff_getElem?.mp hy
      rcases hI j y hj with ⟨_, h⟩ | ⟨_, D, h1, h2⟩
      · exact .inl h
      · exact .inr ⟨D, _, h1, List.mem_cons_of_mem _ h2⟩
    repeat wtm_at "s"
    refine W2.inL hA' (by wtm_at "mem") .none d1 rfl d2 ?_
    repeat wtm_at "s"
    refine if_b (fun h => ?_) (fun h => ?_)
    · repeat wtm_at "s"
      refine ⟨H, .cons _ (List.sublist_append_right _ _), q1 fun e => ?_⟩
      obtain ⟨j, hj⟩ := List.mem_iff_getElem?.mp (d3.mp h)
      have hjl := get_lt hj
      rcases hI j _ hj with ⟨h1, _⟩ | ⟨_, D, h1, _⟩
      · exact h1 (iff.mpr e (j : Int) (by omega) (by omega))
      · cases h1
    · have hno : MV.none ∉ ys := fun h' => by rw [d3.mpr h'] at h; cases h
      have hall : ∀ p, 0 ≤ p → p < m → WayOk m root R T p ∧ ∃ D, ys[p.toNat]? = some (.ref D) ∧ (D, MO.list ((wy R T root m.toNat p).map .int)) ∈ E ++ H := fun p h0 h1 => by
        obtain ⟨y, hy⟩ : ∃ y, ys[p.toNat]? = some y := ⟨ys[p.toNat]'(by omega), by simp⟩
        rcases hI _ _ hy with ⟨_, h2⟩ | ⟨h2, D, h3, h4⟩
        · subst h2; exact absurd (List.mem_of_getElem? hy) hno
        · rw [Int.toNat_of_nonneg h0] at h2 h4
          exact ⟨h2, D, by rw [hy, h3], h4⟩
      repeat wtm_at "s"
      exact ⟨_, List.Sublist.refl _, q2 (iff.mp fun p h0 h1 => (hall p h0 h1).1) F ys E fun p h0 h1 => (hall p h0 h1).2⟩
end
set_option maxRecDepth 100000
set_option maxHeartbeats 4000000
open PySem PySem.W PySem.Calls PyProof.Rows
section
variable {C : Cx} {A : Around} {H : Hp} {n : Nat} {Q : MV → Hp → Prop} {KB KR : Addr}
theorem mem_sliceL {α : Type} {lo hi : Option Int} {T : List α} {y : α} (h : y ∈ sliceL lo hi T) : y ∈ T := by
  cases lo <;> cases hi <;> simp only [sliceL] at h
  · exact h
  · exact List.mem_of_mem_take h
  · exact List.mem_of_mem_drop h
  · exact List.mem_of_mem_drop (List.mem_of_mem_take h)
theorem W2.itemAny {value slice : Expr} {a : Addr} {xs : List MV} {k : Int} (hm : (a, MO.list xs) ∈ H) (h0 : 0 ≤ k) (hk : k < xs.length) (hhi : k < 2 ^ 63) (q : ∀ x, x ∈ xs → Q x H) (hs : plainSlice slice := by intro _ _; with_unfolding_all rfl) :
    W2 C A H (subscriptTail value slice) (.ref a) (.int k) Q := by
  have hlt : k.toNat < xs.length := by omega
  exact W2.itemL hm h0 (x := xs[k.toNat]) (by simp) hhi (q _ (List.getElem_mem hlt)) hs
theorem sp_refused (X : Fx C) (L : Cl C KB KR) (hA : AOk C A (n + 7)) {m root p : Int} {a t : Addr} {R : List Rd} {T : List MV} (hm : 1 ≤ m ∧ m ≤ 12) (hroot : 0 ≤ root ∧ root < m) (hp : 0 ≤ p ∧ p < m) (hR : R.length ≤ 60) (hok : ∀ r ∈ R, RdOk m r) (hTl : T.length ≤ 20) (ha : (a, MO.list (R.map rdV)) ∈ H) (ht : (t, MO.list T) ∈ H) (hk : ∀ x ∈ T, TK H x) (hnt : ¬ Tree m root R T) : WFB C A H "_law_refused" [.int m, .ref a, .int root, .ref t, .int p] := by
  refine WFB.intro X.f_refused hA ["_law_many_here", "_law_roads", "_law_root", "_law_tree", "_law_place"] ["e"] ["way", "RoadError", "isinstance", "ValueError"] [] [("_law_many_here", some (.int m)), ("_law_roads", some (.ref a)), ("_law_root", some (.int root)), ("_law_tree", some (.ref t)), ("_law_place", some (.int p)), ("e", none)] (by decide +kernel) rfl (by wtm_at "bind") rfl ?_
  intro env s l hA' K hkd I F nf Fr
  refine tryRefused (X := ¬ Tree m root R T) I F nf Fr (by wtm_at "mem") rfl L.bt L.rt rfl rfl L.up (by wtm_at "mem") X.g_isi (by wtm_at "mem") L.gv (by rw [hkd]; rfl) (fun v => ⟨_, by wtm_at "put", by wtm_at "at"⟩) (WSR.expr (WER.callF (by wtm_at "mem") X.p_way ?_))
  repeat wtm_at "s"
  exact ⟨rfl, sp_way X L hA' hm hroot hp hR hok hTl ha ht hk (fun h => absurd h hnt) fun h => absurd h hnt⟩

abbrev gsL : List Str := ["_law_many", "_law_cell_at", "_law_built", "len", "range", "_law_ways", "list", "way", "BadTree", "_law_refused", "isinstance", "int", "bool"]
abbrev nsL : List Str := ["_law_script", "_law_many_here", "_law_root", "_law_pair", "_law_roads", "_law_tree", "_law_cell", "_law_at", "_law_more", "_law_new", "_law_here", "_law_place", "_law_due", "_law_handed", "_law_found", "_law_one"]
abbrev sgL (ns : List Int) (m root : Int) (pair : MV) (a : Addr) (t : Addr) (c : Int) (at' more new here place due handed found one : Option MV) : Sg :=
  [("_law_script", some (.fl ns)), ("_law_many_here", some (.int m)), ("_law_root", some (.int root)), ("_law_pair", some pair), ("_law_roads", some (.ref a)), ("_law_tree", some (.ref t)), ("_law_cell", some (.int c)), ("_law_at", at'), ("_law_more", more), ("_law_new", new), ("_law_here", here), ("_law_place", place), ("_law_due", due), ("_law_handed", handed), ("_law_found", found), ("_law_one", one)]

theorem law_12 (X : Fx C) {env : Env} (hA' : AOk C (A.deeper env) (n + 7)) {ns : List Int} {m root c p : Int} {pair : MV} {a t a2 t2 hh F D G : Addr} {R : List Rd} {T ys : List MV} {g : List Int} {o1 o2 o3 o4 o5 : Option MV} (hp : 0 ≤ p ∧ p < 12) (ha : (a, MO.list (R.map rdV)) ∈ H) (ht : (t, MO.list T) ∈ H) (ha2 : (a2, MO.list (R.map rdV)) ∈ H) (ht2 : (t2, MO.list T) ∈ H) (hk : ∀ x ∈ T, TK H x)
    (hhh : (hh, MO.list [.ref a2, .ref t2]) ∈ H) (hF : (F, MO.list ys) ∈ H) (hy : ys[p.toNat]? = some (.ref D)) (hD : (D, MO.list (g.map .int)) ∈ H) (hG : (G, MO.list (g.map .int)) ∈ H) :
    WSs C (A.deeper env) env gsL (sgL ns m root pair a t c o1 o2 o3 o4 (some (.int p)) (some (.ref F)) (some (.ref hh)) (some (.ref G)) o5) H ((dd 28).body.drop 12) (Ret fun v _ => v = .bool true) := by
  refine WSs.cons ?_
  repeat wtm_at "s"
  refine W2.isNone rfl ?_
  repeat wtm_at "s"
  refine if_f ?_
  repeat wtm_at "s"
  intro L _
  repeat wtm_at "e"
  refine W2.neSm hA' (k := 2) (xs := [.ref a2, .ref t2]) (ys := [.ref a, .ref t]) (by wtm_at "mem") (by wtm_at "mem") (.cons (.list (by wtm_at "mem") (by wtm_at "mem") (sms_rds R)) (.cons (.list (by wtm_at "mem") (by wtm_at "mem") (sms_self (xs := T) fun x hx => ((hk x hx).sub fun p hp => List.mem_cons_of_mem _ hp).sm)) .nil)) (by decide) ?_
  repeat wtm_at "s"
  refine WS.for (WI.of ?_)
  repeat wtm_at "e"
  refine ItOf.list hA' (xs := g.map .int) (by wtm_at "mem") ?_
  refine for_intro (fun (_ : Nat) (S : Sg) (H' : Hp) => ∃ o5, S = sgL ns m root pair a t c o1 o2 o3 o4 (some (.int p)) (some (.ref F)) (some (.ref hh)) (some (.ref G)) o5 ∧ H' = (L, .list [.ref a, .ref t]) :: H) ⟨_, rfl, rfl⟩ ?_ ?_ ?_
  · rintro i S H' ⟨o5, rfl, rfl⟩
    exact List.mem_cons_of_mem _ hG
  · rintro i x S H' hx ⟨o5, rfl, rfl⟩
    obtain ⟨v, hv, rfl⟩ := get_map hx
    refine WA.name (by wtm_at "put") ?_
    repeat wtm_at "s"
    rfl
  · rintro S H' ⟨o5, rfl, rfl⟩
    repeat wtm_at "s"
    refine W2.itemL (xs := ys) (x := .ref D) (by wtm_at "mem") hp.1 hy (by omega) ?_
    refine W2.eqSame hA' (d := .list (g.map .int)) (.list (by wtm_at "mem") (dps_ints g)) (.list (by wtm_at "mem") (dps_ints g)) (shaped_listI g) ?_
    exact ⟨_, List.Sublist.refl _, rfl⟩

theorem law_10 (X : Fx C) (L : Cl C KB KR) (hd0 : C.hd = none) {env : Env} (hA' : AOk C (A.deeper env) (n + 7)) (hfr : (A.deeper env).frames = some [env]) (K : EnvK env nsL ["_law_roads", "_law_at"]) {ns : List Int} {m root c p : Int} {pair due : MV} {a t : Addr} {R : List Rd} {T : List MV} {o1 o2 o3 o4 : Option MV} (hm : 1 ≤ m ∧ m ≤ 12) (hroot : 0 ≤ root ∧ root < m) (hp : 0 ≤ p ∧ p < m) (hR : R.length ≤ 60) (hok : ∀ r ∈ R, RdOk m r) (hT : (T.length : Int) = m) (ha : (a, MO.list (R.map rdV)) ∈ H) (ht : (t, MO.list T) ∈ H) (hk : ∀ x ∈ T, TK H x)
    (hdue : (¬ Tree m root R T ∧ due = .none) ∨ (Tree m root R T ∧ ∃ F ys D, due = .ref F ∧ (F, MO.list ys) ∈ H ∧ ys[p.toNat]? = some (.ref D) ∧ (D, MO.list ((wy R T root m.toNat p).map .int)) ∈ H)) :
    WSs C (A.deeper env) env gsL (sgL ns m root pair a t c o1 o2 o3 o4 (some (.int p)) (some due) none none none) H ((dd 28).body.drop 10) (Ret fun v _ => v = .bool true) := by
  refine WSs.cons ?_
  repeat wtm_at "e"
  refine WE.callT (by wtm_at "mem") X.g_list ?_
  repeat wtm_at "e"
  refine WC.listL (xs := R.map rdV) ha (by simp [sizeLine]; omega) fun a2 _ => ?_
  repeat wtm_at "e"
  refine WE.callT (by wtm_at "mem") X.g_list ?_
  repeat wtm_at "e"
  refine WC.listL (xs := T) (by wtm_at "mem") (by simp [sizeLine]; omega) fun t2 _ => ?_
  repeat wtm_at "s"
  intro hh _
  refine ⟨_, by wtm_at "put", seq_next ?_⟩
  refine WSs.cons (WS.tryC (K := KB) (X := ¬ Tree m root R T) hd0 K hfr (by wtm_at "mem") rfl L.bt rfl (WSR.assign (WER.callF (by wtm_at "mem") X.p_way ?_)) (fun hnt e h k ok => ?_) (fun S' => ⟨[], .refl _, rfl⟩))
  · repeat wtm_at "s"
    refine W2.itemL (xs := [.ref a2, .ref t2]) (by wtm_at "mem") (by decide) rfl (by decide) ?_
    repeat wtm_at "s"
    refine W2.itemL (xs := [.ref a2, .ref t2]) (by wtm_at "mem") (by decide) rfl (by decide) ?_
    repeat wtm_at "s"
    refine ⟨rfl, sp_way X L (hA'.le (by omega : n + 6 ≤ n + 7)) (R := R) (T := T) hm hroot hp hR hok (by omega) (by wtm_at "mem") (by wtm_at "mem") (fun x hx => (hk x hx).sub fun p hp => by simp [hp]) (fun _ => hd0) fun hT G _ => ?_⟩
    rcases hdue with ⟨h, _⟩ | ⟨_, F, ys, D, rfl, hF, hy, hD⟩
    · exact absurd hT h
    refine ⟨_, by wtm_at "put", seq_next ?_⟩
    exact law_12 X hA' (R := R) (T := T) (ys := ys) (g := wy R T root m.toNat p) (by omega) (by wtm_at "mem") (by wtm_at "mem") (by wtm_at "mem") (by wtm_at "mem") (fun x hx => (hk x hx).sub fun p hp => by simp [hp]) (by wtm_at "mem") (by wtm_at "mem") hy (by wtm_at "mem") (by wtm_at "mem")
  · rcases hdue with ⟨_, rfl⟩ | ⟨h, _⟩
    rotate_left
    · exact absurd h hnt
    have X' : Fx (reC C h k (some (.ref e)) ok) := X.re
    have L' : Cl (reC C h k (some (.ref e)) ok) KB KR := L.re
    have hA'' := hA'.mark (h := h) (k := k) (e := e) (ok := ok)
    refine WSs.cons (WS.notB K hfr (by wtm_at "mem") X'.f_refused ?_ (seq_next ?_))
    · repeat wtm_at "s"
      refine W2.itemL (xs := [.ref a2, .ref t2]) (by wtm_at "mem") (by decide) rfl (by decide) ?_
      repeat wtm_at "s"
      refine W2.itemL (xs := [.ref a2, .ref t2]) (by wtm_at "mem") (by decide) rfl (by decide) ?_
      repeat wtm_at "s"
      exact ⟨rfl, sp_refused X' L' hA'' (R := R) (T := T) hm hroot hp hR hok (by omega) (by wtm_at "mem") (by wtm_at "mem") (fun x hx => (hk x hx).sub fun p hp => by simp [hp]) hnt⟩
    · repeat wtm_at "s"
      refine W2.isNone rfl ?_
      repeat wtm_at "s"
      refine if_t ?_
      repeat wtm_at "s"
      intro L2 _
      repeat wtm_at "s"
      refine W2.eqSm hA'' (k := 2) (xs := [.ref a2, .ref t2]) (ys := [.ref a, .ref t]) (by wtm_at "mem") (by wtm_at "mem") (.cons (.list (by wtm_at "mem") (by wtm_at "mem") (sms_rds R)) (.cons (.list (by wtm_at "mem") (by wtm_at "mem") (sms_self (xs := T) fun x hx => ((hk x hx).sub fun p hp => by simp [hp]).sm)) .nil)) (by decide) ?_
      rfl

theorem law_8 (X : Fx C) (L : Cl C KB KR) (hd0 : C.hd = none) {env : Env} (hA' : AOk C (A.deeper env) (n + 7)) (hfr : (A.deeper env).frames = some [env]) (K : EnvK env nsL ["_law_roads", "_law_at"]) {ns : List Int} {m root c : Int} {pair : MV} {a t : Addr} {R : List Rd} {T : List MV} {o1 o2 o3 o4 : Option MV} (hl : ns.length ≤ 63) (hm : 1 ≤ m ∧ m ≤ 12) (hroot : 0 ≤ root ∧ root < m) (hR : R.length ≤ 60) (hok : ∀ r ∈ R, RdOk m r) (hT : (T.length : Int) = m) (ha : (a, MO.list (R.map rdV)) ∈ H) (ht : (t, MO.list T) ∈ H) (hk : ∀ x ∈ T, TK H x) :
    WSs C (A.deeper env) env gsL (sgL ns m root pair a t c o1 o2 o3 o4 none none none none none) H ((dd 28).body.drop 8) (Ret fun v _ => v = .bool true) := by
  have hC : AOk C (A.deeper env) (n + 6 + 1) := hA'
  refine WSs.cons ?_
  repeat wtm_at "e"
  refine WE.cellC X hC hl (by wtm_at "mem") (by wtm_at "at") (by decide) ?_
  have h0 := Int.emod_nonneg (cellF ns 6) (by omega : m ≠ 0)
  have h1 := Int.emod_lt_of_pos (cellF ns 6) (by omega : 0 < m)
  repeat wtm_at "e"
  generalize cellF ns 6 % m = p at h0 h1
  refine seq_next (WSs.cons ?_)
  repeat wtm_at "e"
  refine WE.callF (by wtm_at "mem") X.f_ways ?_
  repeat wtm_at "e"
  refine sp_ways X (hA'.le (by omega : n + 2 ≤ n + 7)) (R := R) (T := T) hm hroot hR hok hT ha ht hk (fun hnt => ?_) (fun hTr F ys E hE => ?_)
  · refine ⟨_, by wtm_at "put", seq_next ?_⟩
    exact law_10 X L hd0 hA' hfr K hm hroot ⟨h0, h1⟩ hR hok hT ha ht hk (.inl ⟨hnt, rfl⟩)
  · refine ⟨_, by wtm_at "put", seq_next ?_⟩
    obtain ⟨D, e1, e2⟩ := hE p h0 h1
    exact law_10 X L hd0 hA' hfr K hm hroot ⟨h0, h1⟩ hR hok hT (List.mem_cons_of_mem _ (List.mem_append_right _ ha)) (List.mem_cons_of_mem _ (List.mem_append_right _ ht)) (fun x hx => (hk x hx).sub fun p hp => List.mem_cons_of_mem _ (List.mem_append_right _ hp)) (.inr ⟨hTr, F, ys, D, rfl, List.mem_cons_self, e1, List.mem_cons_of_mem _ e2⟩)
end
set_option maxRecDepth 100000
set_option maxHeartbeats 4000000
open PySem PySem.W PySem.Calls PyProof.Rows
section
variable {C : Cx} {A : Around} {H : Hp} {n : Nat} {Q : MV → Hp → Prop} {KB KR : Addr}
theorem law_7 (X : Fx C) (L : Cl C KB KR) (hd0 : C.hd = none) {env : Env} (hA' : AOk C (A.deeper env) (n + 7)) (hfr : (A.deeper env).frames = some [env]) (K : EnvK env nsL ["_law_roads", "_law_at"]) {ns : List Int} {m root c k : Int} {u1 u2 : MV} {a t : Addr} {R : List Rd} {T : List MV} {o1 o2 o3 o4 : Option MV} (hl : ns.length ≤ 63) (hm : 1 ≤ m ∧ m ≤ 12) (hroot : 0 ≤ root ∧ root < m) (hR : R.length ≤ 60) (hok : ∀ r ∈ R, RdOk m r) (hR0 : 2 < m → 0 < R.length) (hT : (T.length : Int) = m) (ha : (a, MO.list (R.map rdV)) ∈ H) (ht : (t, MO.list T) ∈ H) (hk : ∀ x ∈ T, TK H x)
    (hu : ∀ T', ∃ H', Upd H t (.list T') H' ∧ (a, MO.list (R.map rdV)) ∈ H' ∧ (t, MO.list T') ∈ H' ∧ ∀ x ∈ T, TK H' x) :
    WSs C (A.deeper env) env gsL (sgL ns m root (.tup [u1, u2, .int k]) a t c o1 o2 o3 o4 none none none none none) H ((dd 28).body.drop 7) (Ret fun v _ => v = .bool true) := by
  have hC : AOk C (A.deeper env) (n + 6 + 1) := hA'
  refine WSs.cons ?_
  repeat wtm_at "e"
  refine WE.cellC X hC hl (by wtm_at "mem") (by wtm_at "at") (by decide) ?_
  repeat wtm_at "e"
  refine if_eq (fun h => ?_) (fun h => ?_)
  · repeat wtm_at "e"
    refine if_d (fun h4 => ?_) (fun h4 => ?_)
    · repeat wtm_at "e"
      have hR0' := hR0 h4
      have g0 := Int.emod_nonneg (root + 1) (by omega : m ≠ 0)
      have g1 := Int.emod_lt_of_pos (root + 1) (by omega : 0 < m)
      refine WSs.cons (WS.setItem ?_)
      repeat wtm_at "e"
      obtain ⟨H', u, ha', ht', hk'⟩ := hu (T.set ((root + 1) % m).toNat (.int (k % (R.length : Int))))
      refine W3.setL (xs := T) (by wtm_at "mem") g0 (by omega) (by omega) u ?_
      refine seq_next (WSs.nil (seq_next ?_))
      refine law_8 X L hd0 hA' hfr K hl hm hroot hR hok (by simpa using hT) ha' ht' fun y hy => ?_
      rcases List.mem_or_eq_of_mem_set hy with h | rfl
      · exact hk' y h
      · exact .int _
    · repeat wtm_at "e"
      refine seq_next ?_
      exact law_8 X L hd0 hA' hfr K hl hm hroot hR hok hT ha ht hk
  · repeat wtm_at "e"
    refine seq_next ?_
    exact law_8 X L hd0 hA' hfr K hl hm hroot hR hok hT ha ht hk

def ifBody : Option Stmt → List Stmt
  | some (.If _ b _ _) => b
  | _ => []
theorem len_put {T : List MV} {k : Int} {x : MV} (h0 : 0 ≤ k) (h1 : k < T.length) : (sliceL none (some k) T ++ [x] ++ sliceL (some (k + 1)) none T).length = T.length := by
  simp [sliceL]; omega
theorem law_6c (X : Fx C) (L : Cl C KB KR) (hd0 : C.hd = none) {env : Env} (hA' : AOk C (A.deeper env) (n + 7)) (hfr : (A.deeper env).frames = some [env]) (K : EnvK env nsL ["_law_roads", "_law_at"]) {ns : List Int} {m root c k p : Int} {u1 u2 more x : MV} {a t F : Addr} {R : List Rd} {T : List MV} (hl : ns.length ≤ 63) (hm : 1 ≤ m ∧ m ≤ 12) (hroot : 0 ≤ root ∧ root < m) (hp : 0 ≤ p ∧ p < m) (hR : R.length ≤ 60) (hok : ∀ r ∈ R, RdOk m r) (hR0 : 2 < m → 0 < R.length) (hT : (T.length : Int) = m) (ha : (a, MO.list (R.map rdV)) ∈ H) (ht : (t, MO.list T) ∈ H) (hk : ∀ x ∈ T, TK H x) (hx : TK H x) :
    WSs C (A.deeper env) env gsL (sgL ns m root (.tup [u1, u2, .int k]) a t c (some (.int p)) (some more) (some x) (some (.ref F)) none none none none none) H ((ifBody (dd 28).body[6]?).drop 5)
      (Seq (Ret fun v _ => v = .bool true) fun S' H' => WSs C (A.deeper env) env gsL S' H' ((dd 28).body.drop 7) (Ret fun v _ => v = .bool true)) := by
  refine WSs.cons ?_
  repeat wtm_at "s"
  refine ⟨T, .inl ⟨t, rfl, by wtm_at "mem"⟩, by simp [sizeLine]; omega, fun D1 _ => ?_⟩
  repeat wtm_at "s"
  intro D2 _
  refine W2.addL (xs := sliceL none (some p) T) (ys := [x]) (by wtm_at "mem") (by wtm_at "mem") (by simp [sizeLine, sliceL]; omega) fun D3 _ => ?_
  repeat wtm_at "s"
  refine ⟨T, .inl ⟨t, rfl, by wtm_at "mem"⟩, by simp [sizeLine]; omega, fun D4 _ => ?_⟩
  refine W2.addL (xs := sliceL none (some p) T ++ [x]) (ys := sliceL (some (p + 1)) none T) (by wtm_at "mem") (by wtm_at "mem") (by simp [sizeLine, sliceL]; omega) fun D5 _ => ?_
  have hT' := len_put (x := x) hp.1 (by omega : p < (T.length : Int))
  have hk' : ∀ y ∈ sliceL none (some p) T ++ [x] ++ sliceL (some (p + 1)) none T, TK H y := fun y hy => by
    rcases List.mem_append.mp hy with h | h
    · rcases List.mem_append.mp h with h | h
      · exact hk y (mem_sliceL h)
      · rw [List.mem_singleton.mp h]; exact hx
    · exact hk y (mem_sliceL h)
  generalize sliceL none (some p) T ++ [x] ++ sliceL (some (p + 1)) none T = T' at hT' hk'
  refine ⟨_, by wtm_at "put", seq_next (WSs.nil (seq_next ?_))⟩
  refine WSs.sub (law_7 X L hd0 hA' hfr K (H := (D5, .list T') :: H) hl hm hroot hR hok hR0 (by omega) (by wtm_at "mem") (by wtm_at "mem") (fun y hy => (hk' y hy).sub fun p hp => List.mem_cons_of_mem _ hp) fun T2 => ⟨_, .here, by wtm_at "mem", by wtm_at "mem", fun y hy => (hk' y hy).sub fun p hp => List.mem_cons_of_mem _ hp⟩) (.cons_cons _ (.cons _ (.cons _ (.cons _ (.cons _ (.refl _))))))

theorem law_6b (X : Fx C) (L : Cl C KB KR) (hd0 : C.hd = none) {env : Env} (hA' : AOk C (A.deeper env) (n + 7)) (hfr : (A.deeper env).frames = some [env]) (K : EnvK env nsL ["_law_roads", "_law_at"]) {ns : List Int} {m root c k p more : Int} {u1 u2 x : MV} {a t : Addr} {R : List Rd} {T : List MV} (hl : ns.length ≤ 63) (hm : 1 ≤ m ∧ m ≤ 12) (hroot : 0 ≤ root ∧ root < m) (hp : 0 ≤ p ∧ p < m) (hR : R.length ≤ 60) (hok : ∀ r ∈ R, RdOk m r) (hR0 : 2 < m → 0 < R.length) (hT : (T.length : Int) = m) (ha : (a, MO.list (R.map rdV)) ∈ H) (ht : (t, MO.list T) ∈ H) (hk : ∀ x ∈ T, TK H x) (hx : TK H x) :
    WSs C (A.deeper env) env gsL (sgL ns m root (.tup [u1, u2, .int k]) a t c (some (.int p)) (some (.int more)) (some x) none none none none none none) H ((ifBody (dd 28).body[6]?).drop 3)
      (Seq (Ret fun v _ => v = .bool true) fun S' H' => WSs C (A.deeper env) env gsL S' H' ((dd 28).body.drop 7) (Ret fun v _ => v = .bool true)) := by
  have hC : AOk C (A.deeper env) (n + 6 + 1) := hA'
  refine WSs.cons (WS.assignComp (ys := ["_law_roads", "_law_at"]) [] K (.cons (y := "_law_roads") (by wtm_at "at") (by wtm_at "mem") (.cons (y := "_law_at") (by wtm_at "at") (by wtm_at "mem") .nil)) (by decide +kernel) (WI.of ?_))
  refine WE.callT (by wtm_at "mem") X.g_range ?_
  repeat wtm_at "e"
  refine WC.range1 ?_
  refine ItOf.range hA' (by decide) (by decide) (by omega) (by omega) ?_
  refine comp_intro (fun i ys H' => ∃ g : List Int, ys = g.map .int ∧ g.length ≤ i ∧ H' = H) (by rw [rangeL_length]; simp [sizeLine]; omega) ⟨[], rfl, by simp, rfl⟩ ?_ ?_ ?_
  · rintro i ys H' ⟨g, rfl, hg, rfl⟩
    exact ⟨trivial, by simpa using hg⟩
  · rintro i v ys H' cenv hv ⟨g, rfl, hg, rfl⟩
    obtain ⟨rfl, hlt⟩ := rangeL_get hv
    rw [Int.zero_add] at hlt ⊢
    obtain ⟨r, hr⟩ : ∃ r, R[(i : Int).toNat]? = some r := ⟨R[(i : Int).toNat]'(by omega), by simp⟩
    refine ct_one ?_
    repeat wtm_at "e"
    refine W2.itemM (l := R) (x := r) (by wtm_at "mem") (by omega) hr (by omega) ?_
    repeat wtm_at "e"
    refine if_eq (fun h => ?_) (fun h => ?_)
    · repeat wtm_at "e"
      exact ⟨g ++ [(i : Int)], by simp, by simp; omega, rfl⟩
    · exact ⟨g, rfl, by omega, rfl⟩
  · rintro ys H' ⟨g, rfl, hg, rfl⟩ F hF
    rw [rangeL_length] at hg
    refine ⟨_, by wtm_at "put", seq_next ?_⟩
    have fin : ∀ x, TK H' x → WSs C (A.deeper env) env gsL (sgL ns m root (.tup [u1, u2, .int k]) a t c (some (.int p)) (some (.int more)) (some x) (some (.ref F)) none none none none none) ((F, .list (g.map .int)) :: H') ((ifBody (dd 28).body[6]?).drop 5)
      (Seq (Ret fun v _ => v = .bool true) fun S' H' => WSs C (A.deeper env) env gsL S' H' ((dd 28).body.drop 7) (Ret fun v _ => v = .bool true)) := fun x hx => law_6c X L hd0 hA' hfr K hl hm hroot hp hR hok hR0 hT (by wtm_at "mem") (by wtm_at "mem") (fun y hy => (hk y hy).sub fun p hp => List.mem_cons_of_mem _ hp) (hx.sub fun p hp => List.mem_cons_of_mem _ hp)
    refine WSs.cons ?_
    repeat wtm_at "e"
    refine WE.cellC X hC hl (by wtm_at "mem") (by wtm_at "at") (by decide) ?_
    repeat wtm_at "e"
    refine if_eq (fun h1 => ?_) (fun h1 => ?_)
    · repeat wtm_at "e"
      refine if_d (fun h3 => ?_) (fun h3 => ?_)
      · repeat wtm_at "e"
        refine WSs.cons ?_
        repeat wtm_at "e"
        have g0 := Int.emod_nonneg more (by omega : (g.length : Int) ≠ 0)
        have g1 := Int.emod_lt_of_pos more (by omega : 0 < (g.length : Int))
        obtain ⟨y, hy⟩ : ∃ y, g[(more % (g.length : Int)).toNat]? = some y := ⟨g[(more % (g.length : Int)).toNat]'(by omega), by simp⟩
        refine W2.itemM (l := g) (x := y) (by wtm_at "mem") g0 hy (by omega) ?_
        repeat wtm_at "e"
        refine seq_next (WSs.nil (seq_next ?_))
        exact fin _ (.int _)
      · repeat wtm_at "e"
        exact seq_next (fin _ hx)
    · repeat wtm_at "e"
      exact seq_next (fin _ hx)

theorem sp_law (X : Fx C) (L : Cl C KB KR) (hd0 : C.hd = none) (hA : AOk C A (n + 8)) (hfr : A.frames = some []) {ns : List Int} (hl : ns.length ≤ 63) (hb : ∀ x ∈ ns, Bd x) : WF C A [] "law" [.fl ns] fun v _ => v = .bool true := by
  refine WF.intro X.f_law hA ["_law_script"] ["_law_many_here", "_law_root", "_law_pair", "_law_roads", "_law_tree", "_law_cell", "_law_at", "_law_more", "_law_new", "_law_here", "_law_place", "_law_due", "_law_handed", "_law_found", "_law_one"] gsL ["_law_roads", "_law_at"]
    [("_law_script", some (.fl ns)), ("_law_many_here", none), ("_law_root", none), ("_law_pair", none), ("_law_roads", none), ("_law_tree", none), ("_law_cell", none), ("_law_at", none), ("_law_more", none), ("_law_new", none), ("_law_here", none), ("_law_place", none), ("_law_due", none), ("_law_handed", none), ("_law_found", none), ("_law_one", none)] (by decide +kernel) rfl (by wtm_at "bind") rfl ?_
  intro env hA' K
  have hfr' : (A.deeper env).frames = some [env] := by show A.frames.map _ = _; rw [hfr]; rfl
  have hC : AOk C (A.deeper env) (n + 6 + 1) := hA'
  have hm := many_range (cellF ns 0)
  have h0 := Int.emod_nonneg (cellF ns 1) (by omega : manyF (cellF ns 0) ≠ 0)
  have h1 := Int.emod_lt_of_pos (cellF ns 1) (by omega : 0 < manyF (cellF ns 0))
  refine WSs.cons ?_
  repeat wtm_at "s"
  refine WE.callF (by wtm_at "mem") X.f_many ?_
  refine WEs.cons (WE.cellC X hC hl (by wtm_at "mem") (by wtm_at "at") (by decide) ?_)
  repeat wtm_at "s"
  refine sp_many X hC ?_
  repeat wtm_at "s"
  refine WE.cellC X hC hl (by wtm_at "mem") (by wtm_at "at") (by decide) ?_
  generalize manyF (cellF ns 0) = m at hm h0 h1
  repeat wtm_at "s"
  generalize cellF ns 1 % m = root at h0 h1
  refine WE.callF (by wtm_at "mem") X.f_built ?_
  repeat wtm_at "s"
  refine sp_built X (hA'.le (by omega : n + 3 ≤ n + 7)) hl hb hm ⟨h0, h1⟩ fun a t R T k hR hok hR0 hT hTp => ?_
  have hk : ∀ (H : Hp) (x : MV), x ∈ T → TK H x := fun H x hx => by
    rcases hTp x hx with rfl | ⟨i, rfl⟩
    · exact .none
    · exact .int i
  repeat wtm_at "s"
  refine WE.cellC X hC hl (by wtm_at "mem") (by wtm_at "at") (by decide) ?_
  repeat wtm_at "s"
  refine WE.cellC X hC hl (by wtm_at "mem") (by wtm_at "at") (by decide) ?_
  generalize cellF ns 5 = c
  repeat wtm_at "e"
  refine if_eq (fun h => ?_) (fun h => ?_)
  · refine WSs.cons ?_
    repeat wtm_at "s"
    have g0 := Int.emod_nonneg (c / 9) (by omega : m ≠ 0)
    have g1 := Int.emod_lt_of_pos (c / 9) (by omega : 0 < m)
    generalize c / 9 % m = p at g0 g1
    repeat wtm_at "s"
    intro b1 _
    repeat wtm_at "s"
    refine WE.dict0 fun d1 _ => ?_
    repeat wtm_at "s"
    intro c1 _
    repeat wtm_at "s"
    refine WE.neg ?_
    repeat wtm_at "s"
    intro L1 _
    repeat wtm_at "e"
    refine W2.itemAny (by wtm_at "mem") (by omega) (by simp only [List.length_cons, List.length_nil]; omega) (by omega) fun y hy => ?_
    repeat wtm_at "e"
    refine seq_next ?_
    have hy' : TK ((L1, .list [.int (c / 9 / m % ((R.length : Int) + 1)), .none, .bool true, .str "0", .ref b1, .ref d1, .tup [.int 0, .ref c1], .int (-1), .bool false]) :: (c1, .list [.int 1]) :: (d1, .dict []) :: (b1, .list [.int 0]) :: (a, .list (R.map rdV)) :: (t, .list T) :: []) y := by
      revert y
      simp only [List.forall_mem_cons]
      exact ⟨.int _, .none, .bool _, .str _, .list (by wtm_at "mem"), .dict (by wtm_at "mem"), .tup _ _, .int _, .bool _, by simp⟩
    exact law_6b X L hd0 hA' hfr' K hl hm ⟨h0, h1⟩ ⟨g0, g1⟩ hR hok hR0 hT (by wtm_at "mem") (by wtm_at "mem") (hk _) hy'
  · refine WSs.nil (seq_next ?_)
    exact law_7 X L hd0 hA' hfr' K hl hm ⟨h0, h1⟩ hR hok hR0 hT (by wtm_at "mem") (by wtm_at "mem") (hk _) fun T' => ⟨_, by wtm_at "upd", by wtm_at "mem", by wtm_at "mem", hk _⟩
end
set_option maxRecDepth 100000
set_option maxHeartbeats 8000000
open PySem PySem.W PyProof.Rows
theorem weight_mem : ∀ {ns : List Int} {x : Int}, x ∈ ns → Builtin.Int.intBits x ≤ PyData.weightAll (ns.map .int)
  | y :: ns, x, h => by
    simp only [List.map_cons, PyData.weightAll, PyData.weight]
    rcases List.mem_cons.mp h with rfl | h
    · show (if (x == 0) = true then 0 else _) ≤ _
      omega
    · have := weight_mem h
      omega
theorem bd_of_layable {ns : List Int} (h : (PyData.list (ns.map PyData.int)).layable0 = true) : ∀ x ∈ ns, Bd x := fun x hx => by
  have h1 := weight_mem hx
  have h2 : PyData.weight (.list (ns.map .int)) ≤ 2 ^ 20 := of_decide_eq_true (Bool.and_eq_true_iff.mp h).2
  simp only [PyData.weight] at h2
  unfold Bd
  omega
theorem len_of {ns : List Int} (h : ¬ ((63 : Nat) : Int) < (ns.length : Int)) : ns.length ≤ 63 := by omega
/-! the head: the top's run, from where the start-up ends, over a tree of objects, by the library's quick twins -/
def pick (l : List Stmt) : List Nat → List Stmt
  | [] => []
  | i :: r => match l[i]? with
    | some s => s :: pick l r
    | none => pick l r
def topAns (p q : Program) (Xt : Shared → Bool) (h₀ : Heap) (s : Shared) :=
  (staticsOk (importedModules p.main.body) h₀ s.heap && namesBound p s.heap && gensDone s && laidKept h₀ s.heap, openSeen q [] (importedModules p.main.body) Xt true s)
theorem left_boot {p q : Program} {Xt : Shared → Bool} {N : Nat} (e : opening p = plainProg p.main.scope.names) (hN : Nat.ble 600 N = true) (f : ∀ s, fenceModules? p s = some s)
    (size : ∀ P, (boot_heap P).isNs mainGlobals = true)
    (hrun : ∀ (w : World) (os : OsState), (topRun treeTable p w (boot_heap w.params).objs.size ((boot_heap w.params).nsMap mainGlobals "__annotations__") N ⟨boot_heap w.params, #[], boot_drawn, boot_toks, os⟩ (topStub p)).map (topAns p q Xt (boot_heap w.params)) = some (true, openGood q [])) :
    LeftO p q [] Xt (Hook.obs Hook.none) (Hook.val Hook.none) N := fun w => by
  obtain ⟨⟨h, gs, d, k, os⟩, e1, e2⟩ := Option.map_eq_some_iff.mp (boot_open e hN f w)
  obtain ⟨rfl, rfl, rfl, rfl⟩ : h = boot_heap w.params ∧ gs = #[] ∧ d = boot_drawn ∧ k = boot_toks := by simpa using e2
  obtain ⟨s, e3, e4⟩ := Option.map_eq_some_iff.mp (hrun w os)
  obtain ⟨e5, e6⟩ := Prod.mk.inj e4
  have t : topFrom treeTable p w N ⟨boot_heap w.params, #[], boot_drawn, boot_toks, os⟩ = some s := by
    unfold topFrom
    dsimp only
    rw [size w.params, e3]
    show (match staticsOk (importedModules p.main.body) (boot_heap w.params) s.heap && namesBound p s.heap && gensDone s && laidKept (boot_heap w.params) s.heap with | true => _ | false => _) = _
    rw [e5]
  unfold openEnds
  rw [e1]
  show (topFrom treeTable p w N _).map _ = _
  rw [t]
  exact congrArg some (Prod.ext e6 rfl)
def topRunG (st : SharedT → Thread → Option (SharedT × Thread)) (ok : Thread → Bool) : Nat → SharedT → Thread → Option SharedT
  | 0, _, _ => none
  | n + 1, s, t => match through t with
    | true => some s
    | false => match ok t with
      | false => none
      | true => match st s t with
        | some (s', t') => topRunG st ok n s' t'
        | none => none
theorem topRun_of {tb : String → Option Builtin} {p : Program} {w : World} {n₀ : Nat} {ann : Option Value} : ∀ {n : Nat} {s s' : SharedT} {t : Thread}, topRunG (stepT (denote tb) p w) (stepOk n₀ ann) n s t = some s' → topRun tb p w n₀ ann n s.abs t = some s'.abs
  | 0, _, _, _, h => by cases h
  | n + 1, s, s', t, h => by
    unfold topRunG at h
    unfold topRun
    cases he : through t with
    | true => rw [he] at h; cases h; rfl
    | false =>
      rw [he] at h
      cases hk : stepOk n₀ ann t with
      | false => rw [hk] at h; cases h
      | true =>
        rw [hk] at h
        cases hs : stepT (denote tb) p w s t with
        | none => rw [hs] at h; cases h
        | some r => obtain ⟨s₂, t₂⟩ := r; rw [hs] at h; rw [stepT_spec hs]; exact topRun_of h
def treeOf : List Obj → Nat → BT → BT
  | [], _, t => t
  | o :: l, n, t => treeOf l (n + 1) (t.ins n o)
noncomputable def topAnsQ (p q : Program) (Xt : Shared → Bool) (h₀ : Heap) (s : Shared) :=
  (staticsOk (importedModules p.main.body) h₀ s.heap && namesBound p s.heap && gensDone s && laidKept h₀ s.heap, PySem.W.Fast.tw4187177175401517315 q [] (importedModules p.main.body) Xt true s)
theorem left_tree {p q : Program} {Xt : Shared → Bool} {N n : Nat} {life : Life} {ann : Option Value} {T : Params → BT} (e : opening p = plainProg p.main.scope.names) (hN : Nat.ble 600 N = true) (f : ∀ s, fenceModules? p s = some s)
    (size : ∀ P, (boot_heap P).isNs mainGlobals = true) (hs : ∀ P, (boot_heap P).objs.size = n) (ha : ∀ P, (boot_heap P).nsMap mainGlobals "__annotations__" = ann) (hT : ∀ P, absHeap (T P) n life = boot_heap P)
    (hrun : ∀ (w : World) (os : OsState), (topRunG (PySem.W.Fast.tw10156331382660048174 (PySem.W.Fast.tw11892475500146522536 PySem.W.Fast.tw14364793385576792824) p w) (PySem.W.Fast.tw6613529449190102663 n ann) N ⟨T w.params, n, life, #[], boot_drawn, boot_toks, os⟩ (topStub p)).map (fun s => topAnsQ p q Xt (boot_heap w.params) s.abs) = some (true, openGood q [])) :
    LeftO p q [] Xt (Hook.obs Hook.none) (Hook.val Hook.none) N := by
  refine left_boot e hN f size fun w os => ?_
  rw [hs, ha]
  have hr := hrun w os
  unfold topAnsQ at hr
  rw [← PySem.W.Fast.te10156331382660048174, ← PySem.W.Fast.te11892475500146522536, ← PySem.W.Fast.te14364793385576792824, ← PySem.W.Fast.te6613529449190102663, ← PySem.W.Fast.te4187177175401517315] at hr
  obtain ⟨s, e3, e4⟩ := Option.map_eq_some_iff.mp hr
  have := topRun_of e3
  unfold SharedT.abs at this
  dsimp only at this
  rw [hT] at this
  rw [this]
  exact congrArg some e4
def vw : Program := { pw with main := { pw.main with body := pick pw.main.body [1,2,3,4,6,7,8,9,10,11,12,13,15,16,17,18,20,21,22,23,24,25,26,27,28] } }
/-- BadTree's parents hold RoadError -/
def mroHas (o : Obj) (r : Addr) : Bool := match o.data with
  | .cls k => k.mro.tail.contains (.ref r)
  | _ => false
def upOk (s : Shared) : Bool := match s.heap.nsMap mainGlobals "BadTree", s.heap.nsMap mainGlobals "RoadError" with
  | some (.ref b), some (.ref r) => (match s.heap.get? b with
    | some o => mroHas o r
    | none => false)
  | _, _ => false
def UpP (mg : Str → Option Value) (h : Heap) : Prop := ∃ b r o, mg "BadTree" = some (.ref b) ∧ mg "RoadError" = some (.ref r) ∧ h.get? b = some o ∧ mroHas o r = true
theorem up_of {s : Shared} (h : upOk s = true) : UpP (s.heap.nsMap mainGlobals) s.heap := by
  unfold upOk at h
  split at h
  · rename_i b r e1 e2
    split at h
    · rename_i o e3
      exact ⟨b, r, o, e1, e2, e3, h⟩
    · cases h
  · cases h
def xt (s : Shared) : Bool := (xlAt vw [] s && recOk (RowW.records (OpenRow.toRowW (OpenLaw.row PySem.Challenge.rw_uf050005_05))) s) && upOk s
def xp (mg : Str → Option Value) (h : Heap) : Prop := XL vw [] mg h ∧ UpP mg h
theorem xp_keeps : ∀ mg (h h' : Heap), xp mg h → (∀ b o, h.get? b = some o → h'.get? b = some o) → xp mg h' := fun mg h h' x hk => ⟨XL.keeps mg h h' x.1 hk, let ⟨b, r, o, e1, e2, e3, e4⟩ := x.2; ⟨b, r, o, e1, e2, hk _ _ e3, e4⟩⟩
theorem left_w : LeftO (OpenRow.toRowW (OpenLaw.row PySem.Challenge.rw_uf050005_05)).prog vw [] xt (Hook.obs Hook.none) (Hook.val Hook.none) 3574 := by
  refine left_tree (n := 11) (life := { debug := 0, thresholds := [2000, 10, 10] }) (ann := some (.ref 6)) (T := fun P => treeOf (boot_heap P).objs.toList 0 .nil) (by kernel_rfl) (by decide) (fun s => by kernel_rfl) (fun P => by kernel_rfl) (fun P => by kernel_rfl) (fun P => by kernel_rfl) (fun P => by kernel_rfl) ?_
  intro w os
  kernel_rfl
theorem cl_of {prog : Program} {w : World} {s₁ : Shared} {loose : List Str} {mean : ExcName → Option Value} {mg mb : Str → Option Value} (T : Top vw loose mean mg mb s₁.heap) (hX : xp mg s₁.heap) (hv : Gl (mkCx prog w s₁ T) "ValueError" (.type "ValueError")) : ∃ KB KR, Cl (mkCx prog w s₁ T) KB KR := by
  obtain ⟨_, b, r, o, e1, e2, e3, e4⟩ := hX
  obtain ⟨KB, OB, _⟩ := T.ownAt (x := "BadTree") (newId := "ValueError.__new__") (bm := bmV) (by kernel_rfl)
  obtain ⟨KR, OR, _⟩ := T.ownAt (x := "RoadError") (newId := "ValueError.__new__") (bm := bmV) (by kernel_rfl)
  have h1 := OB.bound
  have h2 := OR.bound
  rw [e1] at h1; cases h1
  rw [e2] at h2; cases h2
  refine ⟨b, r, OB.own, OR.own, fun bm N nm q bs hdct sn sub ab col dd k0 k1 k2 k3 k5 e => ?_, hv⟩
  have e' := e3.symm.trans e
  cases e'
  exact e4
end Mine
open PySem PySem.W PyProof.Rows Mine
theorem PySem.Challenge.cw_uf050005_05_holds : PySem.Challenge.rw_uf050005_05.Holds := by
  w_on; o_law
  refine holds_open (q := vw) (loose := []) (Xt := xt) (XP := xp) (Yf := Hook.obs Hook.none) (Ya := Hook.val Hook.none) (YP := Hook.says Hook.none) (N := 3574) ?hl (Hook.of Hook.none) (Hook.keeps Hook.none) (fun s e => ⟨xl_of s (Bool.and_eq_true_iff.mp (Bool.and_eq_true_iff.mp e).1).1, up_of (Bool.and_eq_true_iff.mp e).2⟩) xp_keeps (by rfl) (by rfl) (by rfl) (fun s e => recFacts_of (Bool.and_eq_true_iff.mp (Bool.and_eq_true_iff.mp e).1).2) (by rfl) (by first | assumption | decide +kernel) (by decide +kernel) ⟨rfl, rfl, rfl, rfl, rfl, by decide +kernel⟩ ?hw ?hc
  case hw => w_witness2
  case hl => exact left_w
  intro w s₀ s₁ mg mb G y fa o pm cd doc dV kV ho hd hcd hD hmg hg args vals as hpre hlay hrd hwl hlo
  clear hd hcd hD y
  have hX := G.X
  refine Ground.open G ?_
  intro T B D TE TW
  wrow_args hpre hlay hrd hwl hlo
  refine law_end (T := T) (by assumption) (by assumption) hg hmg ?_
  obtain ⟨KB, KR, L⟩ := cl_of (prog := (OpenLaw.prog PySem.Challenge.rw_uf050005_05)) (w := w) T hX (gl_of T (by decide +kernel) (by kernel_rfl))
  refine sp_law (n := 0) ⟨fn_of T (d := dd 9) (List.mem_of_getElem? (i := 0) (by kernel_rfl)) (by decide +kernel),
    fn_of T (d := dd 10) (List.mem_of_getElem? (i := 1) (by kernel_rfl)) (by decide +kernel),
    fn_of T (d := dd 11) (List.mem_of_getElem? (i := 2) (by kernel_rfl)) (by decide +kernel),
    fn_of T (d := dd 12) (List.mem_of_getElem? (i := 3) (by kernel_rfl)) (by decide +kernel),
    fn_of T (d := dd 13) (List.mem_of_getElem? (i := 4) (by kernel_rfl)) (by decide +kernel),
    fn_of T (d := dd 15) (List.mem_of_getElem? (i := 5) (by kernel_rfl)) (by decide +kernel),
    fn_of T (d := dd 16) (List.mem_of_getElem? (i := 6) (by kernel_rfl)) (by decide +kernel),
    fn_of T (d := dd 17) (List.mem_of_getElem? (i := 7) (by kernel_rfl)) (by decide +kernel),
    fn_of T (d := dd 18) (List.mem_of_getElem? (i := 8) (by kernel_rfl)) (by decide +kernel),
    fn_of T (d := dd 20) (List.mem_of_getElem? (i := 9) (by kernel_rfl)) (by decide +kernel),
    fn_of T (d := dd 21) (List.mem_of_getElem? (i := 10) (by kernel_rfl)) (by decide +kernel),
    fn_of T (d := dd 22) (List.mem_of_getElem? (i := 11) (by kernel_rfl)) (by decide +kernel),
    fn_of T (d := dd 23) (List.mem_of_getElem? (i := 12) (by kernel_rfl)) (by decide +kernel),
    fn_of T (d := dd 24) (List.mem_of_getElem? (i := 13) (by kernel_rfl)) (by decide +kernel),
    fn_of T (d := dd 25) (List.mem_of_getElem? (i := 14) (by kernel_rfl)) (by decide +kernel),
    fn_of T (d := dd 26) (List.mem_of_getElem? (i := 15) (by kernel_rfl)) (by decide +kernel),
    fn_of T (d := dd 27) (List.mem_of_getElem? (i := 16) (by kernel_rfl)) (by decide +kernel),
    fn_of T (d := dd 28) (List.mem_of_getElem? (i := 17) (by kernel_rfl)) (by decide +kernel),
    const_of T (by kernel_rfl),
    const_of T (by kernel_rfl),
    const_of T (by kernel_rfl),
    gl_of T (by decide +kernel) (by kernel_rfl),
    gl_of T (by decide +kernel) (by kernel_rfl),
    gl_of T (by decide +kernel) (by kernel_rfl),
    gl_of T (by decide +kernel) (by kernel_rfl),
    gl_of T (by decide +kernel) (by kernel_rfl),
    gl_of T (by decide +kernel) (by kernel_rfl),
    gl_of T (by decide +kernel) (by kernel_rfl),
    gl_of T (by decide +kernel) (by kernel_rfl)⟩ L rfl ((aok_caller rfl).le (by decide)) rfl (len_of (by assumption)) (bd_of_layable (by assumption))
