import PyProof.Rows.All
import Wide.All
import OpenK.AllK
import Wide.FinOn
import PyProof.CompObj
import PyProof.Rows.TupIn
import PyProof.PureInt
import PyProof.Cells
import PyProof.CompFree
import PyProof.RangeFor
import PyProof.TupleKey
import PyProof.DictKinds
import PyProof.Rows.StrTemp
import PyProof.Rows.Chain
import PyProof.Rows.Nodes
import PyProof.Rows.Globals
import PyProof.Rows.RuleB_mul
import PyProof.Rows.RuleB_mod
import PyProof.Rows.RuleB_floordiv
import PyProof.Rows.RuleB_pow
import PyProof.AutoIntOps
import PyProof.P3In
import PyProof.EqLayable
import PyProof.IsiPairs
import PyProof.IsiHeapPairs
import PyProof.IsRules
import PyProof.ListCopy
import PyProof.TupleOfSeq
import PyProof.TupleCall
import PyProof.Rows.News
import PyProof.Rows.TupReads
import PyProof.Rows.IntRules
import PyProof.Rows.RuleC_int
import PyProof.ForAny
import PyProof.EnumFor
import PyProof.EnumMake
import PyProof.EnumStmt
import PyProof.TupleIter
import PyProof.Dict
import PyProof.Rows.TupAssign
import PyProof.StrBlock
import PyProof.WalksMore
import PyProof.Rows.SeqMore
import PyProof.FactsAll.list_4
import PyProof.FactsAll.list_3
import PyProof.Rows.TupAdd
import KE.KDictList
import PyProof.DictStraight
import PyProof.Rows.SortWalk
import PyProof.ListIndex
import PyProof.IsiNone
import PyProof.NeKinds
import PyProof.EqKinds
import KE.LcSums
import PyProof.WalkInts
import PyProof.MeetsSeq
import PyProof.Rows.SortRev
import PySem.Challenge.RW_uf050005_07
set_option Elab.async false
set_option linter.all false
namespace Mine
open PySem PySem.Calls PyProof.Rows

/-! abstract values -/
inductive MV where
  | none
  | bool (b : Bool)
  | int (i : Int)
  | str (s : Str)
  | tup (l : List MV)
  | ref (a : Addr)
  | fl (l : List Int)
  | rng (a b : Int)
  | raw (v : Value)

mutual
def VR (b h : Heap) : MV → Value → Prop
  | .none, v => v = .none
  | .bool x, v => v = .bool x
  | .int i, v => ∃ t, v = .int i t
  | .str x, v => ∃ t, v = .str x t
  | .ref a, v => v = .ref a
  | .raw u, v => v = u
  | .fl ns, v => ∃ a vs, v = .ref a ∧ b.IsList a vs.toArray ∧ IntsAre vs ns
  | .rng lo hi, v => ∃ r t u w, v = .ref r ∧ IsRange h r lo hi 1 t u w
  | .tup xs, v => ∃ a vs, v = .ref a ∧ h.IsTuple a vs.toArray ∧ VRs b h xs vs
def VRs (b h : Heap) : List MV → List Value → Prop
  | [], vs => vs = []
  | x :: xs, vs => ∃ v r, vs = v :: r ∧ VR b h x v ∧ VRs b h xs r
end

def Imm (o : Obj) : Prop := (o.cls = .type "tuple" ∧ ∃ items n, o.data = .seq items n) ∨ (o.cls = .type "range" ∧ ∃ vs, o.data = .fields vs)
def TupKeep (h h' : Heap) : Prop := ∀ a o, h.get? a = some o → Imm o → h'.get? a = some o
theorem TupKeep.trans {h h' h'' : Heap} (p : TupKeep h h') (q : TupKeep h' h'') : TupKeep h h'' := fun a o e c => q a o (p a o e c) c
theorem TupKeep.of_keeps {h h' : Heap} (p : ∀ b o, h.get? b = some o → h'.get? b = some o) : TupKeep h h' := fun a o e _ => p a o e

mutual
theorem VR.keep {b h h' : Heap} (k : TupKeep h h') : ∀ (x : MV) {v : Value}, VR b h x v → VR b h' x v
  | .none, _, r => r
  | .bool _, _, r => r
  | .int _, _, r => r
  | .str _, _, r => r
  | .ref _, _, r => r
  | .raw _, _, r => r
  | .fl _, _, r => r
  | .rng _ _, v, r => by
    unfold VR at r ⊢
    obtain ⟨a, t, u, w, rfl, e⟩ := r
    exact ⟨a, t, u, w, rfl, k _ _ e (.inr ⟨rfl, _, rfl⟩)⟩
  | .tup xs, v, r => by
    unfold VR at r ⊢
    obtain ⟨a, vs, rfl, ⟨o, ho, hc, n, hd⟩, hr⟩ := r
    exact ⟨a, vs, rfl, ⟨o, k a o ho (.inl ⟨hc, _, n, hd⟩), hc, n, hd⟩, VRs.keep k xs hr⟩
theorem VRs.keep {b h h' : Heap} (k : TupKeep h h') : ∀ (xs : List MV) {vs : List Value}, VRs b h xs vs → VRs b h' xs vs
  | [], _, r => r
  | x :: xs, vs, r => by
    unfold VRs at r ⊢
    obtain ⟨v, t, rfl, h1, h2⟩ := r
    exact ⟨v, t, rfl, VR.keep k x h1, VRs.keep k xs h2⟩
end

theorem VRs.length {b h : Heap} : ∀ {xs : List MV} {vs : List Value}, VRs b h xs vs → vs.length = xs.length
  | [], _, r => by unfold VRs at r; rw [r]; rfl
  | x :: xs, _, r => by
    unfold VRs at r
    obtain ⟨v, t, rfl, h1, h2⟩ := r
    rw [List.length_cons, List.length_cons, VRs.length h2]
theorem VRs.get {b h : Heap} : ∀ {xs : List MV} {vs : List Value}, VRs b h xs vs → ∀ {i : Nat} {x : MV}, xs[i]? = some x → ∃ v, vs[i]? = some v ∧ VR b h x v
  | [], _, _, i, x, e => by simp at e
  | y :: xs, _, r, i, x, e => by
    unfold VRs at r
    obtain ⟨v, t, rfl, h1, h2⟩ := r
    cases i with
    | zero => simp at e; subst e; exact ⟨v, rfl, h1⟩
    | succ i => simp at e; obtain ⟨u, hu, hv⟩ := VRs.get h2 e; exact ⟨u, by simpa using hu, hv⟩
theorem VRs.append {b h : Heap} : ∀ {xs : List MV} {vs : List Value} {ys : List MV} {us : List Value}, VRs b h xs vs → VRs b h ys us → VRs b h (xs ++ ys) (vs ++ us)
  | [], _, _, _, r, q => by unfold VRs at r; subst r; exact q
  | x :: xs, _, _, _, r, q => by
    unfold VRs at r
    obtain ⟨v, t, rfl, h1, h2⟩ := r
    show VRs b h (x :: (xs ++ _)) _
    unfold VRs
    exact ⟨v, _, rfl, h1, VRs.append h2 q⟩
theorem VRs.one {b h : Heap} {x : MV} {v : Value} (r : VR b h x v) : VRs b h [x] [v] := by
  unfold VRs VRs; exact ⟨v, [], rfl, r, rfl⟩
theorem VRs.nil {b h : Heap} : VRs b h [] [] := by unfold VRs; rfl
theorem VRs.cons {b h : Heap} {x : MV} {v : Value} {xs : List MV} {vs : List Value} (r : VR b h x v) (rs : VRs b h xs vs) : VRs b h (x :: xs) (v :: vs) := by
  unfold VRs; exact ⟨v, vs, rfl, r, rs⟩
theorem VRs.inv {b h : Heap} {x : MV} {xs : List MV} {vs : List Value} (r : VRs b h (x :: xs) vs) : ∃ v t, vs = v :: t ∧ VR b h x v ∧ VRs b h xs t := by
  unfold VRs at r; exact r
theorem VRs.inv0 {b h : Heap} {vs : List Value} (r : VRs b h [] vs) : vs = [] := by
  unfold VRs at r; exact r
theorem VRs.take {b h : Heap} : ∀ {xs : List MV} {vs : List Value}, VRs b h xs vs → ∀ n, VRs b h (xs.take n) (vs.take n)
  | [], _, r, n => by unfold VRs at r; subst r; simpa using VRs.nil
  | y :: xs, _, r, n => by
    obtain ⟨u, t, rfl, h1, h2⟩ := r.inv
    cases n with
    | zero => exact VRs.nil
    | succ n => exact .cons h1 (VRs.take h2 n)
theorem VRs.drop {b h : Heap} : ∀ {xs : List MV} {vs : List Value}, VRs b h xs vs → ∀ n, VRs b h (xs.drop n) (vs.drop n)
  | [], _, r, n => by unfold VRs at r; subst r; simpa using VRs.nil
  | y :: xs, _, r, n => by
    obtain ⟨u, t, rfl, h1, h2⟩ := r.inv
    cases n with
    | zero => exact .cons h1 h2
    | succ n => exact VRs.drop h2 n
/-! the ledger -/
inductive MO where
  | list (xs : List MV)
  | dict (es : List (MV × MV))
abbrev Hp := List (Addr × MO)

/-- what a key's hash is -/
def HashOk : MV → Int → Prop
  | .int k, hs => hs = hashInt k
  | .tup l, hs => ∀ (prog : Program) (w : World) (ks : List Int), l = ks.map .int → hs = tupleKeyHash (intKind prog w) ks
  | _, _ => True
def DRs (b h : Heap) : List (MV × MV) → List DictEntry → Prop
  | [], ds => ds = []
  | p :: ps, ds => ∃ d r, ds = d :: r ∧ VR b h p.1 d.key ∧ VR b h p.2 d.val ∧ HashOk p.1 d.hash ∧ DRs b h ps r
theorem DRs.keep {b h h' : Heap} (k : TupKeep h h') : ∀ (xs : List (MV × MV)) {vs : List DictEntry}, DRs b h xs vs → DRs b h' xs vs
  | [], _, r => r
  | x :: xs, vs, r => by
    unfold DRs at r ⊢
    obtain ⟨v, t, rfl, h1, h2, h3, h4⟩ := r
    exact ⟨v, t, rfl, h1.keep k, h2.keep k, h3, DRs.keep k xs h4⟩

def OR (b h : Heap) (a : Addr) : MO → Prop
  | .list xs => ∃ vs n, h.get? a = some { cls := .type "list", data := .seq vs.toArray n } ∧ VRs b h xs vs
  | .dict es => (a == sysModules) = false ∧ ∃ ds n, h.get? a = some { cls := .type "dict", data := .dict ds.toArray n } ∧ DRs b h es ds

structure Cx where
  prog : Program
  w : World
  h₀ : Heap
  gens : Array GenState
  os : OsState
  mg : Str → Option Value
  mb : Str → Option Value
  hg : h₀.Ns mainGlobals mg
  hb : h₀.Ns builtinsNs mb
  hbl : ∀ x : Str, x ≠ "__name__" → mb x = bootBuiltins x
  hlim : h₀.NoLimit

structure Inv (C : Cx) (H : Hp) (s : Shared) : Prop where
  base : ∀ b o, C.h₀.get? b = some o → s.heap.get? b = some o
  objs : ∀ p ∈ H, OR C.h₀ s.heap p.1 p.2
  new : ∀ p ∈ H, C.h₀.get? p.1 = none
  nodup : (H.map (·.1)).Nodup
  gens : s.gens = C.gens
  os : s.os = C.os

def dom (H : Hp) (a : Addr) : Prop := a ∈ H.map (·.1)

def Kp (h : Heap) (H : Hp) (h' : Heap) (H' : Hp) : Prop :=
  ∀ b o, h.get? b = some o → ¬ dom H b → h'.get? b = some o ∧ ¬ dom H' b
theorem Kp.refl (h : Heap) (H : Hp) : Kp h H h H := fun _ _ e n => ⟨e, n⟩
theorem Kp.trans {h h' h'' : Heap} {H H' H'' : Hp} (p : Kp h H h' H') (q : Kp h' H' h'' H'') : Kp h H h'' H'' :=
  fun b o e n => let ⟨e', n'⟩ := p b o e n; q b o e' n'

theorem OR.exists {b h : Heap} {a : Addr} {o : MO} (x : OR b h a o) : ∃ ob, h.get? a = some ob ∧ ¬ Imm ob := by
  cases o with
  | list xs => obtain ⟨vs, n, e, _⟩ := x; exact ⟨_, e, by simp [Imm]⟩
  | dict es => obtain ⟨_, vs, n, e, _⟩ := x; exact ⟨_, e, by simp [Imm]⟩
theorem OR.keep {b h h' : Heap} {a : Addr} {o : MO} (x : OR b h a o) (k : TupKeep h h') (e : ∀ ob, h.get? a = some ob → h'.get? a = some ob) : OR b h' a o := by
  cases o with
  | list xs => obtain ⟨vs, n, e1, r⟩ := x; exact ⟨vs, n, e _ e1, r.keep k⟩
  | dict es => obtain ⟨hs, vs, n, e1, r⟩ := x; exact ⟨hs, vs, n, e _ e1, r.keep k⟩
theorem Inv.noTup {C : Cx} {H : Hp} {s : Shared} (I : Inv C H s) {a : Addr} {o : Obj} (e : s.heap.get? a = some o) (c : Imm o) : ¬ dom H a := by
  intro hd
  obtain ⟨p, hp, rfl⟩ := List.mem_map.mp hd
  obtain ⟨ob, e', n⟩ := (I.objs p hp).exists
  rw [e] at e'; cases e'; exact n c
theorem Inv.tupKeep {C : Cx} {H H' : Hp} {s : Shared} {h' : Heap} (I : Inv C H s) (k : Kp s.heap H h' H') : TupKeep s.heap h' :=
  fun a o e c => (k a o e (I.noTup e c)).1
theorem Inv.lt {C : Cx} {H : Hp} {s : Shared} (I : Inv C H s) {a : Addr} (d : dom H a) : a < s.heap.objs.size := by
  obtain ⟨p, hp, rfl⟩ := List.mem_map.mp d
  obtain ⟨ob, e', _⟩ := (I.objs p hp).exists
  exact Heap.lt_size e'
theorem Inv.fresh {C : Cx} {H : Hp} {s : Shared} (I : Inv C H s) : ¬ dom H s.heap.objs.size := fun d => Nat.lt_irrefl _ (I.lt d)
/-- a state with the same heap -/
theorem Inv.toks {C : Cx} {H : Hp} {s : Shared} (I : Inv C H s) (t : Nat) : Inv C H { s with toks := t } := ⟨I.base, I.objs, I.new, I.nodup, I.gens, I.os⟩
/-- the heap grows, nothing else -/
theorem Inv.grow {C : Cx} {H : Hp} {s : Shared} (I : Inv C H s) {h' : Heap} (k : ∀ b o, s.heap.get? b = some o → h'.get? b = some o) (t : Nat) : Inv C H { s with heap := h', toks := t } :=
  ⟨fun b o e => k b o (I.base b o e), fun p hp => (I.objs p hp).keep (.of_keeps k) fun _ e => k _ _ e, I.new, I.nodup, I.gens, I.os⟩
theorem Kp.of_keeps {h h' : Heap} {H : Hp} (k : ∀ b o, h.get? b = some o → h'.get? b = some o) : Kp h H h' H := fun b o e n => ⟨k b o e, n⟩
theorem Inv.sub {C : Cx} {H H' : Hp} {s : Shared} (I : Inv C H s) (hs : H'.Sublist H) : Inv C H' s :=
  ⟨I.base, fun p hp => I.objs p (hs.subset hp), fun p hp => I.new p (hs.subset hp), (hs.map (·.1)).nodup I.nodup, I.gens, I.os⟩
theorem Kp.sub {h h' : Heap} {H H' H'' : Hp} (k : Kp h H h' H') (hs : H''.Sublist H') : Kp h H h' H'' :=
  fun b o e n => ⟨(k b o e n).1, fun d => (k b o e n).2 ((hs.map (·.1)).subset d)⟩

/-! frames: an ordered list of names and values -/
abbrev Sg := List (Str × Option MV)
inductive At : Sg → Str → MV → Prop
  | here {x v r} : At ((x, some v) :: r) x v
  | there {p r x v} : At r x v → At (p :: r) x v
inductive Put : Sg → Str → MV → Sg → Prop
  | here {x o r v} : Put ((x, o) :: r) x v ((x, some v) :: r)
  | there {p r x v r'} : Put r x v r' → Put (p :: r) x v (p :: r')
def names (S : Sg) : List Str := S.map (·.1)
theorem At.mem {S : Sg} {x : Str} {v : MV} (h : At S x v) : x ∈ names S := by
  induction h with
  | here => exact List.mem_cons_self
  | there _ ih => exact List.mem_cons_of_mem _ ih
theorem Put.names {S S' : Sg} {x : Str} {v : MV} (h : Put S x v S') : names S' = names S := by
  induction h with
  | here => rfl
  | there _ ih => simp only [Mine.names, List.map_cons] at ih ⊢; rw [ih]
theorem Put.mem {S S' : Sg} {x : Str} {v : MV} (h : Put S x v S') : x ∈ Mine.names S := by
  induction h with
  | here => exact List.mem_cons_self
  | there _ ih => exact List.mem_cons_of_mem _ ih
theorem Put.at {S S' : Sg} {x : Str} {v : MV} (h : Put S x v S') (nd : (Mine.names S).Nodup) {y : Str} {u : MV} (a : At S' y u) : (y = x ∧ u = v) ∨ (y ≠ x ∧ At S y u) := by
  induction h with
  | @here x o r v =>
    have hx : x ∉ Mine.names r := (List.nodup_cons.mp nd).1
    cases a with
    | here => exact .inl ⟨rfl, rfl⟩
    | there a => exact .inr ⟨fun e => hx (e ▸ a.mem), .there a⟩
  | @there p r x v r' hp ih =>
    have hx := List.nodup_cons.mp nd
    cases a with
    | @here _ _ _ => exact .inr ⟨fun e => hx.1 (e ▸ hp.mem), .here⟩
    | there a =>
      rcases ih hx.2 a with h | h
      · exact .inl h
      · exact .inr ⟨h.1, .there h.2⟩

structure EnvOk (env : Env) (ns gs : List Str) : Prop where
  kind : env.scope.kind = .function
  glob : env.globals = mainGlobals
  blt : env.builtins = builtinsNs
  nodup : ns.Nodup
  nodbg : ∀ x ∈ ns, (x == ("__debug__" : Str)) = false
  vars : ∀ x ∈ ns, env.kindOf x = some .local ∨ ((env.kindOf x = some .cell ∨ env.kindOf x = some .free ∧ (x == ("__classdict__" : Str)) = false) ∧ ∃ c, env.cells.lookup x = some c)
  gl : ∀ x ∈ gs, env.kindOf x = some .globalImplicit
  apart : env.cells.Pairwise fun x y => x.2 ≠ y.2
  cfun : ∀ n c c', (n, c) ∈ env.cells → (n, c') ∈ env.cells → c = c'
  off : ∀ n c, (n, c) ∈ env.cells → env.locals ≠ c

structure Fm (C : Cx) (env : Env) (gs : List Str) (S : Sg) (H : Hp) (h : Heap) : Prop where
  ok : EnvOk env (names S) gs
  ns : ∃ mr, h.Ns env.locals mr ∧ ∀ x v, At S x v → env.kindOf x = some .local → ∃ u, mr x = some u ∧ VR C.h₀ h v u
  nl : ¬ dom H env.locals
  nl0 : C.h₀.get? env.locals = none
  cell : ∀ n c, (n, c) ∈ env.cells → ∃ vo, h.IsCell c vo ∧ ¬ dom H c ∧ C.h₀.get? c = none ∧ ∀ v, At S n v → env.kindOf n ≠ some .local → ∃ u, vo = some u ∧ VR C.h₀ h v u

theorem Fm.keep {C : Cx} {env : Env} {gs : List Str} {S : Sg} {H H' : Hp} {s : Shared} {h' : Heap} (F : Fm C env gs S H s.heap) (I : Inv C H s) (k : Kp s.heap H h' H') : Fm C env gs S H' h' := by
  obtain ⟨ok, ⟨mr, hn, hv⟩, nl, nl0, hc⟩ := F
  have tk := I.tupKeep k
  obtain ⟨oL, es, ep, hL, r⟩ := hn
  refine ⟨ok, ⟨mr, ⟨oL, es, ep, (k _ _ hL nl).1, r⟩, fun x v a e => ?_⟩, (k _ _ hL nl).2, nl0, fun n c e => ?_⟩
  · obtain ⟨u, h1, h2⟩ := hv x v a e; exact ⟨u, h1, h2.keep tk⟩
  · obtain ⟨vo, ⟨oc, ho, hd⟩, nd, n0, hv⟩ := hc n c e
    refine ⟨vo, ⟨oc, (k _ _ ho nd).1, hd⟩, (k _ _ ho nd).2, n0, fun v a e => ?_⟩
    obtain ⟨u, h1, h2⟩ := hv v a e; exact ⟨u, h1, h2.keep tk⟩

/-! rooms -/
structure AOk (A : Around) (n : Nat) : Prop where
  handled : A.handled = none
  depth : A.depth + n < recursionLimit
  units : A.units + 3 * n + 100 < cLine
theorem AOk.deeper {A : Around} {n : Nat} (a : AOk A (n + 1)) (env : Env) : AOk (A.deeper env) n :=
  ⟨a.handled, by have := a.depth; show A.depth + 1 + n < _; omega, by have := a.units; show A.units + 3 + 3 * n + 100 < _; omega⟩
theorem AOk.le {A : Around} {n k : Nat} (a : AOk A n) (h : k ≤ n) : AOk A k := ⟨a.handled, by have := a.depth; omega, by have := a.units; omega⟩

def NoE : Value → Shared → Prop := fun _ _ => False

/-! judgements -/
def EP (C : Cx) (H : Hp) (s : Shared) (Q : MV → Hp → Prop) : Value → Shared → Prop :=
  fun v s' => ∃ x H', VR C.h₀ s'.heap x v ∧ Inv C H' s' ∧ Kp s.heap H s'.heap H' ∧ Q x H'
def BP (C : Cx) (H : Hp) (s : Shared) (Q : Bool → Hp → Prop) : Bool → Shared → Prop :=
  fun b s' => ∃ H', Inv C H' s' ∧ Kp s.heap H s'.heap H' ∧ Q b H'
def LP (C : Cx) (H : Hp) (s : Shared) (Q : List MV → Hp → Prop) : List Value → Shared → Prop :=
  fun vs s' => ∃ xs H', VRs C.h₀ s'.heap xs vs ∧ Inv C H' s' ∧ Kp s.heap H s'.heap H' ∧ Q xs H'
theorem EP.from {C : Cx} {H H₁ : Hp} {s s₁ : Shared} {Q : MV → Hp → Prop} {v : Value} {s' : Shared} (k : Kp s.heap H s₁.heap H₁) (h : EP C H₁ s₁ Q v s') : EP C H s Q v s' :=
  let ⟨x, H', r, I, k', q⟩ := h; ⟨x, H', r, I, k.trans k', q⟩
theorem BP.from {C : Cx} {H H₁ : Hp} {s s₁ : Shared} {Q : Bool → Hp → Prop} {v : Bool} {s' : Shared} (k : Kp s.heap H s₁.heap H₁) (h : BP C H₁ s₁ Q v s') : BP C H s Q v s' :=
  let ⟨H', I, k', q⟩ := h; ⟨H', I, k.trans k', q⟩
abbrev Md (C : Cx) : Model := model C.prog C.w

/-- an expression in a frame -/
def WE (C : Cx) (A : Around) (env : Env) (gs : List Str) (S : Sg) (H : Hp) (e : Expr) (Q : MV → Hp → Prop) : Prop :=
  ∀ s, Inv C H s → Fm C env gs S H s.heap → wpAny (Md C) A (eval e env) (EP C H s Q) NoE s
/-- several, in order -/
def WEs (C : Cx) (A : Around) (env : Env) (gs : List Str) (S : Sg) (H : Hp) (es : List Expr) (Q : List MV → Hp → Prop) : Prop :=
  ∀ s pos, Inv C H s → Fm C env gs S H s.heap → wpAny (Md C) A (spliced (backTo pos (starEach es env))) (LP C H s Q) NoE s
/-- a test -/
def WT (C : Cx) (A : Around) (env : Env) (gs : List Str) (S : Sg) (H : Hp) (e : Expr) (Q : Bool → Hp → Prop) : Prop :=
  ∀ s, Inv C H s → Fm C env gs S H s.heap → wpAny (Md C) A (isTrue e env (eval e env)) (BP C H s Q) NoE s
def W2 (C : Cx) (A : Around) (H : Hp) (t : Value → Value → Sem Value) (x y : MV) (Q : MV → Hp → Prop) : Prop :=
  ∀ s u v, Inv C H s → VR C.h₀ s.heap x u → VR C.h₀ s.heap y v → wpAny (Md C) A (t u v) (EP C H s Q) NoE s
def WB (C : Cx) (A : Around) (H : Hp) (t : Value → Sem Bool) (x : MV) (Q : Bool → Hp → Prop) : Prop :=
  ∀ s v, Inv C H s → VR C.h₀ s.heap x v → wpAny (Md C) A (t v) (BP C H s Q) NoE s
/-- a call of a value with these arguments -/
def WC (C : Cx) (A : Around) (H : Hp) (f : Value) (xs : List MV) (Q : MV → Hp → Prop) : Prop :=
  ∀ s vs, Inv C H s → VRs C.h₀ s.heap xs vs → wpAny (Md C) A (call f vs []) (EP C H s Q) NoE s

theorem noE {E : Value → Shared → Prop} : ∀ e s, NoE e s → E e s := fun _ _ h => h.elim
end Mine
namespace Mine
open PySem PySem.Calls PyProof.Rows

section
variable {C : Cx} {A : Around} {env : Env} {S : Sg} {H : Hp} {gs : List Str} {Q : MV → Hp → Prop}

theorem EP.same {s : Shared} {x : MV} {v : Value} {t : Nat} (I : Inv C H s) (r : VR C.h₀ s.heap x v) (q : Q x H) : EP C H s Q v { s with toks := t } :=
  ⟨x, H, r, I.toks t, Kp.refl _ _, q⟩
theorem EP.here {s : Shared} {x : MV} {v : Value} (I : Inv C H s) (r : VR C.h₀ s.heap x v) (q : Q x H) : EP C H s Q v s :=
  ⟨x, H, r, I, Kp.refl _ _, q⟩
theorem BP.here {s : Shared} {b : Bool} {Q : Bool → Hp → Prop} (I : Inv C H s) (q : Q b H) : BP C H s Q b s := ⟨H, I, Kp.refl _ _, q⟩
/-- the heap has grown by what nobody names -/
theorem EP.grown {s : Shared} {x : MV} {v : Value} {h' : Heap} {t : Nat} (I : Inv C H s) (k : ∀ b o, s.heap.get? b = some o → h'.get? b = some o) (r : VR C.h₀ h' x v) (q : Q x H) :
    EP C H s Q v { s with heap := h', toks := t } := ⟨x, H, r, I.grow k t, Kp.of_keeps k, q⟩

theorem EP.mono {s : Shared} {Q Q' : MV → Hp → Prop} {v : Value} {s' : Shared} (m : ∀ x H, Q x H → Q' x H) (h : EP C H s Q v s') : EP C H s Q' v s' :=
  let ⟨x, H', r, I, k, q⟩ := h; ⟨x, H', r, I, k, m _ _ q⟩
theorem WE.mono {e : Expr} {Q' : MV → Hp → Prop} (h : WE C A env gs S H e Q) (m : ∀ x H, Q x H → Q' x H) : WE C A env gs S H e Q' :=
  fun s I F => wpAny_mono (h s I F) (fun _ _ p => p.mono m) fun _ _ x => x
theorem WE.var {x : Str} {p : Pos} {v : MV} (a : At S x v) (q : Q v H) : WE C A env gs S H (.Name x p) Q := by
  intro s I F
  have hd := F.ok.nodbg x a.mem
  rcases F.ok.vars x a.mem with hl | ⟨hl, c, hc⟩
  · obtain ⟨mr, hn, hv⟩ := F.ns
    obtain ⟨u, hu, hr⟩ := hv x v a hl
    exact wpAny_Name (wpAny_loadName_local F.ok.kind hl hn hu (EP.here I hr q)) hd
  · obtain ⟨vo, hcell, _, _, hv⟩ := F.cell x c (mem_of_lookup hc)
    have hnl : env.kindOf x ≠ some .local := by
      rcases hl with h | h
      · rw [h]; decide
      · rw [h.1]; decide
    obtain ⟨u, hu, hr⟩ := hv v a hnl
    subst hu
    rcases hl with h | h
    · exact wpAny_Name (wpAny_loadName_cell F.ok.kind h hc hcell (EP.here I hr q)) hd
    · exact wpAny_Name (wpAny_loadName_free F.ok.kind h.1 hc hcell (EP.here I hr q) h.2) hd

theorem WE.glob {x : Str} {p : Pos} {v : Value} (hx : x ∈ gs) (hv : C.mg x = some v) (q : Q (.raw v) H) (hd : (x == ("__debug__" : Str)) = false) : WE C A env gs S H (.Name x p) Q := by
  intro s I F
  refine Name_function_global F.ok.kind (F.ok.gl x hx) (loadGlobal_global (env := env) (v := v) (mg := C.mg) ?_ hv (EP.here I ?_ q)) hd
  · rw [F.ok.glob]; exact C.hg.keeps I.base
  · unfold VR; rfl
theorem WE.builtin {x : Str} {p : Pos} {v : Value} (hx : x ∈ gs) (hm : C.mg x = none) (hv : bootBuiltins x = some v) (hn : x ≠ "__name__") (q : Q (.raw v) H) (hd : (x == ("__debug__" : Str)) = false) : WE C A env gs S H (.Name x p) Q := by
  intro s I F
  refine Name_function_global F.ok.kind (F.ok.gl x hx) (loadGlobal_builtin (env := env) (v := v) (mg := C.mg) (mb := C.mb) ?_ hm ?_ ((C.hbl x hn).trans hv) (EP.here I ?_ q)) hd
  · rw [F.ok.glob]; exact C.hg.keeps I.base
  · rw [F.ok.blt]; exact C.hb.keeps I.base
  · unfold VR; rfl

theorem WE.int {i : Int} {k : Nat} {p : Pos} (q : Q (.int i) H) : WE C A env gs S H (.Constant (.int i) k p) Q := fun s I _ =>
  wpAny_Constant_int (EP.same I (by unfold VR; exact ⟨_, rfl⟩) q)
theorem WE.bool {b : Bool} {k : Nat} {p : Pos} (q : Q (.bool b) H) : WE C A env gs S H (.Constant (.bool b) k p) Q := fun s I _ =>
  Constant_bool (EP.here I (by unfold VR; rfl) q)
theorem WE.bin {l r : Expr} {op : Operator} {p : Pos} (h : WE C A env gs S H l (fun x H₁ => WE C A env gs S H₁ r (fun y H₂ => W2 C A H₂ (binaryOp op) x y Q))) : WE C A env gs S H (.BinOp l op r p) Q := by
  intro s I F
  refine wpAny_BinOp (wpAny_mono (h s I F) (fun u s₁ h₁ => ?_) noE)
  obtain ⟨x, H₁, r₁, I₁, k₁, q₁⟩ := h₁
  refine wpAny_mono (q₁ s₁ I₁ (F.keep I k₁)) (fun v s₂ h₂ => ?_) noE
  obtain ⟨y, H₂, r₂, I₂, k₂, q₂⟩ := h₂
  exact wpAny_mono (q₂ s₂ u v I₂ (r₁.keep (I₁.tupKeep k₂)) r₂) (fun _ _ h => h.from (k₁.trans k₂)) noE
theorem WE.cmp {l r : Expr} {op : CmpOp} {p : Pos} (h : WE C A env gs S H l (fun x H₁ => WE C A env gs S H₁ r (fun y H₂ => W2 C A H₂ (compareOp op) x y Q)))
    (hm : behindInMarks op r = false := by with_unfolding_all rfl) : WE C A env gs S H (.Compare l [op] [r] p) Q := by
  intro s I F
  refine wpAny_Compare1 (wpAny_mono (h s I F) (fun u s₁ h₁ => ?_) noE) hm
  obtain ⟨x, H₁, r₁, I₁, k₁, q₁⟩ := h₁
  refine wpAny_mono (q₁ s₁ I₁ (F.keep I k₁)) (fun v s₂ h₂ => ?_) noE
  obtain ⟨y, H₂, r₂, I₂, k₂, q₂⟩ := h₂
  exact wpAny_mono (q₂ s₂ u v I₂ (r₁.keep (I₁.tupKeep k₂)) r₂) (fun _ _ h => h.from (k₁.trans k₂)) noE

/-! tests -/
section
variable {Q : Bool → Hp → Prop}
theorem WB.bool {b : Bool} (q : Q b H) : WB C A H truthy (.bool b) Q := fun s v I r => by
  unfold VR at r; subst r; exact wpAny_truthy_bool (BP.here I q)
theorem WT.cmp {l r : Expr} {op : CmpOp} {p : Pos} (h : WE C A env gs S H l (fun x H₁ => WE C A env gs S H₁ r (fun y H₂ => W2 C A H₂ (compareOp op) x y fun z H₃ => ∃ b, z = .bool b ∧ Q b H₃)))
    (hm : behindInMarks op r = false := by with_unfolding_all rfl) : WT C A env gs S H (.Compare l [op] [r] p) Q := by
  intro s I F
  refine wpAny_isTrue_Compare1 (wpAny_mono (h s I F) (fun u s₁ h₁ => ?_) noE) hm
  obtain ⟨x, H₁, r₁, I₁, k₁, q₁⟩ := h₁
  refine wpAny_mono (q₁ s₁ I₁ (F.keep I k₁)) (fun v s₂ h₂ => ?_) noE
  obtain ⟨y, H₂, r₂, I₂, k₂, q₂⟩ := h₂
  refine wpAny_mono (q₂ s₂ u v I₂ (r₁.keep (I₁.tupKeep k₂)) r₂) (fun z s₃ h₃ => ?_) noE
  obtain ⟨zz, H₃, r₃, I₃, k₃, b, rfl, q₃⟩ := h₃
  unfold VR at r₃; subst r₃
  exact wpAny_truthy_bool ⟨H₃, I₃, (k₁.trans k₂).trans k₃, q₃⟩
theorem WT.not {x : Expr} {p : Pos} (h : WT C A env gs S H x (fun b H' => Q (!b) H')) : WT C A env gs S H (.UnaryOp .Not x p) Q := fun s I F =>
  isTrue_not (wpAny_mono (h s I F) (fun _ _ h => h) noE)
theorem WT.and0 {p : Pos} (q : Q true H) : WT C A env gs S H (.BoolOp .And [] p) Q := fun _ I _ => isTrue_and_nil (BP.here I q)
theorem WT.or0 {p : Pos} (q : Q false H) : WT C A env gs S H (.BoolOp .Or [] p) Q := fun _ I _ => isTrue_or_nil (BP.here I q)
theorem WT.and {x : Expr} {rest : List Expr} {p : Pos} (h : WT C A env gs S H x (fun b H' => if b = true then WT C A env gs S H' (.BoolOp .And rest p) Q else Q false H')) : WT C A env gs S H (.BoolOp .And (x :: rest) p) Q := by
  intro s I F
  refine isTrue_and (wpAny_mono (h s I F) (fun b s₁ h₁ => ?_) noE)
  obtain ⟨H₁, I₁, k₁, q₁⟩ := h₁
  cases b with
  | false => exact ⟨H₁, I₁, k₁, q₁⟩
  | true => exact wpAny_mono (q₁ s₁ I₁ (F.keep I k₁)) (fun _ _ h => h.from k₁) noE
theorem WT.or {x : Expr} {rest : List Expr} {p : Pos} (h : WT C A env gs S H x (fun b H' => if b = true then Q true H' else WT C A env gs S H' (.BoolOp .Or rest p) Q)) : WT C A env gs S H (.BoolOp .Or (x :: rest) p) Q := by
  intro s I F
  refine isTrue_or (wpAny_mono (h s I F) (fun b s₁ h₁ => ?_) noE)
  obtain ⟨H₁, I₁, k₁, q₁⟩ := h₁
  cases b with
  | true => exact ⟨H₁, I₁, k₁, q₁⟩
  | false => exact wpAny_mono (q₁ s₁ I₁ (F.keep I k₁)) (fun _ _ h => h.from k₁) noE
theorem WT.plain {e : Expr} (h : WE C A env gs S H e (fun x H' => WB C A H' truthy x Q)) (he : isTrue e env (eval e env) = (do let v ← eval e env; standAt e.pos; holding [v] (truthy v)) := by with_unfolding_all rfl) : WT C A env gs S H e Q := by
  intro s I F
  refine isTrue_plain (wpAny_mono (h s I F) (fun v s₁ h₁ => ?_) noE) he
  obtain ⟨x, H₁, r₁, I₁, k₁, q₁⟩ := h₁
  exact wpAny_mono (q₁ s₁ v I₁ r₁) (fun _ _ h => h.from k₁) noE
end

theorem WE.not {x : Expr} {p : Pos} (h : WE C A env gs S H x (fun v H' => WB C A H' truthy v fun b H₂ => Q (.bool (!b)) H₂)) : WE C A env gs S H (.UnaryOp .Not x p) Q := by
  intro s I F
  refine UnaryOp_ (wpAny_mono (h s I F) (fun v s₁ h₁ => ?_) noE)
  obtain ⟨x, H₁, r₁, I₁, k₁, q₁⟩ := h₁
  refine not_of (wpAny_mono (q₁ s₁ v I₁ r₁) (fun b s₂ h₂ => ?_) noE)
  obtain ⟨H₂, I₂, k₂, q₂⟩ := h₂
  exact ⟨_, H₂, by unfold VR; rfl, I₂, k₁.trans k₂, q₂⟩
theorem WE.bo1 {op : BoolOp} {e : Expr} {p : Pos} (h : WE C A env gs S H e Q) : WE C A env gs S H (.BoolOp op [e] p) Q := fun s I F => BoolOp_one (h s I F)
theorem WE.and {e₁ e₂ : Expr} {rest : List Expr} {p : Pos} (h : WE C A env gs S H e₁ (fun v H₁ => WB C A H₁ truthy v fun b H₂ => if b = true then WE C A env gs S H₂ (.BoolOp .And (e₂ :: rest) p) Q else Q v H₂)) :
    WE C A env gs S H (.BoolOp .And (e₁ :: e₂ :: rest) p) Q := by
  intro s I F
  refine BoolOp_and (wpAny_mono (h s I F) (fun v s₁ h₁ => ?_) noE)
  obtain ⟨x, H₁, r₁, I₁, k₁, q₁⟩ := h₁
  refine wpAny_mono (q₁ s₁ v I₁ r₁) (fun b s₂ h₂ => ?_) noE
  obtain ⟨H₂, I₂, k₂, q₂⟩ := h₂
  cases b with
  | false => exact ⟨x, H₂, r₁.keep (I₁.tupKeep k₂), I₂, k₁.trans k₂, q₂⟩
  | true => exact wpAny_mono (q₂ s₂ I₂ ((F.keep I k₁).keep I₁ k₂)) (fun _ _ h => h.from (k₁.trans k₂)) noE
theorem WE.or {e₁ e₂ : Expr} {rest : List Expr} {p : Pos} (h : WE C A env gs S H e₁ (fun v H₁ => WB C A H₁ truthy v fun b H₂ => if b = true then Q v H₂ else WE C A env gs S H₂ (.BoolOp .Or (e₂ :: rest) p) Q)) :
    WE C A env gs S H (.BoolOp .Or (e₁ :: e₂ :: rest) p) Q := by
  intro s I F
  refine BoolOp_or (wpAny_mono (h s I F) (fun v s₁ h₁ => ?_) noE)
  obtain ⟨x, H₁, r₁, I₁, k₁, q₁⟩ := h₁
  refine wpAny_mono (q₁ s₁ v I₁ r₁) (fun b s₂ h₂ => ?_) noE
  obtain ⟨H₂, I₂, k₂, q₂⟩ := h₂
  cases b with
  | true => exact ⟨x, H₂, r₁.keep (I₁.tupKeep k₂), I₂, k₁.trans k₂, q₂⟩
  | false => exact wpAny_mono (q₂ s₂ I₂ ((F.keep I k₁).keep I₁ k₂)) (fun _ _ h => h.from (k₁.trans k₂)) noE

/-! chains of two comparisons -/
theorem WE.cmp2 {l r₁ r₂ : Expr} {o₁ o₂ : CmpOp} {p : Pos}
    (h : WE C A env gs S H l (fun x H₁ => WE C A env gs S H₁ r₁ (fun y H₂ => W2 C A H₂ (compareOp o₁) x y fun z H₃ => ∃ b, z = .bool b ∧
      (if b = true then WE C A env gs S H₃ r₂ (fun u H₄ => W2 C A H₄ (compareOp o₂) y u Q) else Q (.bool false) H₃))))
    (hm : lastMarks [o₁, o₂] [r₁, r₂] = false := by with_unfolding_all rfl) : WE C A env gs S H (.Compare l [o₁, o₂] [r₁, r₂] p) Q := by
  intro s I F
  refine Compare_chain (wpAny_mono (h s I F) (fun u s₁ h₁ => ?_) noE) hm
  obtain ⟨x, H₁, q1, I₁, k₁, h₁⟩ := h₁
  have F₁ := F.keep I k₁
  refine chain_link (wpAny_mono (h₁ s₁ I₁ F₁) (fun v s₂ h₂ => ?_) noE)
  obtain ⟨y, H₂, q2, I₂, k₂, h₂⟩ := h₂
  have F₂ := F₁.keep I₁ k₂
  refine wpAny_mono (h₂ s₂ u v I₂ (q1.keep (I₁.tupKeep k₂)) q2) (fun z s₃ h₃ => ?_) noE
  obtain ⟨zz, H₃, q3, I₃, k₃, b, rfl, h₃⟩ := h₃
  have F₃ := F₂.keep I₂ k₃
  unfold VR at q3; subst q3
  refine wpAny_truthy_bool ?_
  cases b with
  | false => exact ⟨_, H₃, by unfold VR; rfl, I₃, (k₁.trans k₂).trans k₃, h₃⟩
  | true =>
    refine chain_last (wpAny_mono (h₃ s₃ I₃ F₃) (fun t s₄ h₄ => ?_) noE)
    obtain ⟨w, H₄, q4, I₄, k₄, h₄⟩ := h₄
    exact wpAny_mono (h₄ s₄ v t I₄ (q2.keep ((I₂.tupKeep k₃).trans (I₃.tupKeep k₄))) q4) (fun _ _ h => h.from (((k₁.trans k₂).trans k₃).trans k₄)) noE
theorem WT.cmp2 {Q : Bool → Hp → Prop} {l r₁ r₂ : Expr} {o₁ o₂ : CmpOp} {p : Pos}
    (h : WE C A env gs S H l (fun x H₁ => WE C A env gs S H₁ r₁ (fun y H₂ => W2 C A H₂ (compareOp o₁) x y fun z H₃ => ∃ b, z = .bool b ∧
      (if b = true then WE C A env gs S H₃ r₂ (fun u H₄ => W2 C A H₄ (compareOp o₂) y u fun z H₅ => ∃ b, z = .bool b ∧ Q b H₅) else Q false H₃))))
    (hm : lastMarks [o₁, o₂] [r₁, r₂] = false := by with_unfolding_all rfl) : WT C A env gs S H (.Compare l [o₁, o₂] [r₁, r₂] p) Q := by
  intro s I F
  refine isTrue_chain (wpAny_mono (h s I F) (fun u s₁ h₁ => ?_) noE) hm
  obtain ⟨x, H₁, q1, I₁, k₁, h₁⟩ := h₁
  have F₁ := F.keep I k₁
  refine test_link (wpAny_mono (h₁ s₁ I₁ F₁) (fun v s₂ h₂ => ?_) noE)
  obtain ⟨y, H₂, q2, I₂, k₂, h₂⟩ := h₂
  have F₂ := F₁.keep I₁ k₂
  refine wpAny_mono (h₂ s₂ u v I₂ (q1.keep (I₁.tupKeep k₂)) q2) (fun z s₃ h₃ => ?_) noE
  obtain ⟨zz, H₃, q3, I₃, k₃, b, rfl, h₃⟩ := h₃
  have F₃ := F₂.keep I₂ k₃
  unfold VR at q3; subst q3
  refine wpAny_truthy_bool ?_
  cases b with
  | false => exact ⟨H₃, I₃, (k₁.trans k₂).trans k₃, h₃⟩
  | true =>
    refine test_last (wpAny_mono (h₃ s₃ I₃ F₃) (fun t s₄ h₄ => ?_) noE)
    obtain ⟨w, H₄, q4, I₄, k₄, h₄⟩ := h₄
    refine wpAny_mono (h₄ s₄ v t I₄ (q2.keep ((I₂.tupKeep k₃).trans (I₃.tupKeep k₄))) q4) (fun z s₅ h₅ => ?_) noE
    obtain ⟨zz, H₅, q5, I₅, k₅, b, rfl, h₅⟩ := h₅
    unfold VR at q5; subst q5
    exact wpAny_truthy_bool ⟨H₅, I₅, (((k₁.trans k₂).trans k₃).trans k₄).trans k₅, h₅⟩

/-! ints -/
theorem W2.ofInt {t : Value → Value → Sem Value} {a b : Int}
    (h : ∀ s u v, Inv C H s → wpAny (Md C) A (t (.int a u) (.int b v)) (EP C H s Q) NoE s) : W2 C A H t (.int a) (.int b) Q := by
  intro s u v I r₁ r₂
  unfold VR at r₁ r₂
  obtain ⟨t1, rfl⟩ := r₁
  obtain ⟨t2, rfl⟩ := r₂
  exact h s t1 t2 I
theorem W2.add {a b : Int} (q : Q (.int (a + b)) H) : W2 C A H (binaryOp .Add) (.int a) (.int b) Q :=
  .ofInt fun s _ _ I => AutoIntOps.add_0 (EP.same I (by unfold VR; exact ⟨_, rfl⟩) q)
theorem W2.sub {a b : Int} (q : Q (.int (a - b)) H) : W2 C A H (binaryOp .Sub) (.int a) (.int b) Q :=
  .ofInt fun s _ _ I => AutoIntOps.sub_0 (EP.same I (by unfold VR; exact ⟨_, rfl⟩) q)
theorem W2.mul {a b : Int} (hm : IntMulOk a b) (q : Q (.int (a * b)) H) : W2 C A H (binaryOp .Mult) (.int a) (.int b) Q :=
  .ofInt fun s _ _ I => mul_int (EP.same I (by unfold VR; exact ⟨_, rfl⟩) q) hm
theorem W2.mod {a b : Int} (hb : b ≠ 0) (q : Q (.int (a.fmod b)) H) : W2 C A H (binaryOp .Mod) (.int a) (.int b) Q :=
  .ofInt fun s _ _ I => mod_int' hb (EP.same I (by unfold VR; exact ⟨_, rfl⟩) q)
theorem W2.div {a b : Int} (hb : b ≠ 0) (hp : Builtin.divisionGoesByPylong a b = false) (q : Q (.int (a.fdiv b)) H) : W2 C A H (binaryOp .FloorDiv) (.int a) (.int b) Q :=
  .ofInt fun s _ _ I => AutoIntOps.floordiv_1 (by simpa using hb) (by rw [hp]; exact Bool.false_ne_true) (EP.same I (by unfold VR; exact ⟨_, rfl⟩) q)
theorem W2.pow {a b : Int} (hn : 0 ≤ b) (hsz : (Builtin.Int.intBits a : Int) * b ≤ 2 ^ 27) (q : Q (.int (a ^ b.toNat)) H) : W2 C A H (binaryOp .Pow) (.int a) (.int b) Q :=
  .ofInt fun s _ _ I => pow_int hn hsz (EP.same I (by unfold VR; exact ⟨_, rfl⟩) q)
end
end Mine
namespace Mine
open PySem PySem.Calls PyProof.Rows

section
variable {C : Cx} {A : Around} {env : Env} {S : Sg} {H : Hp} {gs : List Str} {Q : MV → Hp → Prop} {n : Nat}

/-! comparisons of ints -/
theorem W2.lt {a b : Int} (q : Q (.bool (decide (a < b))) H) : W2 C A H (compareOp .Lt) (.int a) (.int b) Q :=
  .ofInt fun s _ _ I => P.lt_int (EP.here I (by unfold VR; rfl) q)
theorem W2.le {a b : Int} (q : Q (.bool (decide (a ≤ b))) H) : W2 C A H (compareOp .LtE) (.int a) (.int b) Q :=
  .ofInt fun s _ _ I => P.le_int (EP.here I (by unfold VR; rfl) q)
theorem W2.gt {a b : Int} (q : Q (.bool (decide (a > b))) H) : W2 C A H (compareOp .Gt) (.int a) (.int b) Q :=
  .ofInt fun s _ _ I => P.gt_int (EP.here I (by unfold VR; rfl) q)
theorem W2.ge {a b : Int} (q : Q (.bool (decide (a ≥ b))) H) : W2 C A H (compareOp .GtE) (.int a) (.int b) Q :=
  .ofInt fun s _ _ I => P.ge_int (EP.here I (by unfold VR; rfl) q)
theorem W2.eq {a b : Int} (q : Q (.bool (a == b)) H) : W2 C A H (compareOp .Eq) (.int a) (.int b) Q :=
  .ofInt fun s _ _ I => P.eq_int (EP.here I (by unfold VR; rfl) q)
theorem W2.ne {a b : Int} (q : Q (.bool (a != b)) H) : W2 C A H (compareOp .NotEq) (.int a) (.int b) Q :=
  .ofInt fun s _ _ I => P.ne_int (EP.here I (by unfold VR; rfl) q)

/-! deep data -/
mutual
inductive Dp (H : Hp) : MV → PyData → Prop
  | none : Dp H .none .none
  | bool (b : Bool) : Dp H (.bool b) (.bool b)
  | int (i : Int) : Dp H (.int i) (.int i)
  | str (x : Str) : Dp H (.str x) (.str x)
  | tup {xs : List MV} {ds : List PyData} : Dps H xs ds → Dp H (.tup xs) (.tuple ds)
  | list {a : Addr} {xs : List MV} {ds : List PyData} : (a, MO.list xs) ∈ H → Dps H xs ds → Dp H (.ref a) (.list ds)
inductive Dps (H : Hp) : List MV → List PyData → Prop
  | nil : Dps H [] []
  | cons {x : MV} {xs : List MV} {d : PyData} {ds : List PyData} : Dp H x d → Dps H xs ds → Dps H (x :: xs) (d :: ds)
end
mutual
theorem Dp.reads {s : Shared} (I : Inv C H s) : ∀ {x : MV} {d : PyData}, Dp H x d → ∀ {v : Value}, VR C.h₀ s.heap x v → ∃ as, Reads s.heap v d as
  | _, _, .none, v, r => by unfold VR at r; subst r; exact ⟨[], .none⟩
  | _, _, .bool b, v, r => by unfold VR at r; subst r; exact ⟨[], .bool b⟩
  | _, _, .int i, v, r => by unfold VR at r; obtain ⟨t, rfl⟩ := r; exact ⟨[], .int i t⟩
  | _, _, .str x, v, r => by unfold VR at r; obtain ⟨t, rfl⟩ := r; exact ⟨[], .str x t⟩
  | _, _, .tup ds, v, r => by
    unfold VR at r
    obtain ⟨a, vs, rfl, ⟨o, ho, hc, n, hd⟩, hr⟩ := r
    obtain ⟨as, ra⟩ := Dps.reads I ds hr
    exact ⟨as, .tuple ho hc hd ra⟩
  | _, _, .list hm ds, v, r => by
    unfold VR at r; subst r
    obtain ⟨vs, n, ho, hr⟩ := I.objs _ hm
    obtain ⟨as, ra⟩ := Dps.reads I ds hr
    exact ⟨_, .list ho rfl rfl ra⟩
theorem Dps.reads {s : Shared} (I : Inv C H s) : ∀ {xs : List MV} {ds : List PyData}, Dps H xs ds → ∀ {vs : List Value}, VRs C.h₀ s.heap xs vs → ∃ as, ReadsAll s.heap vs ds as
  | _, _, .nil, vs, r => by have := r.inv0; subst this; exact ⟨[], .nil⟩
  | _, _, .cons h hs, vs, r => by
    obtain ⟨v, t, rfl, h1, h2⟩ := r.inv
    obtain ⟨as, ra⟩ := Dp.reads I h h1
    obtain ⟨bs, rb⟩ := Dps.reads I hs h2
    exact ⟨_, .cons ra rb⟩
end

theorem W2.eqD {x y : MV} {dx dy : PyData} (hA : AOk A n) (hx : Dp H x dx) (hy : Dp H y dy) (sx : SeqAt.shaped dx = true) (sy : SeqAt.shaped dy = true) (q : Q (.bool (PyData.eqv dx dy)) H) : W2 C A H (compareOp .Eq) x y Q := by
  intro s u v I r₁ r₂
  obtain ⟨as, ra⟩ := hx.reads I r₁
  obtain ⟨bs, rb⟩ := hy.reads I r₂
  exact SeqAt.compareEq_shaped ra rb sx sy (by have := hA.units; omega) (EP.here I (by unfold VR; rfl) q)
theorem W2.inT {x : MV} {ys : List MV} {dx : PyData} {dys : List PyData} (hA : AOk A n) (hx : Dp H x dx) (hy : Dps H ys dys) (sx : SeqAt.shaped dx = true) (sy : PyData.canLayAll0 dys = true) (q : Q (.bool (dys.any fun y => PyData.eqv y dx)) H) : W2 C A H (compareOp .In) x (.tup ys) Q := by
  intro s u v I r₁ r₂
  obtain ⟨as, ra⟩ := hx.reads I r₁
  obtain ⟨bs, rb⟩ := (Dp.tup hy).reads I r₂
  refine SeqAt.in_tuple_reads rb ra sy (SeqAt.canLay_of_shaped sx) ?_ (EP.here I (by unfold VR; rfl) q)
  have h1 := SeqAt.depth_of_shaped sx
  have h2 : min (PyData.depthAll dys) dx.depth ≤ dx.depth := Nat.min_le_right _ _
  have := hA.units; omega
theorem W2.notInT {x : MV} {ys : List MV} {dx : PyData} {dys : List PyData} (hA : AOk A n) (hx : Dp H x dx) (hy : Dps H ys dys) (sx : SeqAt.shaped dx = true) (sy : PyData.canLayAll0 dys = true) (q : Q (.bool (!dys.any fun y => PyData.eqv y dx)) H) : W2 C A H (compareOp .NotIn) x (.tup ys) Q := by
  intro s u v I r₁ r₂
  obtain ⟨as, ra⟩ := hx.reads I r₁
  obtain ⟨bs, rb⟩ := (Dp.tup hy).reads I r₂
  refine SeqAt.notIn_tuple_reads rb ra sy (SeqAt.canLay_of_shaped sx) ?_ (EP.here I (by unfold VR; rfl) q)
  have h1 := SeqAt.depth_of_shaped sx
  have h2 : min (PyData.depthAll dys) dx.depth ≤ dx.depth := Nat.min_le_right _ _
  have := hA.units; omega
/-! arguments -/
theorem WEs.nil {Q : List MV → Hp → Prop} (q : Q [] H) : WEs C A env gs S H [] Q := fun _ _ I _ => args_nil ⟨[], H, VRs.nil, I, Kp.refl _ _, q⟩
theorem WEs.cons {Q : List MV → Hp → Prop} {e : Expr} {rest : List Expr} (h : WE C A env gs S H e (fun x H₁ => WEs C A env gs S H₁ rest fun xs H₂ => Q (x :: xs) H₂))
    (he : starEach (e :: rest) env = (false, eval e env) :: starEach rest env := by with_unfolding_all rfl) : WEs C A env gs S H (e :: rest) Q := by
  intro s pos I F
  refine args_cons (wpAny_mono (h s I F) (fun v s₁ h₁ => ?_) noE) he
  obtain ⟨x, H₁, r₁, I₁, k₁, q₁⟩ := h₁
  refine wpAny_mono (q₁ s₁ pos I₁ (F.keep I k₁)) (fun vs s₂ h₂ => ?_) noE
  obtain ⟨xs, H₂, r₂, I₂, k₂, q₂⟩ := h₂
  exact ⟨x :: xs, H₂, .cons (r₁.keep (I₁.tupKeep k₂)) r₂, I₂, k₁.trans k₂, q₂⟩

/-! new objects -/
theorem Inv.add {s : Shared} {h' : Heap} {a : Addr} {mo : MO} (I : Inv C H s) (hk : ∀ b o, s.heap.get? b = some o → h'.get? b = some o) (ha : s.heap.get? a = none) (hor : OR C.h₀ h' a mo) (t : Nat) :
    Inv C ((a, mo) :: H) { s with heap := h', toks := t } ∧ Kp s.heap H h' ((a, mo) :: H) ∧ ¬ dom H a := by
  have I' := I.grow hk t
  have hnd : ¬ dom H a := fun d => by
    obtain ⟨p, hp, rfl⟩ := List.mem_map.mp d
    obtain ⟨ob, e', _⟩ := (I.objs p hp).exists
    rw [ha] at e'; cases e'
  refine ⟨⟨I'.base, fun p hp => ?_, fun p hp => ?_, List.nodup_cons.mpr ⟨hnd, I.nodup⟩, I'.gens, I'.os⟩, fun b o e n => ⟨hk b o e, fun d => ?_⟩, hnd⟩
  · rcases List.mem_cons.mp hp with rfl | hp
    · exact hor
    · exact I'.objs p hp
  · rcases List.mem_cons.mp hp with rfl | hp
    · cases e : C.h₀.get? a with
      | none => rfl
      | some o => have := I.base _ _ e; rw [ha] at this; cases this
    · exact I.new p hp
  · rcases List.mem_cons.mp d with rfl | d
    · rw [ha] at e; cases e
    · exact n d
theorem get_size {h : Heap} : h.get? h.objs.size = none := by
  cases e : h.get? h.objs.size with
  | none => rfl
  | some o => exact absurd (Heap.lt_size e) (Nat.lt_irrefl _)
theorem EP.newTup {s : Shared} {xs : List MV} {vs : List Value} (I : Inv C H s) (r : VRs C.h₀ s.heap xs vs) (q : Q (.tup xs) H) (n : Nat := 0) :
    EP C H s Q (.ref s.heap.objs.size) { s with heap := s.heap.push { cls := .type "tuple", data := .seq vs.toArray n } } :=
  EP.grown (t := s.toks) I (fun b o e => Heap.get?_push_of_some _ e) (by
    unfold VR
    exact ⟨_, vs, rfl, ⟨_, Heap.get?_push_size _ rfl, rfl, n, rfl⟩, r.keep (.of_keeps fun b o e => Heap.get?_push_of_some _ e)⟩) q
theorem EP.newList {s : Shared} {xs : List MV} {vs : List Value} (I : Inv C H s) (r : VRs C.h₀ s.heap xs vs) (q : ∀ a, ¬ dom H a → Q (.ref a) ((a, .list xs) :: H)) (n : Nat := 0) :
    EP C H s Q (.ref s.heap.objs.size) { s with heap := s.heap.push { cls := .type "list", data := .seq vs.toArray n } } := by
  have hk : ∀ b o, s.heap.get? b = some o → (s.heap.push { cls := .type "list", data := .seq vs.toArray n }).get? b = some o := fun b o e => Heap.get?_push_of_some _ e
  obtain ⟨I', k, nd⟩ := I.add (mo := .list xs) hk get_size ⟨vs, n, Heap.get?_push_size _ rfl, r.keep (.of_keeps hk)⟩ s.toks
  exact ⟨_, _, by unfold VR; rfl, I', k, q _ nd⟩

theorem WE.tuple {es : List Expr} {k : Nat} {p : Pos} (h : WEs C A env gs S H es fun xs H' => xs.length ≤ sizeLine ∧ Q (.tup xs) H') : WE C A env gs S H (.Tuple es k p) Q := by
  intro s I F
  refine Tuple_ (wpAny_mono (h s p I F) (fun vs s₁ h₁ => ?_) noE)
  obtain ⟨xs, H₁, r₁, I₁, k₁, hs, q₁⟩ := h₁
  exact wpAny_newObj_type ((EP.newTup I₁ r₁ q₁).from k₁) (by show vs.toArray.size ≤ sizeLine; rw [List.size_toArray, r₁.length]; exact hs)
theorem WE.list {es : List Expr} {p : Pos} (h : WEs C A env gs S H es fun xs H' => xs.length ≤ sizeLine ∧ ∀ a, ¬ dom H' a → Q (.ref a) ((a, .list xs) :: H')) : WE C A env gs S H (.List es p) Q := by
  intro s I F
  refine List_ (wpAny_mono (h s p I F) (fun vs s₁ h₁ => ?_) noE)
  obtain ⟨xs, H₁, r₁, I₁, k₁, hs, q₁⟩ := h₁
  exact wpAny_newObj_type ((EP.newList I₁ r₁ q₁).from k₁) (by show vs.toArray.size ≤ sizeLine; rw [List.size_toArray, r₁.length]; exact hs)

/-! subscripts by an int -/
abbrev plainSlice (slice : Expr) : Prop := ∀ o i, subscripted slice false o i = operate [o, i] (getItem o i)
theorem WE.sub {value slice : Expr} {p : Pos} (h : WE C A env gs S H value (fun x H₁ => WE C A env gs S H₁ slice (fun y H₂ => W2 C A H₂ (subscriptTail value slice) x y Q))) : WE C A env gs S H (.Subscript value slice p) Q := by
  intro s I F
  refine Subscript_ (wpAny_mono (h s I F) (fun u s₁ h₁ => ?_) noE)
  obtain ⟨x, H₁, r₁, I₁, k₁, q₁⟩ := h₁
  refine wpAny_mono (q₁ s₁ I₁ (F.keep I k₁)) (fun v s₂ h₂ => ?_) noE
  obtain ⟨y, H₂, r₂, I₂, k₂, q₂⟩ := h₂
  exact wpAny_mono (q₂ s₂ u v I₂ (r₁.keep (I₁.tupKeep k₂)) r₂) (fun _ _ h => h.from (k₁.trans k₂)) noE
theorem W2.itemT {value slice : Expr} {xs : List MV} {k : Int} {x : MV} (h0 : 0 ≤ k) (hx : xs[k.toNat]? = some x) (hhi : k < 2 ^ 63) (q : Q x H) (hs : plainSlice slice := by intro _ _; with_unfolding_all rfl) :
    W2 C A H (subscriptTail value slice) (.tup xs) (.int k) Q := by
  intro s u v I r₁ r₂
  unfold VR at r₁ r₂
  obtain ⟨a, vs, rfl, ht, hr⟩ := r₁
  obtain ⟨t, rfl⟩ := r₂
  obtain ⟨w, hw, rw'⟩ := hr.get hx
  have hlt : k.toNat < vs.length := by
    rcases Nat.lt_or_ge k.toNat vs.length with h | h
    · exact h
    · rw [List.getElem?_eq_none h] at hw; cases hw
  refine item_tupleT (l := vs) (j := k.toNat) ht (by omega) hhi ?_ hw (EP.here I rw' q) (hs _ _)
  unfold seqIndex?
  have h1 : ¬ k < 0 := by omega
  have h2 : (decide (0 ≤ k) && decide (k < (vs.length : Int))) = true := by simp; omega
  simp only [h1, if_false]
  rw [if_pos h2]
theorem W2.itemL {value slice : Expr} {a : Addr} {xs : List MV} {k : Int} {x : MV} (hm : (a, MO.list xs) ∈ H) (h0 : 0 ≤ k) (hx : xs[k.toNat]? = some x) (hhi : k < 2 ^ 63) (q : Q x H) (hs : plainSlice slice := by intro _ _; with_unfolding_all rfl) :
    W2 C A H (subscriptTail value slice) (.ref a) (.int k) Q := by
  intro s u v I r₁ r₂
  unfold VR at r₁ r₂
  subst r₁
  obtain ⟨t, rfl⟩ := r₂
  obtain ⟨vs, n, ho, hr⟩ := I.objs _ hm
  obtain ⟨w, hw, rw'⟩ := hr.get hx
  have hl : s.heap.IsList a vs.toArray := ⟨_, ho, rfl, n, rfl⟩
  exact tail_any hl.typeIs slot_list_getitem.lookup (wpAny_getItem_list hl h0 hhi (by simpa using hw) (EP.here I rw' q)) (hs _ _)
theorem W2.itemF {value slice : Expr} {ns : List Int} {k : Int} {x : Int} (h0 : 0 ≤ k) (hx : ns[k.toNat]? = some x) (hhi : k < 2 ^ 63) (q : Q (.int x) H) (hs : plainSlice slice := by intro _ _; with_unfolding_all rfl) :
    W2 C A H (subscriptTail value slice) (.fl ns) (.int k) Q := by
  intro s u v I r₁ r₂
  unfold VR at r₁ r₂
  obtain ⟨a, vs, rfl, ⟨o, ho, hc, n, hd⟩, hi⟩ := r₁
  obtain ⟨t, rfl⟩ := r₂
  have hl : s.heap.IsList a vs.toArray := ⟨o, I.base _ _ ho, hc, n, hd⟩
  obtain ⟨tk, hw⟩ : ∃ tk, vs[k.toNat]? = some (.int x tk) := by
    clear ho hd hl
    generalize k.toNat = i at hx
    induction hi generalizing i with
    | nil => simp at hx
    | cons _ _ _ ih =>
      cases i with
      | zero => simp at hx; subst hx; exact ⟨_, rfl⟩
      | succ i => simp at hx; exact ih i hx
  exact tail_any hl.typeIs slot_list_getitem.lookup (wpAny_getItem_list hl h0 hhi (by simpa using hw) (EP.here I (by unfold VR; exact ⟨tk, rfl⟩) q)) (hs _ _)

/-! global names and calls -/
structure Gl (C : Cx) (f : Str) (v : Value) : Prop where
  nodbg : (f == ("__debug__" : Str)) = false
  val : C.mg f = some v ∨ (C.mg f = .none ∧ bootBuiltins f = some v ∧ f ≠ "__name__")
theorem WE.gl {f : Str} {p : Pos} {v : Value} (hx : f ∈ gs) (g : Gl C f v) (q : Q (.raw v) H) : WE C A env gs S H (.Name f p) Q := by
  rcases g.val with h | ⟨h1, h2, h3⟩
  · exact WE.glob hx h q g.nodbg
  · exact WE.builtin hx h1 h2 h3 q g.nodbg
theorem WE.callB {f : Str} {p pos : Pos} {id : String} {e : Expr} {rest : List Expr} (hx : f ∈ gs) (g : Gl C f (.builtin id))
    (h : WEs C A env gs S H (e :: rest) fun xs H' => WC C A H' (.builtin id) xs Q)
    (he : starEach (e :: rest) env = (false, eval e env) :: starEach rest env := by with_unfolding_all rfl) (hplain : (backTo pos (starEach rest env)).any (·.1) = false := by with_unfolding_all rfl) :
    WE C A env gs S H (.Call (.Name f p) (e :: rest) [] pos) Q := by
  intro s I F
  refine Call_ (wpAny_mono (WE.gl (Q := fun x H' => x = .raw (.builtin id) ∧ H' = H) hx g ⟨rfl, rfl⟩ s I F) (fun v s₁ h₁ => ?_) noE)
  obtain ⟨x, H₁, r₁, I₁, k₁, rfl, rfl⟩ := h₁
  unfold VR at r₁; subst r₁
  refine callWith_builtin1 (wpAny_mono (h s₁ pos I₁ (F.keep I k₁)) (fun vs s₂ h₂ => ?_) noE) he hplain
  obtain ⟨xs, H₂, r₂, I₂, k₂, q₂⟩ := h₂
  exact wpAny_mono (q₂ s₂ vs I₂ r₂) (fun _ _ h => h.from (k₁.trans k₂)) noE
theorem WE.callT {f : Str} {p pos : Pos} {T : String} {e : Expr} {rest : List Expr} (hx : f ∈ gs) (g : Gl C f (.type T))
    (h : WEs C A env gs S H (e :: rest) fun xs H' => WC C A H' (.type T) xs Q)
    (he : starEach (e :: rest) env = (false, eval e env) :: starEach rest env := by with_unfolding_all rfl) (hplain : (backTo pos (starEach rest env)).any (·.1) = false := by with_unfolding_all rfl) :
    WE C A env gs S H (.Call (.Name f p) (e :: rest) [] pos) Q := by
  intro s I F
  refine Call_ (wpAny_mono (WE.gl (Q := fun x H' => x = .raw (.type T) ∧ H' = H) hx g ⟨rfl, rfl⟩ s I F) (fun v s₁ h₁ => ?_) noE)
  obtain ⟨x, H₁, r₁, I₁, k₁, rfl, rfl⟩ := h₁
  unfold VR at r₁; subst r₁
  have hh := h s₁ pos I₁ (F.keep I k₁)
  rw [he] at hh ⊢
  refine PySem.callWith_type (by show (false || (backTo pos (starEach rest env)).any (·.1)) = false; rw [hplain]; rfl) (evalArgs_plain (wpAny_mono hh (fun vs s₂ h₂ => ?_) noE))
  obtain ⟨xs, H₂, r₂, I₂, k₂, q₂⟩ := h₂
  exact wpAny_mono (q₂ s₂ vs I₂ r₂) (fun _ _ h => h.from (k₁.trans k₂)) noE

/-- the def of this name -/
structure Fn (C : Cx) (f : Str) (name : Str) (params : Arguments) (body : List Stmt) (scope : Scope) : Prop where
  nodbg : (f == ("__debug__" : Str)) = false
  at' : ∃ a o pm cd doc, C.mg f = some (.ref a) ∧ C.h₀.get? a = some o ∧ o.data = .func (docDef name params body scope pm cd doc) ∧ C.h₀.CodeRec cd name
def WF (C : Cx) (A : Around) (H : Hp) (f : Str) (xs : List MV) (Q : MV → Hp → Prop) : Prop := ∀ a, C.mg f = some (.ref a) → WC C A H (.ref a) xs Q
theorem WE.callF {f nm : Str} {p pos : Pos} {pa : Arguments} {bo : List Stmt} {sc : Scope} {e : Expr} {rest : List Expr} (hx : f ∈ gs) (g : Fn C f nm pa bo sc)
    (h : WEs C A env gs S H (e :: rest) fun xs H' => WF C A H' f xs Q)
    (he : starEach (e :: rest) env = (false, eval e env) :: starEach rest env := by with_unfolding_all rfl) :
    WE C A env gs S H (.Call (.Name f p) (e :: rest) [] pos) Q := by
  intro s I F
  obtain ⟨a, o, pm, cd, doc, h1, h2, h3, h4⟩ := g.at'
  refine Call_ (wpAny_mono (WE.gl (Q := fun x H' => x = .raw (.ref a) ∧ H' = H) hx ⟨g.nodbg, .inl h1⟩ ⟨rfl, rfl⟩ s I F) (fun v s₁ h₁ => ?_) noE)
  obtain ⟨x, H₁, r₁, I₁, k₁, rfl, rfl⟩ := h₁
  unfold VR at r₁; subst r₁
  refine callWith_def h3 (wpAny_mono (h s₁ pos I₁ (F.keep I k₁)) (fun vs s₂ h₂ => ?_) noE) he
  obtain ⟨xs, H₂, r₂, I₂, k₂, q₂⟩ := h₂
  exact ⟨I₂.base _ _ h2, wpAny_mono (q₂ a h1 s₂ vs I₂ r₂) (fun _ _ h => h.from (k₁.trans k₂)) noE⟩

/-! built-in functions -/
theorem WC.of1 {f : Value} {x : MV} (h : ∀ s v, Inv C H s → VR C.h₀ s.heap x v → wpAny (Md C) A (call f [v] []) (EP C H s Q) NoE s) : WC C A H f [x] Q := by
  intro s vs I r
  obtain ⟨v, t, rfl, h1, h2⟩ := r.inv
  have := h2.inv0; subst this
  exact h s v I h1
theorem WC.of2 {f : Value} {x y : MV} (h : ∀ s u v, Inv C H s → VR C.h₀ s.heap x u → VR C.h₀ s.heap y v → wpAny (Md C) A (call f [u, v] []) (EP C H s Q) NoE s) : WC C A H f [x, y] Q := by
  intro s vs I r
  obtain ⟨u, t, rfl, h1, h2⟩ := r.inv
  obtain ⟨v, t, rfl, h3, h4⟩ := h2.inv
  have := h4.inv0; subst this
  exact h s u v I h1 h3
theorem WC.lenL {a : Addr} {xs : List MV} (hm : (a, MO.list xs) ∈ H) (hl : xs.length < 2 ^ 62) (q : Q (.int xs.length) H) : WC C A H (.builtin "len") [.ref a] Q := .of1 fun s v I r => by
  unfold VR at r; subst r
  obtain ⟨vs, n, ho, hr⟩ := I.objs _ hm
  have e : vs.toArray.size = xs.length := by rw [List.size_toArray, hr.length]
  refine call_len_list (items := vs.toArray) ⟨_, ho, rfl, n, rfl⟩ (by rw [e]; omega) ?_
  rw [e]
  exact EP.same I (by unfold VR; exact ⟨_, rfl⟩) q
theorem WC.lenT {xs : List MV} (hl : xs.length < 2 ^ 62) (q : Q (.int xs.length) H) : WC C A H (.builtin "len") [.tup xs] Q := .of1 fun s v I r => by
  unfold VR at r
  obtain ⟨a, vs, rfl, ht, hr⟩ := r
  have e : vs.toArray.size = xs.length := by rw [List.size_toArray, hr.length]
  refine len_tuple (items := vs.toArray) ht (by rw [e]; omega) ?_
  rw [e]
  exact EP.same I (by unfold VR; exact ⟨_, rfl⟩) q
theorem WC.lenF {ns : List Int} (hl : ns.length < 2 ^ 62) (q : Q (.int ns.length) H) : WC C A H (.builtin "len") [.fl ns] Q := .of1 fun s v I r => by
  unfold VR at r
  obtain ⟨a, vs, rfl, ⟨o, ho, hc, n, hd⟩, hr⟩ := r
  have e : vs.toArray.size = ns.length := by rw [List.size_toArray, hr.length]
  refine call_len_list (items := vs.toArray) ⟨_, I.base _ _ ho, hc, n, hd⟩ (by rw [e]; omega) ?_
  rw [e]
  exact EP.same I (by unfold VR; exact ⟨_, rfl⟩) q

theorem WC.isiII {i : Int} (q : Q (.bool true) H) : WC C A H (.builtin "isinstance") [.int i, .raw (.type "int")] Q := .of2 fun s u v I r₁ r₂ => by
  unfold VR at r₁ r₂; obtain ⟨t, rfl⟩ := r₁; subst r₂
  exact IsiPair.int_int (EP.here I (by unfold VR; rfl) q)
theorem WC.isiIB {i : Int} (q : Q (.bool false) H) : WC C A H (.builtin "isinstance") [.int i, .raw (.type "bool")] Q := .of2 fun s u v I r₁ r₂ => by
  unfold VR at r₁ r₂; obtain ⟨t, rfl⟩ := r₁; subst r₂
  exact IsiPair.int_bool (EP.same I (by unfold VR; rfl) q)
theorem WC.isiBB {b : Bool} (q : Q (.bool true) H) : WC C A H (.builtin "isinstance") [.bool b, .raw (.type "bool")] Q := .of2 fun s u v I r₁ r₂ => by
  unfold VR at r₁ r₂; subst r₁; subst r₂
  exact IsiPair.bool_bool (EP.here I (by unfold VR; rfl) q)
theorem WC.isiBI {b : Bool} (q : Q (.bool true) H) : WC C A H (.builtin "isinstance") [.bool b, .raw (.type "int")] Q := .of2 fun s u v I r₁ r₂ => by
  unfold VR at r₁ r₂; subst r₁; subst r₂
  exact IsiPair.bool_int (EP.here I (by unfold VR; rfl) q)
theorem WC.isiLL {a : Addr} {xs : List MV} (hm : (a, MO.list xs) ∈ H) (q : Q (.bool true) H) : WC C A H (.builtin "isinstance") [.ref a, .raw (.type "list")] Q := .of2 fun s u v I r₁ r₂ => by
  unfold VR at r₁ r₂; subst r₁; subst r₂
  obtain ⟨vs, n, ho, hr⟩ := I.objs _ hm
  exact IsiPair.list_list ho rfl (EP.here I (by unfold VR; rfl) q)
theorem WC.isiTT {xs : List MV} (q : Q (.bool true) H) : WC C A H (.builtin "isinstance") [.tup xs, .raw (.type "tuple")] Q := .of2 fun s u v I r₁ r₂ => by
  unfold VR at r₁ r₂; obtain ⟨a, vs, rfl, ⟨o, ho, hc, n, hd⟩, hr⟩ := r₁; subst r₂
  exact IsiPair.tuple_tuple ho hc (EP.here I (by unfold VR; rfl) q)

theorem WC.listL {a : Addr} {xs : List MV} (hm : (a, MO.list xs) ∈ H) (hsz : xs.length ≤ sizeLine) (q : ∀ b, ¬ dom H b → Q (.ref b) ((b, .list xs) :: H)) : WC C A H (.type "list") [.ref a] Q := .of1 fun s v I r => by
  unfold VR at r; subst r
  obtain ⟨vs, n, ho, hr⟩ := I.objs _ hm
  refine call_list_seq a (T := "list") (.inl rfl) ho rfl rfl (fun h' c' hk hn => ?_) (by rw [List.size_toArray, hr.length]; exact hsz)
  obtain ⟨I', k, nd⟩ := I.add (mo := .list xs) hk get_size ⟨vs, c', hn, hr.keep (.of_keeps hk)⟩ s.toks
  exact ⟨_, _, by unfold VR; rfl, I', k, q _ nd⟩
theorem WC.listT {xs : List MV} (hsz : xs.length ≤ sizeLine) (q : ∀ b, ¬ dom H b → Q (.ref b) ((b, .list xs) :: H)) : WC C A H (.type "list") [.tup xs] Q := .of1 fun s v I r => by
  unfold VR at r
  obtain ⟨a, vs, rfl, ⟨o, ho, hc, n, hd⟩, hr⟩ := r
  refine call_list_seq a (T := "tuple") (.inr rfl) ho hc hd (fun h' c' hk hn => ?_) (by rw [List.size_toArray, hr.length]; exact hsz)
  obtain ⟨I', k, nd⟩ := I.add (mo := .list xs) hk get_size ⟨vs, c', hn, hr.keep (.of_keeps hk)⟩ s.toks
  exact ⟨_, _, by unfold VR; rfl, I', k, q _ nd⟩
theorem WC.tupL {a : Addr} {xs : List MV} (hm : (a, MO.list xs) ∈ H) (hsz : xs.length ≤ sizeLine) (q : Q (.tup xs) H) : WC C A H (.type "tuple") [.ref a] Q := .of1 fun s v I r => by
  unfold VR at r; subst r
  obtain ⟨vs, n, ho, hr⟩ := I.objs _ hm
  refine call_tuple_list (items := vs.toArray) ⟨_, ho, rfl, n, rfl⟩ (fun h' hk => ?_) (by rw [List.size_toArray, hr.length]; exact hsz)
  refine EP.grown (t := s.toks) I (fun b o e => Heap.get?_push_of_some _ (hk b o e)) ?_ q
  unfold VR
  exact ⟨_, vs, rfl, ⟨_, Heap.get?_push_size _ rfl, rfl, 0, rfl⟩, hr.keep (.of_keeps fun b o e => Heap.get?_push_of_some _ (hk b o e))⟩
theorem WC.range1 {i : Int} (q : Q (.rng 0 i) H) : WC C A H (.type "range") [.int i] Q := .of1 fun s v I r => by
  unfold VR at r; obtain ⟨t, rfl⟩ := r
  refine call_range_1 (EP.grown I (fun b o e => Heap.get?_push_of_some _ e) ?_ q)
  unfold VR; exact ⟨_, _, _, _, rfl, Heap.get?_push_size _ rfl⟩
theorem WC.range2 {i j : Int} (q : Q (.rng i j) H) : WC C A H (.type "range") [.int i, .int j] Q := .of2 fun s u v I r₁ r₂ => by
  unfold VR at r₁ r₂; obtain ⟨t, rfl⟩ := r₁; obtain ⟨t', rfl⟩ := r₂
  refine call_range_2 (EP.grown I (fun b o e => Heap.get?_push_of_some _ e) ?_ q)
  unfold VR; exact ⟨_, _, _, _, rfl, Heap.get?_push_size _ rfl⟩
end
end Mine
namespace Mine
open PySem PySem.Calls PyProof.Rows

inductive Fl where
  | next | brk | cont
  | ret (v : MV)
def FR (b h : Heap) : Fl → Flow → Prop
  | .next, f => f = .next
  | .brk, f => f = .brk
  | .cont, f => f = .cont
  | .ret x, f => ∃ v, f = .ret v ∧ VR b h x v

def Own (env : Env) (b : Addr) : Prop := b = env.locals ∨ ∃ n, (n, b) ∈ env.cells
def KpS (env : Env) (h : Heap) (H : Hp) (h' : Heap) (H' : Hp) : Prop :=
  ∀ b o, h.get? b = some o → ¬ dom H b → ¬ dom H' b ∧ ∃ o', h'.get? b = some o' ∧ (¬ Own env b → o' = o)
theorem Kp.toS {env : Env} {h h' : Heap} {H H' : Hp} (k : Kp h H h' H') : KpS env h H h' H' := fun b o e n => ⟨(k b o e n).2, o, (k b o e n).1, fun _ => rfl⟩
theorem KpS.trans {env : Env} {h h' h'' : Heap} {H H' H'' : Hp} (p : KpS env h H h' H') (q : KpS env h' H' h'' H'') : KpS env h H h'' H'' := fun b o e n => by
  obtain ⟨n', o', e', r'⟩ := p b o e n
  obtain ⟨n'', o'', e'', r''⟩ := q b o' e' n'
  exact ⟨n'', o'', e'', fun ho => (r'' ho).trans (r' ho)⟩
theorem KpS.refl {env : Env} {h : Heap} {H : Hp} : KpS env h H h H := fun _ o e n => ⟨n, o, e, fun _ => rfl⟩

def NoFree (env : Env) (S : Sg) : Prop := ∀ x ∈ names S, env.kindOf x ≠ some .free

def SP (C : Cx) (env : Env) (gs : List Str) (S : Sg) (H : Hp) (s : Shared) (Q : Fl → Sg → Hp → Prop) : Flow → Shared → Prop :=
  fun f s' => ∃ fl S' H', FR C.h₀ s'.heap fl f ∧ Inv C H' s' ∧ Fm C env gs S' H' s'.heap ∧ KpS env s.heap H s'.heap H' ∧ names S' = names S ∧ Q fl S' H'
def WS (C : Cx) (A : Around) (env : Env) (gs : List Str) (S : Sg) (H : Hp) (st : Stmt) (Q : Fl → Sg → Hp → Prop) : Prop :=
  ∀ s, Inv C H s → Fm C env gs S H s.heap → NoFree env S → wpAny (Md C) A (exec st env) (SP C env gs S H s Q) NoE s
def WSs (C : Cx) (A : Around) (env : Env) (gs : List Str) (S : Sg) (H : Hp) (ss : List Stmt) (Q : Fl → Sg → Hp → Prop) : Prop :=
  ∀ s, Inv C H s → Fm C env gs S H s.heap → NoFree env S → wpAny (Md C) A (execs ss env) (SP C env gs S H s Q) NoE s
/-- an assignment of a value -/
def WA (C : Cx) (A : Around) (env : Env) (gs : List Str) (S : Sg) (H : Hp) (target : Expr) (x : MV) (K : Sg → Hp → Prop) : Prop :=
  ∀ s v, Inv C H s → Fm C env gs S H s.heap → NoFree env S → VR C.h₀ s.heap x v →
    wpAny (Md C) A (assign target env v) (fun _ s' => ∃ S' H', Inv C H' s' ∧ Fm C env gs S' H' s'.heap ∧ KpS env s.heap H s'.heap H' ∧ names S' = names S ∧ K S' H') NoE s

theorem SP.from {C : Cx} {env : Env} {gs : List Str} {S S₁ : Sg} {H H₁ : Hp} {s s₁ : Shared} {Q : Fl → Sg → Hp → Prop} {f : Flow} {s' : Shared}
    (k : KpS env s.heap H s₁.heap H₁) (hn : names S₁ = names S) (h : SP C env gs S₁ H₁ s₁ Q f s') : SP C env gs S H s Q f s' :=
  let ⟨fl, S', H', r, I, F, k', n', q⟩ := h; ⟨fl, S', H', r, I, F, k.trans k', n'.trans hn, q⟩
theorem NoFree.of {env : Env} {S S' : Sg} (n : NoFree env S) (h : names S' = names S) : NoFree env S' := fun x hx => n x (h ▸ hx)

/-- what may be changed when nobody names it -/
def Ext (wr : List Addr) (h h' : Heap) : Prop := ∀ b o, b ∉ wr → h.get? b = some o → h'.get? b = some o
section
variable {C : Cx} {A : Around} {env : Env} {gs : List Str} {S : Sg} {H : Hp} {n : Nat}

theorem VR.ext {wr : List Addr} {b h h' : Heap} {x : MV} {v : Value} (r : VR b h x v) (e : Ext wr h h') (hi : ∀ a ∈ wr, ∀ o, h.get? a = some o → ¬ Imm o) : VR b h' x v :=
  r.keep fun a o ho hm => e a o (fun hw => hi a hw o ho hm) ho
theorem touch {wr : List Addr} {s : Shared} {h' : Heap} (I : Inv C H s) (F : Fm C env gs S H s.heap) (e : Ext wr s.heap h')
    (hw : ∀ b ∈ wr, ¬ dom H b ∧ C.h₀.get? b = none ∧ ¬ Own env b ∧ ∀ o, s.heap.get? b = some o → ¬ Imm o) (t : Nat) :
    Inv C H { s with heap := h', toks := t } ∧ Fm C env gs S H h' := by
  have tk : TupKeep s.heap h' := fun a o ho hm => e a o (fun h => (hw a h).2.2.2 o ho hm) ho
  refine ⟨⟨fun b o hb => e b o (fun h => ?_) (I.base b o hb), fun p hp => (I.objs p hp).keep tk fun ob ho => e _ _ (fun h => (hw _ h).1 (List.mem_map_of_mem hp)) ho, I.new, I.nodup, I.gens, I.os⟩, ?_⟩
  · rw [(hw b h).2.1] at hb; cases hb
  · obtain ⟨ok, ⟨mr, ⟨oL, es, ep, hL, r⟩, hv⟩, nl, nl0, hc⟩ := F
    refine ⟨ok, ⟨mr, ⟨oL, es, ep, e _ _ (fun h => (hw _ h).2.2.1 (.inl rfl)) hL, r⟩, fun x v a k => ?_⟩, nl, nl0, fun n c hcc => ?_⟩
    · obtain ⟨u, h1, h2⟩ := hv x v a k; exact ⟨u, h1, h2.keep tk⟩
    · obtain ⟨vo, ⟨oc, ho, hd⟩, nd, n0, hv⟩ := hc n c hcc
      refine ⟨vo, ⟨oc, e _ _ (fun h => (hw _ h).2.2.1 (.inr ⟨n, hcc⟩)) ho, hd⟩, nd, n0, fun v a k => ?_⟩
      obtain ⟨u, h1, h2⟩ := hv v a k; exact ⟨u, h1, h2.keep tk⟩

/-! storing a name -/
theorem store {s : Shared} {x : Str} {v : MV} {u : Value} {S' : Sg} {Q : Unit → Shared → Prop} {E : Value → Shared → Prop} {M : Model} (I : Inv C H s) (F : Fm C env gs S H s.heap) (hf : env.kindOf x ≠ some .free) (p : Put S x v S') (r : VR C.h₀ s.heap v u)
    (h : ∀ s', Inv C H s' → Fm C env gs S' H s'.heap → KpS env s.heap H s'.heap H → TupKeep s.heap s'.heap → (env.kindOf x = some .local → Heap.ExtBut env.locals s.heap s'.heap) → Q () s') : wpAny M A (storeName env x u) Q E s := by
  obtain ⟨ok, ⟨mr, hn, hv⟩, nl, nl0, hc⟩ := F
  have hns := p.names
  have nd : (Mine.names S).Nodup := ok.nodup
  rcases ok.vars x p.mem with hl | ⟨hl, c, hcc⟩
  · refine wpAny_storeName_local hl hn (fun h' hn' hs => h _ ?_ ?_ ?_ ?_ (fun _ => hs.extBut)) (by rw [ok.kind]; rfl)
    all_goals have ex : ∀ b o, b ≠ env.locals → s.heap.get? b = some o → h'.get? b = some o := fun b o hb e => hs.extBut b o hb e
    all_goals have tk : TupKeep s.heap h' := fun a o e hm => ex a o (fun q => by
      obtain ⟨oL, es, ep, hL, hd, _⟩ := hn
      rw [q, hL] at e; cases e
      rcases hm with ⟨_, _, _, hd'⟩ | ⟨_, _, hd'⟩ <;> (rw [hd] at hd'; cases hd')) e
    · exact ⟨fun b o e => ex b o (fun q => by rw [q, nl0] at e; cases e) (I.base b o e), fun p hp => (I.objs p hp).keep tk fun ob e => ex _ _ (fun q => nl (q ▸ List.mem_map_of_mem hp)) e, I.new, I.nodup, I.gens, I.os⟩
    · refine ⟨hns ▸ ok, ⟨_, hn', fun y w a k => ?_⟩, nl, nl0, fun n c' e => ?_⟩
      · rcases p.at nd a with ⟨rfl, rfl⟩ | ⟨hne, a'⟩
        · exact ⟨u, by simp, r.keep tk⟩
        · obtain ⟨z, h1, h2⟩ := hv y w a' k
          exact ⟨z, by simp [hne, h1], h2.keep tk⟩
      · obtain ⟨vo, ⟨oc, ho, hd⟩, ndc, n0, hv'⟩ := hc n c' e
        have hne : c' ≠ env.locals := fun q => ok.off n c' e q.symm
        refine ⟨vo, ⟨oc, ex _ _ hne ho, hd⟩, ndc, n0, fun w a k => ?_⟩
        rcases p.at nd a with ⟨rfl, rfl⟩ | ⟨_, a'⟩
        · exact absurd hl k
        · obtain ⟨z, h1, h2⟩ := hv' w a' k; exact ⟨z, h1, h2.keep tk⟩
    · intro b o e hnd
      refine ⟨hnd, ?_⟩
      by_cases q : b = env.locals
      · obtain ⟨oL, es, ep, hL, _⟩ := hn'
        exact ⟨oL, q ▸ hL, fun ho => absurd (.inl q) ho⟩
      · exact ⟨o, ex b o q e, fun _ => rfl⟩
    · exact tk
  · have hl' : env.kindOf x = some .cell := by
      rcases hl with h | h
      · exact h
      · exact absurd h.1 hf
    obtain ⟨vo, hcell, ndc, n0, hvc⟩ := hc x c (mem_of_lookup hcc)
    refine wpAny_storeName_cell ok.kind hl' hcc hcell (fun h' hc' hs => h _ ?_ ?_ ?_ ?_ (fun q => by rw [hl'] at q; cases q))
    all_goals have ex : ∀ b o, b ≠ c → s.heap.get? b = some o → h'.get? b = some o := fun b o hb e => hs.extBut b o hb e
    all_goals have tk : TupKeep s.heap h' := fun a o e hm => ex a o (fun q => by
      obtain ⟨oL, hL, hd⟩ := hcell
      rw [q, hL] at e; cases e
      rcases hm with ⟨_, _, _, hd'⟩ | ⟨_, _, hd'⟩ <;> (rw [hd] at hd'; cases hd')) e
    · exact ⟨fun b o e => ex b o (fun q => by rw [q, n0] at e; cases e) (I.base b o e), fun p hp => (I.objs p hp).keep tk fun ob e => ex _ _ (fun q => ndc (q ▸ List.mem_map_of_mem hp)) e, I.new, I.nodup, I.gens, I.os⟩
    · refine ⟨hns ▸ ok, ⟨mr, hn.sameBut hs (ok.off x c (mem_of_lookup hcc)), fun y w a k => ?_⟩, nl, nl0, fun n c' e => ?_⟩
      · rcases p.at nd a with ⟨rfl, rfl⟩ | ⟨_, a'⟩
        · rw [hl'] at k; cases k
        · obtain ⟨z, h1, h2⟩ := hv y w a' k
          exact ⟨z, h1, h2.keep tk⟩
      · by_cases hnx : n = x
        · subst hnx
          obtain rfl := ok.cfun n c' c e (mem_of_lookup hcc)
          refine ⟨some u, hc', ndc, n0, fun w a k => ?_⟩
          rcases p.at nd a with ⟨_, rfl⟩ | ⟨hne, _⟩
          · exact ⟨u, rfl, r.keep tk⟩
          · exact absurd rfl hne
        · obtain ⟨vo', ⟨oc, ho, hd⟩, ndc', n0', hv'⟩ := hc n c' e
          have hne : c' ≠ c := fun q => hnx (name_of_addr ok.apart e (q ▸ mem_of_lookup hcc))
          refine ⟨vo', ⟨oc, ex _ _ hne ho, hd⟩, ndc', n0', fun w a k => ?_⟩
          rcases p.at nd a with ⟨q, _⟩ | ⟨_, a'⟩
          · exact absurd q hnx
          · obtain ⟨z, h1, h2⟩ := hv' w a' k; exact ⟨z, h1, h2.keep tk⟩
    · intro b o e hnd
      refine ⟨hnd, ?_⟩
      by_cases q : b = c
      · obtain ⟨oL, hL, _⟩ := hc'
        exact ⟨oL, q ▸ hL, fun ho => absurd (.inr ⟨x, q ▸ mem_of_lookup hcc⟩) ho⟩
      · exact ⟨o, ex b o q e, fun _ => rfl⟩
    · exact tk

theorem Fm.ownImm {h : Heap} (F : Fm C env gs S H h) {a : Addr} {o : Obj} (hw : Own env a) (e : h.get? a = some o) : ¬ Imm o := by
  intro hm
  rcases hw with q | ⟨nn, q⟩
  · obtain ⟨mr, ⟨oL, es, ep, hL, hd, _⟩, _⟩ := F.ns
    rw [q, hL] at e; cases e
    rcases hm with ⟨_, _, _, hd'⟩ | ⟨_, _, hd'⟩ <;> (rw [hd] at hd'; cases hd')
  · obtain ⟨vo, ⟨oc, ho, hd⟩, _⟩ := F.cell nn a q
    rw [ho] at e; cases e
    rcases hm with ⟨_, _, _, hd'⟩ | ⟨_, _, hd'⟩ <;> (rw [hd] at hd'; cases hd')

theorem WA.name {x : Str} {p : Pos} {v : MV} {S' : Sg} {K : Sg → Hp → Prop} (h : Put S x v S') (q : K S' H) : WA C A env gs S H (.Name x p) v K := by
  intro s u I F nf r
  exact wpAny_assign_Name (store I F (nf x h.mem) h r fun s' I' F' k _ _ => ⟨S', H, I', F', k, h.names, q⟩)
theorem WA.tup2 {a b : Str} {pa pb p : Pos} {k n : Nat} {x y : MV} {S₁ S₂ : Sg} {K : Sg → Hp → Prop} (hA : AOk A n) (h₁ : Put S a x S₁) (h₂ : Put S₁ b y S₂) (q : K S₂ H) :
    WA C A env gs S H (.Tuple [.Name a pa, .Name b pb] k p) (.tup [x, y]) K := by
  intro s u I F nf r
  unfold VR at r
  obtain ⟨t, vs, rfl, ht, hr⟩ := r
  obtain ⟨v, vs', rfl, r1, hr'⟩ := hr.inv
  obtain ⟨w, vs'', rfl, r2, hr''⟩ := hr'.inv
  have := hr''.inv0; subst this
  refine wpAny_assign_Tuple hA.handled ht rfl rfl fun h' hx => ?_
  have kk : ∀ b o, s.heap.get? b = some o → h'.get? b = some o := fun b o e => hx b o (Nat.ne_of_lt (Heap.lt_size e)) e
  have I' : Inv C H { s with heap := h' } := I.grow kk s.toks
  have k' : Kp s.heap H h' H := Kp.of_keeps kk
  have F' := F.keep I k'
  have tk : TupKeep s.heap h' := .of_keeps kk
  show wpAny _ A (do holding [w] (assign (.Name a pa) env v); assignInOrder [assign (.Name b pb) env] [w]) _ _ _
  refine wpAny_bind (wpAny_holding (wpAny_assign_Name (store I' F' (nf a h₁.mem) h₁ (r1.keep tk) fun s₁ I₁ F₁ k₁ t₁ _ => ?_)))
  show wpAny _ A (do holding [] (assign (.Name b pb) env w); assignInOrder [] []) _ _ _
  have nf₁ := nf.of h₁.names
  have r2' : VR C.h₀ s₁.heap y w := (r2.keep tk).keep t₁
  refine wpAny_bind (wpAny_holding (wpAny_assign_Name (store I₁ F₁ (nf₁ b h₂.mem) h₂ r2' fun s₂ I₂ F₂ k₂ _ _ => ?_)))
  exact wpAny_pure ⟨S₂, H, I₂, F₂, (k'.toS.trans k₁).trans k₂, h₂.names.trans h₁.names, q⟩
end
end Mine
namespace Mine
open PySem PySem.Calls PyProof.Rows

section
variable {C : Cx} {A : Around} {env : Env} {gs : List Str} {S : Sg} {H : Hp} {n : Nat} {Q : Fl → Sg → Hp → Prop}

def Seq (Q : Fl → Sg → Hp → Prop) (k : Sg → Hp → Prop) : Fl → Sg → Hp → Prop
  | .next, S, H => k S H
  | .brk, S, H => Q .brk S H
  | .cont, S, H => Q .cont S H
  | .ret v, S, H => Q (.ret v) S H

theorem WSs.nil (q : Q .next S H) : WSs C A env gs S H [] Q := fun s I F _ => wpAny_execs_nil ⟨.next, S, H, rfl, I, F, KpS.refl, rfl, q⟩
theorem WSs.cons {st : Stmt} {rest : List Stmt} (h : WS C A env gs S H st (Seq Q fun S' H' => WSs C A env gs S' H' rest Q)) : WSs C A env gs S H (st :: rest) Q := by
  intro s I F nf
  refine wpAny_execs_cons (wpAny_mono (h s I F nf) (fun f s₁ h₁ => ?_) noE)
  obtain ⟨fl, S₁, H₁, r, I₁, F₁, k₁, n₁, q₁⟩ := h₁
  cases fl with
  | next =>
    have : f = .next := r
    subst this
    exact wpAny_mono (q₁ s₁ I₁ F₁ (nf.of n₁)) (fun _ _ h => h.from k₁ n₁) noE
  | brk =>
    have : f = .brk := r
    subst this
    exact ⟨.brk, S₁, H₁, rfl, I₁, F₁, k₁, n₁, q₁⟩
  | cont =>
    have : f = .cont := r
    subst this
    exact ⟨.cont, S₁, H₁, rfl, I₁, F₁, k₁, n₁, q₁⟩
  | ret x =>
    obtain ⟨v, rfl, hv⟩ := r
    exact ⟨.ret x, S₁, H₁, ⟨v, rfl, hv⟩, I₁, F₁, k₁, n₁, q₁⟩
/-- forget objects -/
theorem WSs.sub {st : List Stmt} {H' : Hp} (h : WSs C A env gs S H' st Q) (hs : H'.Sublist H) : WSs C A env gs S H st Q := by
  intro s I F nf
  have k : Kp s.heap H s.heap H' := (Kp.refl _ _).sub hs
  exact wpAny_mono (h s (I.sub hs) (F.keep I k) nf) (fun _ _ p => p.from k.toS rfl) noE
theorem WS.ret {e : Expr} {p : Pos} (h : WE C A env gs S H e fun v H' => Q (.ret v) S H') : WS C A env gs S H (.Return (some e) p) Q := by
  intro s I F nf
  refine wpAny_Return_some (wpAny_mono (h s I F) (fun v s₁ h₁ => ?_) noE)
  obtain ⟨x, H₁, r, I₁, k₁, q₁⟩ := h₁
  exact ⟨.ret x, S, H₁, ⟨v, rfl, r⟩, I₁, F.keep I k₁, k₁.toS, rfl, q₁⟩
theorem WS.if {test : Expr} {body orelse : List Stmt} {p : Pos} (h : WT C A env gs S H test fun b H' => if b = true then WSs C A env gs S H' body Q else WSs C A env gs S H' orelse Q) : WS C A env gs S H (.If test body orelse p) Q := by
  intro s I F nf
  refine wpAny_If (wpAny_mono (h s I F) (fun b s₁ h₁ => ?_) noE)
  obtain ⟨H₁, I₁, k₁, q₁⟩ := h₁
  cases b with
  | true => exact wpAny_mono (q₁ s₁ I₁ (F.keep I k₁) nf) (fun _ _ h => h.from k₁.toS rfl) noE
  | false => exact wpAny_mono (q₁ s₁ I₁ (F.keep I k₁) nf) (fun _ _ h => h.from k₁.toS rfl) noE
/-- a plain assignment -/
theorem WS.assign {x : Str} {px p : Pos} {e : Expr} (h : WE C A env gs S H e fun v H' => ∃ S', Put S x v S' ∧ Q .next S' H')
    (hs : swapsWith e (some (.Name x px)) p.line env = pure false := by with_unfolding_all rfl) : WS C A env gs S H (.Assign [.Name x px] e p) Q := by
  intro s I F nf
  refine wpAny_Assign_Name (wpAny_mono (h s I F) (fun v s₁ h₁ => ?_) noE) hs
  obtain ⟨y, H₁, r, I₁, k₁, S', pt, q₁⟩ := h₁
  exact store I₁ (F.keep I k₁) (nf x pt.mem) pt r fun s' I' F' k' _ _ => ⟨.next, S', H₁, rfl, I', F', k₁.toS.trans k', pt.names, q₁⟩
/-- an expression for its effect: it hands back None -/
theorem WS.expr {e : Expr} {p : Pos} (h : WE C A env gs S H e fun v H' => v = .none ∧ Q .next S H') (hs : swapsWith e none p.line env = pure false := by with_unfolding_all rfl) : WS C A env gs S H (.Expr e p) Q := by
  intro s I F nf
  refine wpAny_Expr (wpAny_mono (h s I F) (fun v s₁ h₁ => ?_) noE) (by unfold interactive; rw [F.ok.kind]; rfl) hs
  obtain ⟨y, H₁, r, I₁, k₁, rfl, q₁⟩ := h₁
  unfold VR at r; subst r
  exact ⟨.next, S, H₁, rfl, I₁, F.keep I k₁, k₁.toS, rfl, q₁⟩
/-! iterators -/
structure Itr (C : Cx) (A : Around) (it : Addr) (wr : List Addr) (target : Expr) (xs : List MV) (Ok : Hp → Prop) (St : Nat → Heap → Prop) (Mid : Nat → Value → Heap → Prop) : Prop where
  frame : ∀ i h h', St i h → TupKeep h h' → (∀ b ∈ wr, ∀ o, h.get? b = some o → h'.get? b = some o) → St i h'
  obj : ∀ i h, (St i h ∨ ∃ v, Mid i v h) → ∀ b ∈ wr, ∃ o, h.get? b = some o ∧ ¬ Imm o
  next : ∀ i x H s (Q : Option Value → Shared → Prop), xs[i]? = some x → Inv C H s → Ok H → St i s.heap →
    (∀ v h' t, VR C.h₀ h' x v → Mid i v h' → Ext wr s.heap h' → Q (some v) { s with heap := h', toks := t }) → wpAny (Md C) A (pyNext (.ref it)) Q NoE s
  go : ∀ i x v s (Q : Unit → Shared → Prop), xs[i]? = some x → VR C.h₀ s.heap x v → Mid i v s.heap → (∀ h' t, St (i + 1) h' → Ext wr s.heap h' → Q () { s with heap := h', toks := t }) →
    wpAny (Md C) A (letOwnedTupleGo target (.ref it) v) Q NoE s
  done : ∀ H s (Q : Option Value → Shared → Prop), Inv C H s → Ok H → St xs.length s.heap → (∀ h' t, Ext wr s.heap h' → Q none { s with heap := h', toks := t }) → wpAny (Md C) A (pyNext (.ref it)) Q NoE s
  plain : ∀ x p, target = .Name x p → ∀ i v h, Mid i v h → St (i + 1) h
  /-- asked for its iterator it is itself -/
  self : ∀ i s (Q : Value → Shared → Prop), St i s.heap → Q (.ref it) s → wpAny (Md C) A (pyIter (.ref it)) Q NoE s

/-- the head of a for: the expression evaluated and asked for its iterator -/
def WI (C : Cx) (A : Around) (env : Env) (gs : List Str) (S : Sg) (H : Hp) (iter target : Expr) (K : List MV → (Hp → Prop) → Hp → Prop) : Prop :=
  ∀ s, Inv C H s → Fm C env gs S H s.heap → wpAny (Md C) A (eval iter env) (fun x s₁ => wpAny (Md C) A (pyIter x) (fun w s₂ =>
    ∃ it wr xs Ok St Mid H₂, w = .ref it ∧ Itr C A it wr target xs Ok St Mid ∧ St 0 s₂.heap ∧ Inv C H₂ s₂ ∧ Kp s.heap H s₂.heap H₂ ∧ (∀ b ∈ wr, (∀ o, s.heap.get? b = some o → dom H b) ∧ ¬ dom H₂ b) ∧ K xs Ok H₂) NoE s₁) NoE s

def LoopQ (Q : Fl → Sg → Hp → Prop) (k : Sg → Hp → Prop) : Fl → Sg → Hp → Prop
  | .next, S, H => k S H
  | .cont, S, H => k S H
  | .brk, S, H => Q .next S H
  | .ret v, S, H => Q (.ret v) S H

theorem KpS.ext {wr : List Addr} {h₀ h h' : Heap} {H₀ H : Hp} (k : KpS env h₀ H₀ h H) (e : Ext wr h h') (hw : ∀ b ∈ wr, ∀ o, h₀.get? b = some o → dom H₀ b) : KpS env h₀ H₀ h' H := fun b o eb nb => by
  obtain ⟨n1, o1, e1, r1⟩ := k b o eb nb
  exact ⟨n1, o1, e b o1 (fun h => nb (hw b h o eb)) e1, r1⟩
theorem notOwn {s : Shared} {b : Addr} (F : Fm C env gs S H s.heap) (hb : ∀ o, s.heap.get? b = some o → dom H b) : ¬ Own env b := by
  rintro (q | ⟨nn, q⟩)
  · obtain ⟨mr, ⟨oL, es, ep, hL, hd, _⟩, _⟩ := F.ns
    exact F.nl (q ▸ hb oL (q ▸ hL))
  · obtain ⟨vo, ⟨oc, ho, hd⟩, nd, _⟩ := F.cell nn b q
    exact nd (hb oc ho)

theorem KpS.tupKeep {s : Shared} {h' : Heap} {H' : Hp} (k : KpS env s.heap H h' H') (I : Inv C H s) (F : Fm C env gs S H s.heap) : TupKeep s.heap h' := fun a o e hm => by
  obtain ⟨_, o', e', r⟩ := k a o e (I.noTup e hm)
  rw [← r fun hw => F.ownImm hw e hm]; exact e'

theorem WS.for {target iter : Expr} {body : List Stmt} {p : Pos}
    (h : WI C A env gs S H iter target fun xs Ok H₁ => ∃ I : Nat → Sg → Hp → Prop, I 0 S H₁ ∧ (∀ i S H, I i S H → Ok H) ∧
      (∀ i x S H, xs[i]? = some x → I i S H → WA C A env gs S H target x fun S₁ H₁ => WSs C A env gs S₁ H₁ body (LoopQ Q (I (i + 1)))) ∧ ∀ S H, I xs.length S H → Q .next S H)
    (hs : ∀ x, foldedSetIterable iter env x = pure x := by intro _; with_unfolding_all rfl) : WS C A env gs S H (.For target iter body [] p) Q := by
  intro s I F nf
  refine wpAny_For (wpAny_mono (h s I F) (fun x s₁ h₁ => wpAny_mono h₁ (fun w s₂ h₂ => ?_) noE) noE) hs
  obtain ⟨it, wr, xs, Ok, St, Mid, H₂, rfl, W, hst, I₂, k₂, hw, J, j0, jok, turn, fin⟩ := h₂
  have F₂ := F.keep I k₂
  have hb0 : ∀ b ∈ wr, C.h₀.get? b = none := fun b hb => by
    cases e : C.h₀.get? b with
    | none => rfl
    | some o =>
      have d := (hw b hb).1 o (I.base _ _ e)
      obtain ⟨p, hp, rfl⟩ := List.mem_map.mp d
      rw [I.new p hp] at e; cases e
  have hno : ∀ b ∈ wr, ¬ Own env b := fun b hb => notOwn F (hw b hb).1
  refine codeAny_forLoop_any (fun k s' => ∃ i S' H', i ≤ xs.length ∧ k = xs.length + 1 - i ∧ J i S' H' ∧ Inv C H' s' ∧ Fm C env gs S' H' s'.heap ∧ KpS env s.heap H s'.heap H' ∧ names S' = names S ∧ St i s'.heap ∧ ∀ b ∈ wr, ¬ dom H' b) ?_ (xs.length + 1)
    ⟨0, S, H₂, Nat.zero_le _, rfl, j0, I₂, F₂, k₂.toS, rfl, hst, fun b hb => (hw b hb).2⟩
  rintro k s' ⟨i, S', H', hi, rfl, hj, I', F', k', n', hst', hd'⟩
  have hwr : ∀ (s'' : Shared), (St i s''.heap ∨ ∃ v, Mid i v s''.heap) → ∀ b ∈ wr, ¬ dom H' b ∧ C.h₀.get? b = none ∧ ¬ Own env b ∧ ∀ o, s''.heap.get? b = some o → ¬ Imm o := fun s'' hs b hb =>
    ⟨hd' b hb, hb0 b hb, hno b hb, fun o e => by obtain ⟨o', e', hm⟩ := W.obj i _ hs b hb; rw [e] at e'; cases e'; exact hm⟩
  cases hx : xs[i]? with
  | none =>
    have hlen : i = xs.length := by
      rcases Nat.lt_or_ge i xs.length with h | h
      · rw [List.getElem?_eq_getElem h] at hx; cases hx
      · omega
    refine wpAny_mono (W.done H' s' (fun r s₁ => match r with | none => SP C env gs S H s Q .next s₁ | some _ => False) I' (jok _ _ _ hj) (hlen ▸ hst') fun h' t e => ?_) (fun r s₁ hr => ?_) noE
    · obtain ⟨I'', F''⟩ := touch I' F' e (hwr s' (.inl hst')) t
      exact ⟨.next, S', H', rfl, I'', F'', k'.ext e (fun b hb => (hw b hb).1), n', fin _ _ (hlen ▸ hj)⟩
    · cases r with
      | none => exact wpAny_execs_nil hr
      | some v => exact hr.elim
  | some x =>
    have hlt : i < xs.length := by
      rcases Nat.lt_or_ge i xs.length with h | h
      · exact h
      · rw [List.getElem?_eq_none h] at hx; cases hx
    refine wpAny_mono (W.next i x H' s' (fun r s₁ => match r with | none => False | some v => wpAny (Md C) A (letOwnedTupleGo target (.ref it) v) (fun _ s₂ => wpAny (Md C) A (PySem.assign target env v) (fun _ s₃ =>
      wpAny (Md C) A (execs body env) (fun f s₄ => match f with
        | .next | .cont => ∃ m, m < xs.length + 1 - i ∧ ∃ i S' H', i ≤ xs.length ∧ m = xs.length + 1 - i ∧ J i S' H' ∧ Inv C H' s₄ ∧ Fm C env gs S' H' s₄.heap ∧ KpS env s.heap H s₄.heap H' ∧ names S' = names S ∧ St i s₄.heap ∧ ∀ b ∈ wr, ¬ dom H' b
        | .brk => SP C env gs S H s Q .next s₄
        | .ret v => SP C env gs S H s Q (.ret v) s₄) NoE s₃) NoE s₂) NoE s₁) hx I' (jok _ _ _ hj) hst' fun v h' t hv hmid e => ?_) (fun r s₁ hr => ?_) noE
    · obtain ⟨I₁, F₁⟩ := touch I' F' e (hwr s' (.inl hst')) t
      refine W.go i x v _ _ hx hv hmid fun h'' t' hst'' e' => ?_
      obtain ⟨I₃, F₃⟩ := touch I₁ F₁ e' (hwr { s' with heap := h', toks := t } (.inr ⟨_, hmid⟩)) t'
      have k₃ : KpS env s.heap H h'' H' := (k'.ext e fun b hb => (hw b hb).1).ext e' fun b hb => (hw b hb).1
      have hv₃ : VR C.h₀ h'' x v := hv.ext e' fun a ha o ho => (hwr { s' with heap := h', toks := t } (.inr ⟨_, hmid⟩) a ha).2.2.2 o ho
      refine wpAny_mono (turn i x S' H' hx hj _ v I₃ F₃ (nf.of n') hv₃) (fun _ s₄ h₄ => ?_) noE
      obtain ⟨S₄, H₄, I₄, F₄, k₄, n₄, w₄⟩ := h₄
      refine wpAny_mono (w₄ s₄ I₄ F₄ ((nf.of n').of n₄)) (fun f s₅ h₅ => ?_) noE
      obtain ⟨fl, S₅, H₅, r₅, I₅, F₅, k₅, n₅, q₅⟩ := h₅
      have k45 : KpS env h'' H' s₅.heap H₅ := k₄.trans k₅
      have keepwr : ∀ b ∈ wr, ¬ dom H₅ b ∧ ∀ o, h''.get? b = some o → s₅.heap.get? b = some o := fun b hb => by
        obtain ⟨o, ho, _⟩ := W.obj (i + 1) h'' (.inl hst'') b hb
        obtain ⟨n6, o6, e6, r6⟩ := k45 b o ho (hd' b hb)
        refine ⟨n6, fun o' ho' => ?_⟩
        rw [ho] at ho'; cases ho'
        rw [← r6 (hno b hb)]; exact e6
      have hst5 : St (i + 1) s₅.heap := W.frame _ _ _ hst'' (k45.tupKeep I₃ F₃) fun b hb o ho => (keepwr b hb).2 o ho
      have again : J (i + 1) S₅ H₅ → ∃ m, m < xs.length + 1 - i ∧ ∃ i S' H', i ≤ xs.length ∧ m = xs.length + 1 - i ∧ J i S' H' ∧ Inv C H' s₅ ∧ Fm C env gs S' H' s₅.heap ∧ KpS env s.heap H s₅.heap H' ∧ names S' = names S ∧ St i s₅.heap ∧ ∀ b ∈ wr, ¬ dom H' b :=
        fun hj' => ⟨xs.length + 1 - (i + 1), by omega, i + 1, S₅, H₅, hlt, rfl, hj', I₅, F₅, k₃.trans k45, (n₅.trans n₄).trans n', hst5, fun b hb => (keepwr b hb).1⟩
      cases fl with
      | next =>
        have : f = .next := r₅
        subst this
        exact again q₅
      | cont =>
        have : f = .cont := r₅
        subst this
        exact again q₅
      | brk =>
        have : f = .brk := r₅
        subst this
        exact ⟨.next, S₅, H₅, rfl, I₅, F₅, k₃.trans k45, (n₅.trans n₄).trans n', q₅⟩
      | ret y =>
        obtain ⟨u, rfl, hu⟩ := r₅
        exact ⟨.ret y, S₅, H₅, ⟨u, rfl, hu⟩, I₅, F₅, k₃.trans k45, (n₅.trans n₄).trans n', q₅⟩
    · cases r with
      | none => exact hr.elim
      | some v =>
        exact wpAny_mono hr (fun _ _ h => wpAny_mono h (fun _ _ h => wpAny_mono h (fun f _ h => by cases f <;> exact h) noE) noE) noE

end
end Mine
namespace Mine
open PySem PySem.Calls PyProof.Rows

/-! entering a def -/
def scopeOk (sc : Scope) (ns gs : List Str) : Bool :=
  decide ns.Nodup && ns.all (fun x => !(x == ("__debug__" : Str)) && (sc.names.lookup x == some .local || sc.names.lookup x == some .cell)) &&
  gs.all (fun x => sc.names.lookup x == some .globalImplicit) && decide ((sc.names.filter (fun p => p.2 == .cell)).map (·.1)).Nodup &&
  sc.kind == .function && !sc.isCoroutine && !sc.isGenerator

theorem cellsFrom_fst : ∀ (names : List (Str × NameKind)) (n : Nat) (acc : List (Str × Addr)), (cellsFrom n names acc).map (·.1) = ((names.filter (fun p => p.2 == .cell)).map (·.1)).reverse ++ acc.map (·.1)
  | [], _, _ => by simp [cellsFrom]
  | (x, k) :: r, n, acc => by
    unfold cellsFrom
    by_cases hk : (k == .cell) = true
    · rw [if_pos hk, cellsFrom_fst r]
      simp [hk]
    · rw [if_neg hk, cellsFrom_fst r]
      simp [hk]
theorem mem_lookup {α : Type} : ∀ {l : List (Str × α)} {n : Str}, n ∈ l.map (·.1) → ∃ c, l.lookup n = some c
  | (k, v) :: r, n, h => by
    rw [List.lookup_cons]
    cases hb : n == k with
    | true => exact ⟨v, rfl⟩
    | false =>
      simp only [List.map_cons, List.mem_cons] at h
      rcases h with rfl | h
      · simp at hb
      · exact mem_lookup h
theorem fun_of_nodup {α : Type} : ∀ {l : List (Str × α)}, (l.map (·.1)).Nodup → ∀ {n : Str} {c c' : α}, (n, c) ∈ l → (n, c') ∈ l → c = c'
  | (k, v) :: r, h, n, c, c', h1, h2 => by
    simp only [List.map_cons, List.nodup_cons] at h
    rcases List.mem_cons.mp h1 with e1 | h1 <;> rcases List.mem_cons.mp h2 with e2 | h2
    · cases e1; cases e2; rfl
    · cases e1; exact absurd (List.mem_map_of_mem (f := (·.1)) h2) h.1
    · cases e2; exact absurd (List.mem_map_of_mem (f := (·.1)) h1) h.1
    · exact fun_of_nodup h.2 h1 h2

theorem envOk_of {sc : Scope} {ns gs : List Str} (h : scopeOk sc ns gs = true) {env : Env} {L : Addr} (e1 : env.scope = sc) (e2 : env.globals = mainGlobals) (e3 : env.builtins = builtinsNs) (e4 : env.cells = cellsFrom (L + 1) sc.names []) (e5 : env.locals = L)
    (ap : env.cells.Pairwise fun x y => x.2 ≠ y.2) (ab : ∀ n c, (n, c) ∈ env.cells → L < c) : EnvOk env ns gs := by
  simp only [scopeOk, Bool.and_eq_true, decide_eq_true_eq, List.all_eq_true, Bool.or_eq_true, beq_iff_eq, Bool.not_eq_true', beq_eq_false_iff_ne] at h
  obtain ⟨⟨⟨⟨⟨⟨h1, h2⟩, h3⟩, h4⟩, h5⟩, h6⟩, h7⟩ := h
  have hf := cellsFrom_fst sc.names (L + 1) []
  refine ⟨e1 ▸ h5, e2, e3, h1, fun x hx => by simpa using (h2 x hx).1, fun x hx => ?_, fun x hx => by unfold Env.kindOf; rw [e1]; exact h3 x hx, ap, fun n c c' a b => ?_, fun n c a => ?_⟩
  · unfold Env.kindOf
    rw [e1]
    rcases (h2 x hx).2 with h | h
    · exact .inl h
    · refine .inr ⟨.inl h, ?_⟩
      rw [e4]
      refine mem_lookup ?_
      rw [hf]
      simp only [List.map_nil, List.append_nil, List.mem_reverse]
      exact List.mem_map.mpr ⟨(x, .cell), List.mem_filter.mpr ⟨mem_of_lookup h, rfl⟩, rfl⟩
  · refine fun_of_nodup (l := env.cells) ?_ a b
    rw [e4, hf, List.map_nil, List.append_nil]
    exact ((List.reverse_perm _).nodup_iff).mpr h4
  · rw [e5]; exact Nat.ne_of_lt (ab n c a)

theorem bindL_off {k : Str → Option NameKind} : ∀ {ps : List Str} {vs : List Value} {m : Str → Option Value} {x : Str}, x ∉ ps → bindL k (ps.zip vs) m x = m x
  | [], vs, m, x, _ => by simp [bindL]
  | p :: ps, [], m, x, _ => by simp [bindL]
  | p :: ps, v :: vs, m, x, h => by
    simp only [List.mem_cons, not_or] at h
    simp only [List.zip_cons_cons, bindL]
    rw [bindL_off h.2]
    split
    · simp [h.1]
    · rfl
theorem bindC_off {k : Str → Option NameKind} : ∀ {ps : List Str} {vs : List Value} {m : Str → Option Value} {x : Str}, x ∉ ps → bindC k (ps.zip vs) m x = m x
  | [], vs, m, x, _ => by simp [bindC]
  | p :: ps, [], m, x, _ => by simp [bindC]
  | p :: ps, v :: vs, m, x, h => by
    simp only [List.mem_cons, not_or] at h
    simp only [List.zip_cons_cons, bindC]
    rw [bindC_off h.2]
    split
    · rfl
    · simp [h.1]
theorem bindL_at {k : Str → Option NameKind} : ∀ {ps : List Str} {vs : List Value} {m : Str → Option Value} {i : Nat} {x : Str} {v : Value}, ps.Nodup → ps[i]? = some x → vs[i]? = some v → k x = some .local → bindL k (ps.zip vs) m x = some v
  | [], _, _, i, _, _, _, h, _, _ => by simp at h
  | p :: ps, [], _, i, _, _, _, _, h, _ => by simp at h
  | p :: ps, u :: vs, m, i, x, v, nd, h1, h2, hk => by
    simp only [List.zip_cons_cons, bindL]
    have nd' := List.nodup_cons.mp nd
    cases i with
    | zero =>
      simp at h1 h2; subst h1; subst h2
      rw [bindL_off nd'.1]
      simp [hk]
    | succ i => simp at h1 h2; exact bindL_at nd'.2 h1 h2 hk
theorem bindC_at {k : Str → Option NameKind} : ∀ {ps : List Str} {vs : List Value} {m : Str → Option Value} {i : Nat} {x : Str} {v : Value}, ps.Nodup → ps[i]? = some x → vs[i]? = some v → k x ≠ some .local → bindC k (ps.zip vs) m x = some v
  | [], _, _, i, _, _, _, h, _, _ => by simp at h
  | p :: ps, [], _, i, _, _, _, _, h, _ => by simp at h
  | p :: ps, u :: vs, m, i, x, v, nd, h1, h2, hk => by
    simp only [List.zip_cons_cons, bindC]
    have nd' := List.nodup_cons.mp nd
    cases i with
    | zero =>
      simp at h1 h2; subst h1; subst h2
      rw [bindC_off nd'.1]
      simp [hk]
    | succ i => simp at h1 h2; exact bindC_at nd'.2 h1 h2 hk

def startS : List Str → List MV → List Str → Sg
  | p :: ps, x :: xs, os => (p, some x) :: startS ps xs os
  | _, _, os => os.map fun y => (y, none)
theorem startS_names : ∀ {ps : List Str} {xs : List MV} {os : List Str}, xs.length = ps.length → names (startS ps xs os) = ps ++ os
  | [], [], os, _ => by simp [startS, names, Function.comp_def]
  | p :: ps, x :: xs, os, h => by
    simp only [List.length_cons, Nat.add_right_cancel_iff] at h
    have := startS_names (os := os) h
    simp only [names] at this ⊢
    simp only [startS, List.map_cons, this, List.cons_append]
theorem nones_at : ∀ {os : List Str} {x : Str} {v : MV}, ¬ At (os.map fun y => (y, none)) x v
  | [], _, _, a => by cases a
  | o :: os, x, v, a => by
    simp only [List.map_cons] at a
    cases a with
    | there a => exact nones_at a
theorem startS_at : ∀ {ps : List Str} {xs : List MV} {os : List Str} {x : Str} {v : MV}, At (startS ps xs os) x v → ∃ i : Nat, ps[i]? = some x ∧ xs[i]? = some v
  | p :: ps, y :: xs, os, x, v, a => by
    unfold startS at a
    cases a with
    | here => exact ⟨0, rfl, rfl⟩
    | there a => obtain ⟨i, h1, h2⟩ := startS_at a; exact ⟨i + 1, by simpa using h1, by simpa using h2⟩
  | [], xs, os, x, v, a => by
    exfalso
    unfold startS at a
    exact nones_at a
  | _ :: _, [], os, x, v, a => by
    exfalso
    unfold startS at a
    exact nones_at a

structure EnvK (env : Env) (ns cs : List Str) : Prop where
  nofree : ∀ x ∈ ns, env.kindOf x ≠ some .free
  cell : ∀ x ∈ cs, env.kindOf x = some .cell
inductive Caps (S : Sg) (cs : List Str) : Sg → Prop
  | nil : Caps S cs []
  | cons {y v r} : At S y v → y ∈ cs → Caps S cs r → Caps S cs ((y, some v) :: r)
theorem Caps.at {S : Sg} {cs : List Str} {caps : Sg} (c : Caps S cs caps) : ∀ y v, At caps y v → At S y v := by
  induction c with
  | nil => intro y v a; cases a
  | cons h _ _ ih =>
    intro y v a
    cases a with
    | here => exact h
    | there a => exact ih y v a
theorem Caps.names {env : Env} {S : Sg} {ns cs : List Str} {caps : Sg} (c : Caps S cs caps) (K : EnvK env ns cs) : ∀ y ∈ Mine.names caps, ∃ v, At S y v ∧ env.kindOf y ≠ some .local := by
  induction c with
  | nil => intro y h; cases h
  | @cons z v r h hm _ ih =>
    intro y hy
    rcases List.mem_cons.mp hy with rfl | hy
    · exact ⟨v, h, by rw [K.cell _ hm]; decide⟩
    · exact ih y hy

def retOf : Fl → MV
  | .ret v => v
  | _ => .none
/-- what a body must reach -/
def Ret (Q : MV → Hp → Prop) : Fl → Sg → Hp → Prop := fun fl _ H => ∃ H', H'.Sublist H ∧ Q (retOf fl) H'

section
variable {C : Cx} {A : Around} {H : Hp} {n : Nat} {Q : MV → Hp → Prop}

theorem WF.intro {f name : Str} {params : Arguments} {body : List Stmt} {scope : Scope} (g : Fn C f name params body scope) (hA : AOk A (n + 1)) {xs : List MV} (ps os gs cs : List Str) (S : Sg)
    (hsc : (scopeOk scope (ps ++ os) gs && cs.all fun x => scope.names.lookup x == some .cell) = true) (hl : xs.length = ps.length)
    (hb : ∀ vs pm cd doc, vs.length = ps.length → bindArgs (docDef name params body scope pm cd doc) ⟨vs, []⟩ = pure (ps.zip vs)) (hS : startS ps xs os = S)
    (h : ∀ env, AOk (A.deeper env) n → EnvK env (ps ++ os) cs → WSs C (A.deeper env) env gs S H body (Ret Q)) : WF C A H f xs Q := by
  subst hS
  obtain ⟨hsc, hcs⟩ := Bool.and_eq_true_iff.mp hsc
  obtain ⟨a, o, pm, cd, doc, h1, h2, h3, h4⟩ := g.at'
  intro a' ha' s vs I r
  rw [h1] at ha'; cases ha'
  have hlen : vs.length = ps.length := r.length.trans hl
  have hsc' := hsc
  simp only [scopeOk, Bool.and_eq_true, decide_eq_true_eq, List.all_eq_true, Bool.or_eq_true, beq_iff_eq, Bool.not_eq_true', beq_eq_false_iff_ne] at hsc'
  obtain ⟨⟨⟨⟨⟨⟨nd, hv⟩, hgs⟩, hcn⟩, hk⟩, hco⟩, hgen⟩ := hsc'
  have hnd : ps.Nodup := (List.nodup_append.mp nd).1
  have hroom : A.depth < recursionLimit := by have := hA.depth; omega
  refine wpAny_call (codeAny_call_cells (fd := docDef name params body scope pm cd doc) (binds := ps.zip vs) hroom (I.base _ _ h2) h3 (C.hlim.keeps I.base) (h4.keeps I.base) rfl (hb vs pm cd doc hlen) rfl ?_ (fun s₁ X => ?_) hco hgen hk)
  · intro x hx
    have hxp : x.1 ∈ ps ++ os := List.mem_append_left _ (List.of_mem_zip (a := x.1) (b := x.2) hx).1
    rcases (hv x.1 hxp).2 with q | q
    · exact .inl q
    · refine .inr ⟨q, ?_⟩
      have : x.1 ∈ (cellsFrom (s.heap.objs.size + 1) scope.names []).map (·.1) := by
        rw [cellsFrom_fst]
        simp only [List.map_nil, List.append_nil, List.mem_reverse]
        exact List.mem_map.mpr ⟨(x.1, .cell), List.mem_filter.mpr ⟨mem_of_lookup q, rfl⟩, rfl⟩
      obtain ⟨c, hc⟩ := mem_lookup this
      show (List.lookup x.1 (cellsFrom (s.heap.objs.size + 1) scope.names [])).isSome = true
      rw [hc]; rfl
  · generalize henv : callEnvC (docDef name params body scope pm cd doc) s.heap.objs.size a = env at X ⊢
    have eL : env.locals = s.heap.objs.size := by rw [← henv]; rfl
    have eC : env.cells = cellsFrom (s.heap.objs.size + 1) scope.names [] := by rw [← henv]; rfl
    have ok : EnvOk env (ps ++ os) gs := envOk_of hsc (L := s.heap.objs.size) (by rw [← henv]; rfl) (by rw [← henv]; rfl) (by rw [← henv]; rfl) eC eL X.apart (eL ▸ X.above)
    have hk' : ∀ x, env.kindOf x = scope.names.lookup x := fun x => by rw [← henv]; rfl
    obtain ⟨⟨h', tk, hsame⟩, hns, hkeep, hfresh⟩ := X.toInCall
    subst hsame
    have hn := startS_names (os := os) hl
    have fresh : ∀ b, s.heap.objs.size ≤ b → ¬ dom H b ∧ C.h₀.get? b = none := fun b hb => ⟨fun d => Nat.lt_irrefl _ (Nat.lt_of_lt_of_le (I.lt d) hb), by
      cases e : C.h₀.get? b with
      | none => rfl
      | some o => exact absurd (Heap.lt_size (I.base _ _ e)) (Nat.not_lt.mpr hb)⟩
    have I₁ : Inv C H { s with heap := h', toks := tk } := I.grow hkeep tk
    have tkk : TupKeep s.heap h' := .of_keeps hkeep
    have F₁ : Fm C env gs (startS ps xs os) H h' := by
      refine ⟨hn ▸ ok, ⟨_, hns, fun x v at' kl => ?_⟩, (fresh _ (Nat.le_of_eq eL.symm)).1, (fresh _ (Nat.le_of_eq eL.symm)).2, fun nm c hc => ?_⟩
      · obtain ⟨i, p1, p2⟩ := startS_at at'
        obtain ⟨u, hu, hr⟩ := r.get p2
        exact ⟨u, bindL_at hnd p1 hu kl, hr.keep tkk⟩
      · have hab : s.heap.objs.size < c := eL ▸ X.above nm c hc
        have hcl : env.cells.lookup nm = some c := by
          obtain ⟨c', hc'⟩ := mem_lookup (List.mem_map_of_mem (f := (·.1)) hc)
          rw [hc', ok.cfun nm c' c (mem_of_lookup hc') hc]
        refine ⟨_, X.cell nm c hcl, (fresh c (Nat.le_of_lt hab)).1, (fresh c (Nat.le_of_lt hab)).2, fun v at' kl => ?_⟩
        obtain ⟨i, p1, p2⟩ := startS_at at'
        obtain ⟨u, hu, hr⟩ := r.get p2
        exact ⟨u, bindC_at hnd p1 hu kl, hr.keep tkk⟩
    have nf : NoFree env (startS ps xs os) := fun x hx q => by
      rw [hn] at hx
      rw [hk'] at q
      rcases (hv x hx).2 with w | w <;> (rw [w] at q; cases q)
    have ek : EnvK env (ps ++ os) cs := ⟨fun x hx => nf x (hn ▸ hx), fun x hx => by rw [hk']; simpa using List.all_eq_true.mp hcs x hx⟩
    refine wpAny_mono (h env (hA.deeper env) ek _ I₁ F₁ nf) (fun fl s' h' => ?_) noE
    obtain ⟨fl', S', H', rf, I', F', k', n', H'', hsub, q⟩ := h'
    have hkp : Kp s.heap H s'.heap H' := fun b o e nb => by
      obtain ⟨n1, o1, e1, r1⟩ := k' b o (hkeep b o e) nb
      have : ¬ Own env b := by
        rintro (w | ⟨nm, w⟩)
        · rw [w, eL] at e; exact absurd (Heap.lt_size e) (Nat.lt_irrefl _)
        · have : s.heap.objs.size < b := eL ▸ X.above nm b w
          exact absurd (Heap.lt_size e) (Nat.not_lt.mpr (Nat.le_of_lt this))
      rw [r1 this] at e1
      exact ⟨e1, n1⟩
    have fin : ∀ (u : Value), VR C.h₀ s'.heap (retOf fl') u → EP C H s Q u s' := fun u hu => ⟨retOf fl', H'', hu, I'.sub hsub, hkp.sub hsub, q⟩
    cases fl' with
    | next => have : fl = .next := rf; subst this; exact fin _ (by unfold retOf VR; rfl)
    | brk => have : fl = .brk := rf; subst this; exact fin _ (by unfold retOf VR; rfl)
    | cont => have : fl = .cont := rf; subst this; exact fin _ (by unfold retOf VR; rfl)
    | ret y => obtain ⟨u, rfl, hu⟩ := rf; exact fin _ hu
end
end Mine
namespace Mine
open PySem PySem.Calls PyProof.Rows

section
variable {C : Cx} {A : Around} {env : Env} {gs : List Str} {S : Sg} {H : Hp} {n : Nat}

theorem go_other {M : Model} {A : Around} {E : Value → Shared → Prop} {s : Shared} {target : Expr} {it : Addr} {v : Value} {o : Obj} {T : String} {Q : Unit → Shared → Prop} (ho : s.heap.get? it = some o) (hc : o.cls = .type T)
    (hT : (["enumerate", "zip", "dict_itemiterator", "dict_reverseitemiterator", "odict_iterator", "itertools.zip_longest", "itertools.pairwise"] : List String).contains T = false) (h : Q () s) :
    wpAny M A (letOwnedTupleGo target (.ref it) v) Q E s := by
  have key : wpAny M A (do
      let (.ref r, .ref a) := (Value.ref it, v) | return
      let o ← load r
      match o.cls, o.data with
      | .type n, .fields vs =>
        if ["enumerate", "zip", "dict_itemiterator", "dict_reverseitemiterator", "odict_iterator", "itertools.zip_longest", "itertools.pairwise"].contains n && vs[0]? == some (rawInt a) then
          rule "for.unpacks-the-owned-tuple"
          updateField r 0 .none
      | _, _ => pure ()) Q E s := by
    cases v with
    | ref a =>
      refine wpAny_bind (wpAny_load ho ?_)
      rw [hc]
      cases o.data with
      | fields vs =>
        simp only [hT, Bool.false_and, Bool.false_eq_true, if_false]
        exact wpAny_pure h
      | _ => exact wpAny_pure h
    | _ => exact wpAny_pure h
  unfold letOwnedTupleGo
  cases target with
  | Tuple => exact key
  | List => exact key
  | _ => exact wpAny_pure h

def ItOf (C : Cx) (A : Around) (H : Hp) (target : Expr) (x : MV) (K : List MV → (Hp → Prop) → Hp → Prop) : Prop :=
  ∀ s v, Inv C H s → VR C.h₀ s.heap x v → wpAny (Md C) A (pyIter v) (fun w s₂ =>
    ∃ it wr xs Ok St Mid H₂, w = .ref it ∧ Itr C A it wr target xs Ok St Mid ∧ St 0 s₂.heap ∧ Inv C H₂ s₂ ∧ Kp s.heap H s₂.heap H₂ ∧ (∀ b ∈ wr, (∀ o, s.heap.get? b = some o → dom H b) ∧ ¬ dom H₂ b) ∧ K xs Ok H₂) NoE s
theorem WI.of {iter target : Expr} {K : List MV → (Hp → Prop) → Hp → Prop} (h : WE C A env gs S H iter fun x H₁ => ItOf C A H₁ target x K) : WI C A env gs S H iter target K := by
  intro s I F
  refine wpAny_mono (h s I F) (fun v s₁ h₁ => ?_) noE
  obtain ⟨x, H₁, r₁, I₁, k₁, q₁⟩ := h₁
  refine wpAny_mono (q₁ s₁ v I₁ r₁) (fun w s₂ h₂ => ?_) noE
  obtain ⟨it, wr, xs, Ok, St, Mid, H₂, e, W, hst, I₂, k₂, hw, q₂⟩ := h₂
  refine ⟨it, wr, xs, Ok, St, Mid, H₂, e, W, hst, I₂, k₁.trans k₂, fun b hb => ⟨fun o eb => ?_, (hw b hb).2⟩, q₂⟩
  by_cases d : dom H b
  · exact d
  · have := k₁ b o eb d
    exact absurd ((hw b hb).1 o this.1) this.2

theorem Ext.of_extBut {a : Addr} {h h' : Heap} (e : Heap.ExtBut a h h') : Ext [a] h h' := fun b o n e' => e b o (fun q => n (by simp [q])) e'

theorem ItOf.list {target : Expr} {a : Addr} {xs : List MV} {K : List MV → (Hp → Prop) → Hp → Prop} (hA : AOk A n) (hm : (a, MO.list xs) ∈ H) (q : K xs (fun H => (a, MO.list xs) ∈ H) H) : ItOf C A H target (.ref a) K := by
  intro s v I r
  unfold VR at r; subst r
  obtain ⟨vs, m, ho, hr⟩ := I.objs _ hm
  have hl : s.heap.IsList a vs.toArray := ⟨_, ho, rfl, m, rfl⟩
  have hk : ∀ b o, s.heap.get? b = some o → (s.heap.push { cls := .type "list_iterator", data := .fields #[.ref a, .int 0 0] }).get? b = some o := fun b o e => Heap.get?_push_of_some _ e
  refine wpAny_pyIter_list hl ⟨s.heap.objs.size, [s.heap.objs.size], xs, _, fun i h => h.IsListIter s.heap.objs.size a i, fun i _ h => h.IsListIter s.heap.objs.size a (i + 1), H, rfl, ?_, ⟨_, Heap.get?_push_size _ rfl, rfl, rfl⟩, I.grow hk s.toks, Kp.of_keeps hk, ?_, q⟩
  · refine ⟨fun i h h' st _ hk => ?_, fun i h st b hb => ?_, fun i x H' s' Q hx I' hok st hQ => ?_, fun i x v s' Q hx hv st hQ => ?_, fun H' s' Q I' hok st hQ => ?_, ?plain, fun i s' Q st hQ => ?_⟩
    · obtain ⟨o, e, r⟩ := st; exact ⟨o, hk _ (by simp) _ e, r⟩
    · have hb : b = s.heap.objs.size := by simpa using hb
      subst hb
      rcases st with ⟨o, e, c, d⟩ | ⟨_, o, e, c, d⟩ <;> exact ⟨o, e, by simp [Imm, c]⟩
    · obtain ⟨vs', m', ho', hr'⟩ := I'.objs _ hok
      obtain ⟨v, hv, rv⟩ := hr'.get hx
      refine wpAny_pyNext_list_item st ⟨_, ho', rfl, m', rfl⟩ (x := v) (by simpa using hv) fun h' st' hs' => ?_
      exact hQ v h' s'.toks (rv.ext (Ext.of_extBut hs'.extBut) (fun b hb o e => by
        have hb : b = s.heap.objs.size := by simpa using hb
        subst hb
        obtain ⟨o', e', c, d⟩ := st
        rw [e] at e'; cases e'; simp [Imm, c])) st' (Ext.of_extBut hs'.extBut)
    · obtain ⟨o, e, c, d⟩ := id st
      exact go_other e c (by decide +kernel) (hQ s'.heap s'.toks st fun _ _ _ e => e)
    · obtain ⟨vs', m', ho', hr'⟩ := I'.objs _ hok
      refine wpAny_pyNext_list_end hA.handled st ⟨_, ho', rfl, m', rfl⟩ ?_ fun h' hx => hQ h' s'.toks (Ext.of_extBut hx)
      simp [hr'.length]
    case plain => exact fun _ _ _ _ _ _ st => st
    · exact wpAny_pyIter_listiter st hQ
  · intro b hb
    have hb : b = s.heap.objs.size := by simpa using hb
    subst hb
    exact ⟨fun o e => absurd (Heap.lt_size e) (Nat.lt_irrefl _), I.fresh⟩

theorem ItOf.tup {target : Expr} {xs : List MV} {K : List MV → (Hp → Prop) → Hp → Prop} (hA : AOk A n) (q : K xs (fun _ => True) H) : ItOf C A H target (.tup xs) K := by
  intro s v I r
  unfold VR at r
  obtain ⟨a, vs, rfl, hl, hr⟩ := r
  have hk : ∀ b o, s.heap.get? b = some o → (s.heap.push { cls := .type "tuple_iterator", data := .fields #[.ref a, .int 0 0] }).get? b = some o := fun b o e => Heap.get?_push_of_some _ e
  refine wpAny_pyIter_tuple hl ⟨s.heap.objs.size, [s.heap.objs.size], xs, _, fun i h => h.IsTupleIter s.heap.objs.size a i ∧ h.IsTuple a vs.toArray ∧ VRs C.h₀ h xs vs, fun i _ h => h.IsTupleIter s.heap.objs.size a (i + 1) ∧ h.IsTuple a vs.toArray ∧ VRs C.h₀ h xs vs, H, rfl, ?_,
    ⟨⟨_, Heap.get?_push_size _ rfl, rfl, rfl⟩, hl.push _, hr.keep (.of_keeps hk)⟩, I.grow hk s.toks, Kp.of_keeps hk, ?_, q⟩
  · have imm : ∀ {h : Heap} {i : Nat}, h.IsTupleIter s.heap.objs.size a i → ∀ b ∈ [s.heap.objs.size], ∀ o, h.get? b = some o → ¬ Imm o := fun st b hb o e => by
      have hb : b = s.heap.objs.size := by simpa using hb
      subst hb
      obtain ⟨o', e', c, d⟩ := st
      rw [e] at e'; cases e'; simp [Imm, c]
    have hne : ∀ {h : Heap} {i : Nat}, h.IsTupleIter s.heap.objs.size a i → h.IsTuple a vs.toArray → a ≠ s.heap.objs.size := fun st ht q => by
      obtain ⟨o', e', c, d⟩ := st
      obtain ⟨o, e, c', _⟩ := ht
      rw [q, e'] at e; cases e
      rw [c] at c'; simp at c'
    refine ⟨fun i h h' st tk hk => ?_, fun i h st b hb => ?_, fun i x H' s' Q hx I' hok st hQ => ?_, fun i x v s' Q hx hv st hQ => ?_, fun H' s' Q I' hok st hQ => ?_, ?plain, fun i s' Q st hQ => ?_⟩
    · obtain ⟨⟨o, e, r⟩, ⟨o2, e2, c2, m2, d2⟩, r2⟩ := st; exact ⟨⟨o, hk _ (by simp) _ e, r⟩, ⟨o2, tk _ _ e2 (.inl ⟨c2, _, m2, d2⟩), c2, m2, d2⟩, r2.keep tk⟩
    · have hb : b = s.heap.objs.size := by simpa using hb
      subst hb
      rcases st with ⟨⟨o, e, c, d⟩, _⟩ | ⟨_, ⟨o, e, c, d⟩, _⟩ <;> exact ⟨o, e, by simp [Imm, c]⟩
    · obtain ⟨v, hv, rv⟩ := st.2.2.get hx
      refine wpAny_pyNext_tuple_item st.1 st.2.1 (x := v) (by simpa using hv) fun h' st' hs' => ?_
      have ex : Ext [s.heap.objs.size] s'.heap h' := Ext.of_extBut hs'.extBut
      have tk : TupKeep s'.heap h' := fun b o e hm => ex b o (fun hb => imm st.1 b hb o e hm) e
      exact hQ v h' s'.toks (rv.keep tk) ⟨st', st.2.1.extBut hs'.extBut (hne st.1 st.2.1), st.2.2.keep tk⟩ ex
    · obtain ⟨⟨o, e, c, d⟩, _⟩ := id st
      exact go_other e c (by decide +kernel) (hQ s'.heap s'.toks st fun _ _ _ e => e)
    · refine wpAny_pyNext_tuple_end hA.handled st.1 st.2.1 ?_ fun h' hx => hQ h' s'.toks (Ext.of_extBut hx)
      simp [st.2.2.length]
    case plain => exact fun _ _ _ _ _ _ st => st
    · exact (Walks.tuple hA.handled s.heap.objs.size a (hne st.1 st.2.1) vs.toArray).self i s' Q NoE ⟨st.1, st.2.1⟩ hQ
  · intro b hb
    have hb : b = s.heap.objs.size := by simpa using hb
    subst hb
    exact ⟨fun o e => absurd (Heap.lt_size e) (Nat.lt_irrefl _), I.fresh⟩

def rangeL (lo hi : Int) : List MV := (List.range (hi - lo).toNat).map fun (k : Nat) => MV.int (lo + (k : Int))
theorem rangeL_length (lo hi : Int) : (rangeL lo hi).length = (hi - lo).toNat := by simp [rangeL]
theorem rangeL_get {lo hi : Int} {i : Nat} {x : MV} (h : (rangeL lo hi)[i]? = some x) : x = .int (lo + (i : Int)) ∧ lo + (i : Int) < hi := by
  have hlt : i < (hi - lo).toNat := by
    rcases Nat.lt_or_ge i (hi - lo).toNat with h' | h'
    · exact h'
    · rw [List.getElem?_eq_none (by rw [rangeL_length]; exact h')] at h; cases h
  refine ⟨?_, by omega⟩
  simp [rangeL, hlt] at h
  exact h.symm

theorem ItOf.range {target : Expr} {lo hi : Int} {K : List MV → (Hp → Prop) → Hp → Prop} (hA : AOk A n) (h1 : -(2 ^ 62) ≤ lo) (h2 : lo < 2 ^ 62) (h3 : -(2 ^ 62) ≤ hi) (h4 : hi < 2 ^ 62) (q : K (rangeL lo hi) (fun _ => True) H) : ItOf C A H target (.rng lo hi) K := by
  intro s v I r
  unfold VR at r
  obtain ⟨a, t, u, w, rfl, hl⟩ := r
  have hk : ∀ b o, s.heap.get? b = some o → (s.heap.push { cls := .type "range_iterator", data := .fields #[rawInt lo, rawInt (Builtin.Range.rangeSize lo hi 1), rawInt 1] }).get? b = some o := fun b o e => Heap.get?_push_of_some _ e
  have hsz : Builtin.Range.rangeSize lo hi 1 = (((hi - lo).toNat : Nat) : Int) := by
    unfold Builtin.Range.rangeSize
    simp only [show (1 : Int) > 0 from by decide, if_true]
    split
    · rw [Int.ediv_one]; omega
    · omega
  have W := Walks.range (prog := C.prog) (w := C.w) hA.handled s.heap.objs.size lo 1 (hi - lo).toNat
  refine wpAny_pyIter_range hl (small_one h1 h2 h3 h4) ⟨s.heap.objs.size, [s.heap.objs.size], rangeL lo hi, _, fun i h => IsRangeIter h s.heap.objs.size (lo + (i : Nat) * 1) (((hi - lo).toNat : Int) - (i : Nat)) 1, fun i _ h => IsRangeIter h s.heap.objs.size (lo + ((i + 1 : Nat) : Nat) * 1) (((hi - lo).toNat : Int) - ((i + 1 : Nat) : Nat)) 1, H, rfl, ?_, ?_, I.grow hk s.toks, Kp.of_keeps hk, ?_, q⟩
  · refine ⟨fun i h h' st _ hk => hk _ (by simp) _ st, fun i h st b hb => ?_, fun i x H' s' Q hx I' hok st hQ => ?_, fun i x v s' Q hx hv st hQ => ?_, fun H' s' Q I' hok st hQ => ?_, ?plain, fun i s' Q st hQ => ?_⟩
    · have hb : b = s.heap.objs.size := by simpa using hb
      subst hb
      rcases st with e | ⟨_, e⟩ <;> exact ⟨_, e, by simp [Imm]⟩
    · obtain ⟨rfl, hlt⟩ := rangeL_get hx
      refine W.item i s' Q NoE (by omega) st fun v h' tk hv st' hk' => ?_
      obtain ⟨tt, rfl⟩ := hv
      exact hQ _ h' tk (by unfold VR; exact ⟨tt, by rw [show lo + (i : Int) * 1 = lo + (i : Int) from by omega]⟩) st' hk'
    · exact go_other (T := "range_iterator") st rfl (by decide +kernel) (hQ s'.heap s'.toks st fun _ _ _ e => e)
    · rw [rangeL_length] at st
      exact W.done s' Q NoE st fun h' tk hk' => hQ h' tk hk'
    case plain => exact fun _ _ _ _ _ _ st => st
    · exact W.self i s' Q NoE st hQ
  · show IsRangeIter _ _ _ _ _
    rw [hsz]
    simpa using Heap.get?_push_size _ rfl
  · intro b hb
    have hb : b = s.heap.objs.size := by simpa using hb
    subst hb
    exact ⟨fun o e => absurd (Heap.lt_size e) (Nat.lt_irrefl _), I.fresh⟩

end
end Mine
namespace Mine
open PySem PySem.Calls PyProof.Rows

inductive Upd : Hp → Addr → MO → Hp → Prop
  | here {a o r o'} : Upd ((a, o) :: r) a o' ((a, o') :: r)
  | there {p r a o' r'} : Upd r a o' r' → Upd (p :: r) a o' (p :: r')
theorem Upd.fst {H H' : Hp} {a : Addr} {o : MO} (u : Upd H a o H') : H'.map (·.1) = H.map (·.1) := by
  induction u with
  | here => rfl
  | there _ ih => simp only [List.map_cons, ih]
theorem Upd.mem {H H' : Hp} {a : Addr} {o : MO} (u : Upd H a o H') : a ∈ H.map (·.1) := by
  induction u with
  | here => exact List.mem_cons_self
  | there _ ih => exact List.mem_cons_of_mem _ ih
theorem Upd.inv {H H' : Hp} {a : Addr} {o : MO} (u : Upd H a o H') (nd : (H.map (·.1)).Nodup) : ∀ p ∈ H', p = (a, o) ∨ (p ∈ H ∧ p.1 ≠ a) := by
  induction u with
  | @here a o r o' =>
    intro p hp
    have hn := (List.nodup_cons.mp nd).1
    rcases List.mem_cons.mp hp with rfl | hp
    · exact .inl rfl
    · refine .inr ⟨List.mem_cons_of_mem _ hp, fun q => hn ?_⟩
      have := List.mem_map_of_mem (f := (·.1)) hp
      rw [q] at this; exact this
  | @there q r a o' r' u' ih =>
    intro p hp
    have hn := List.nodup_cons.mp nd
    rcases List.mem_cons.mp hp with rfl | hp
    · refine .inr ⟨List.mem_cons_self, fun e => hn.1 ?_⟩
      have := u'.mem
      rw [← e] at this; exact this
    · rcases ih hn.2 p hp with h | h
      · exact .inl h
      · exact .inr ⟨List.mem_cons_of_mem _ h.1, h.2⟩
section
variable {C : Cx} {A : Around} {env : Env} {gs : List Str} {S : Sg} {H : Hp} {n : Nat} {Q : MV → Hp → Prop}

theorem Inv.upd {s : Shared} {h' : Heap} {a : Addr} {m mo : MO} {H' : Hp} (I : Inv C H s) (hm : (a, m) ∈ H) (u : Upd H a mo H') (hx : Heap.ExtBut a s.heap h') (hor : OR C.h₀ h' a mo) (t : Nat) :
    Inv C H' { s with heap := h', toks := t } ∧ Kp s.heap H h' H' := by
  have hd : dom H a := List.mem_map_of_mem (f := (·.1)) hm
  have tk : TupKeep s.heap h' := fun b o e hi => hx b o (fun q => I.noTup (q ▸ e) hi (q ▸ hd)) e
  have hdom : ∀ b, dom H' b ↔ dom H b := fun b => by unfold dom; rw [u.fst]
  refine ⟨⟨fun b o e => hx b o (fun q => ?_) (I.base b o e), fun p hp => ?_, fun p hp => ?_, u.fst ▸ I.nodup, I.gens, I.os⟩, fun b o e nb => ⟨hx b o (fun q => nb (q ▸ hd)) e, fun d => nb ((hdom b).mp d)⟩⟩
  · have := I.new _ hm
    rw [q] at e; rw [e] at this; cases this
  · rcases u.inv I.nodup p hp with rfl | ⟨h1, h2⟩
    · exact hor
    · exact (I.objs p h1).keep tk fun ob e => hx _ _ h2 e
  · rcases u.inv I.nodup p hp with rfl | ⟨h1, h2⟩
    · have := I.new _ hm; exact this
    · exact I.new p h1

/-! methods of lists -/
theorem WE.meth1 {o e : Expr} {name : Str} {id : String} {apos pos : Pos} {rest : List Expr} (slot : Slot "list" name id) (hty : typeOf (.builtin id) = pure (.type "method_descriptor"))
    (h : WE C A env gs S H o fun x H₁ => ∃ a xs, x = .ref a ∧ (a, MO.list xs) ∈ H₁ ∧ WEs C A env gs S H₁ (e :: rest) fun ys H₂ => WC C A H₂ (.builtin id) (.ref a :: ys) Q)
    (hbase : attributeBase o name env (eval o env) = eval o env := by with_unfolding_all rfl) (he : starEach (e :: rest) env = (false, eval e env) :: starEach rest env := by with_unfolding_all rfl) (hplain : (backTo pos (starEach rest env)).any (·.1) = false := by with_unfolding_all rfl)
    (hfew : ((backTo pos (starEach (e :: rest) env)).all (fun x => !x.1) && (backToKw pos (keywordEach [] env)).all (fun x => x.1.isSome)
      && decide ((e :: rest).length + ([] : List Keyword).length + (if ([] : List Keyword).isEmpty then 0 else 1) < 30)) = true := by with_unfolding_all rfl) (hline : (apos.endLine == pos.line) = true := by with_unfolding_all rfl) :
    WE C A env gs S H (.Call (.Attribute o name apos) (e :: rest) [] pos) Q := by
  intro s I F
  refine wpAny_Call_method_lateS hbase hfew hline (wpAny_mono (h s I F) (fun v s₁ h₁ => ?_) noE)
  obtain ⟨x, H₁, r₁, I₁, k₁, a, xs, rfl, hm, h₁⟩ := h₁
  unfold VR at r₁; subst r₁
  obtain ⟨vs, m, ho, hr⟩ := I₁.objs _ hm
  refine ⟨"list", id, PySem.F.plainAttrs_list, slot, hty, ⟨_, ho, rfl⟩, fun b q => ?_, ?_⟩
  · cases q; exact ⟨_, ho, rfl⟩
  have hh := h₁ s₁ pos I₁ (F.keep I k₁)
  rw [he] at hh ⊢
  refine callWith_builtin (by show (false || (backTo pos (starEach rest env)).any (·.1)) = false; rw [hplain]; rfl) (evalArgs_plain (wpAny_mono hh (fun us s₂ h₂ => ?_) noE))
  obtain ⟨ys, H₂, r₂, I₂, k₂, q₂⟩ := h₂
  exact wpAny_mono (q₂ s₂ (.ref a :: us) I₂ (.cons (by unfold VR; rfl) r₂)) (fun _ _ h => h.from (k₁.trans k₂)) noE
theorem WC.append {a : Addr} {xs : List MV} {x : MV} {H' : Hp} (hm : (a, MO.list xs) ∈ H) (u : Upd H a (.list (xs ++ [x])) H') (hsz : xs.length ≤ sizeLine) (q : Q .none H') : WC C A H (.builtin "list.append") [.ref a, x] Q := .of2 fun s v w I r₁ r₂ => by
  unfold VR at r₁; subst r₁
  obtain ⟨vs, m, ho, hr⟩ := I.objs _ hm
  refine wpAny_list_append_plain (items := vs.toArray) ⟨m, ho⟩ (fun h' hl hs => ?_) (by rw [List.size_toArray, hr.length]; exact hsz)
  obtain ⟨m', hl⟩ := hl
  have tk : TupKeep s.heap h' := fun b o e hi => hs.extBut b o (fun q => I.noTup e hi (by rw [q]; exact List.mem_map_of_mem (f := (·.1)) hm)) e
  obtain ⟨I', k⟩ := I.upd hm u hs.extBut ⟨vs ++ [w], m', by rw [hl]; simp, (hr.append (.one r₂)).keep tk⟩ s.toks
  exact ⟨_, H', by unfold VR; rfl, I', k, q⟩
/-- xs.append(e) as a statement's expression -/
theorem WE.append {o e : Expr} {apos pos : Pos} (h : WE C A env gs S H o fun x H₁ => ∃ a xs, x = .ref a ∧ (a, MO.list xs) ∈ H₁ ∧ WE C A env gs S H₁ e fun y H₂ => ∃ ys H₃, (a, MO.list ys) ∈ H₂ ∧ Upd H₂ a (.list (ys ++ [y])) H₃ ∧ ys.length ≤ sizeLine ∧ Q .none H₃)
    (hbase : attributeBase o ("append" : Str) env (eval o env) = eval o env := by with_unfolding_all rfl) (he : starEach [e] env = [(false, eval e env)] := by with_unfolding_all rfl)
    (hline : (apos.endLine == pos.line) = true := by with_unfolding_all rfl) :
    WE C A env gs S H (.Call (.Attribute o "append" apos) [e] [] pos) Q := by
  refine WE.meth1 (id := "list.append") slot_list_append PySem.F.type_list_append (h.mono fun x H₁ h₁ => ?_) hbase he (by rfl) (by rw [he]; rfl) hline
  obtain ⟨a, xs, rfl, hm, h₂⟩ := h₁
  refine ⟨a, xs, rfl, hm, WEs.cons (h₂.mono fun y H₂ h₃ => WEs.nil ?_) he⟩
  obtain ⟨ys, H₃, h4, h5, h6, h7⟩ := h₃
  exact WC.append h4 h5 h6 h7
end
end Mine
namespace Mine
open PySem PySem.Calls PyProof.Rows

def compOk (sc : Scope) (x : Str) (ys gs : List Str) : Bool :=
  sc.kind == .function && sc.names.lookup x == some .local && decide (x :: ys).Nodup && (x :: ys).all (fun y => !(y == ("__debug__" : Str))) && ys.all (fun y => sc.names.lookup y == some .free) &&
  gs.all (fun g => sc.names.lookup g == some .globalImplicit) && sc.names.all (fun p => p.2 != .cell) && sc.names.all (fun p => p.2 != .local || sc.names.lookup p.1 == some .local) &&
  sc.names.all (fun p => p.2 != .free || ys.contains p.1) && decide ((sc.names.filter (fun p => p.2 == .free)).map (·.1)).Nodup

def clOf (cells : List (Str × Addr)) : List (Str × NameKind) → List (Str × Addr) → List (Str × Addr)
  | [], acc => acc
  | (n, k) :: r, acc => if k == .free then clOf cells r ((n, (cells.lookup n).getD 0) :: acc) else clOf cells r acc
theorem clOf_fst (cells : List (Str × Addr)) : ∀ (names : List (Str × NameKind)) (acc : List (Str × Addr)), (clOf cells names acc).map (·.1) = ((names.filter (fun p => p.2 == .free)).map (·.1)).reverse ++ acc.map (·.1)
  | [], _ => by simp [clOf]
  | (x, k) :: r, acc => by
    unfold clOf
    by_cases hk : (k == .free) = true
    · rw [if_pos hk, clOf_fst cells r]
      simp [hk]
    · rw [if_neg hk, clOf_fst cells r]
      simp [hk]
theorem clOf_mem (cells : List (Str × Addr)) : ∀ (names : List (Str × NameKind)) (acc : List (Str × Addr)), (∀ p ∈ names, p.2 = .free → ∃ c, cells.lookup p.1 = some c) → (∀ p ∈ acc, p ∈ cells) → ∀ p ∈ clOf cells names acc, p ∈ cells
  | [], _, _, h, p, hp => h p hp
  | (x, k) :: r, acc, h1, h2, p, hp => by
    unfold clOf at hp
    split at hp
    · rename_i hk
      refine clOf_mem cells r _ (fun q hq => h1 q (List.mem_cons_of_mem _ hq)) (fun q hq => ?_) p hp
      rcases List.mem_cons.mp hq with rfl | hq
      · obtain ⟨c, hc⟩ := h1 (x, k) List.mem_cons_self (by simpa using hk)
        have hc' : cells.lookup x = some c := hc
        rw [hc']; exact mem_of_lookup hc'
      · exact h2 q hq
    · exact clOf_mem cells r acc (fun q hq => h1 q (List.mem_cons_of_mem _ hq)) h2 p hp
theorem closure_is {env : Env} : ∀ (names : List (Str × NameKind)) (acc : List (Str × Addr)) (f : Str × NameKind → List (Str × Addr) → Sem (ForInStep (List (Str × Addr)))),
    (∀ n k cs, f (n, k) cs = if k == .free then (do let a ← cellOf env n; pure (.yield ((n, a) :: cs))) else pure (.yield cs)) → (∀ p ∈ names, p.2 = .free → ∃ c, env.cells.lookup p.1 = some c) →
    forIn names acc f = pure (clOf env.cells names acc)
  | [], acc, f, _, _ => by simp [clOf]
  | (n, k) :: r, acc, f, hf, h => by
    have ih := fun acc' => closure_is r acc' f hf fun p hp => h p (List.mem_cons_of_mem _ hp)
    rw [List.forIn_cons, hf]
    by_cases hk : (k == .free) = true
    · obtain ⟨c, hc⟩ := h (n, k) List.mem_cons_self (by simpa using hk)
      have hc' : env.cells.lookup n = some c := hc
      rw [if_pos hk]
      have : cellOf env n = pure c := by unfold cellOf; rw [hc']
      rw [this]
      show forIn r ((n, c) :: acc) f = _
      rw [ih]
      simp only [clOf, hk, if_true, hc', Option.getD_some]
    · rw [if_neg hk]
      show forIn r acc f = _
      rw [ih]
      simp only [clOf, hk]
      rfl
theorem closureFor_is {env : Env} {scope : Scope} (h : ∀ p ∈ scope.names, p.2 = .free → ∃ c, env.cells.lookup p.1 = some c) : closureFor scope env = pure (clOf env.cells scope.names []) := by
  unfold closureFor
  have := closure_is scope.names [] (fun (x : Str × NameKind) cs => if x.2 == .free then (do let a ← cellOf env x.1; pure (.yield ((x.1, a) :: cs))) else pure (.yield cs)) (fun n k cs => rfl) h
  refine Eq.trans (congrArg (fun t => t >>= fun r => pure r) ?_) (congrArg (fun t => t >>= fun r => pure r) this)
  congr 1

theorem lookup_relabel {env : Env} : ∀ {names : List (Str × NameKind)} {x : Str},
    (names.map fun (n, k) => if (k == NameKind.free && env.scope.kind == .function && env.kindOf n == some .cell) then (n, NameKind.cell) else (n, k)).lookup x =
      (names.lookup x).map fun k => if (k == NameKind.free && env.scope.kind == .function && env.kindOf x == some .cell) then .cell else k
  | [], _ => rfl
  | (n, k) :: r, x => by
    have ih := @lookup_relabel env r x
    show List.lookup x ((if (k == NameKind.free && env.scope.kind == .function && env.kindOf n == some .cell) = true then (n, NameKind.cell) else (n, k)) :: _) = _
    cases hx : x == n with
    | true =>
      obtain rfl := beq_iff_eq.mp hx
      by_cases hc : (k == NameKind.free && env.scope.kind == .function && env.kindOf x == some .cell) = true
      · rw [if_pos hc]; simp only [List.lookup_cons, beq_self_eq_true, Option.map_some]; rw [if_pos hc]
      · rw [if_neg hc]; simp only [List.lookup_cons, beq_self_eq_true, Option.map_some]; rw [if_neg hc]
    | false =>
      by_cases hc : (k == NameKind.free && env.scope.kind == .function && env.kindOf n == some .cell) = true
      · rw [if_pos hc]; simp only [List.lookup_cons, hx]; exact ih
      · rw [if_neg hc]; simp only [List.lookup_cons, hx]; exact ih

/-- tests of a comprehension: none or one -/
def CT (C : Cx) (A : Around) (env : Env) (gs : List Str) (S : Sg) (H : Hp) (ifs : List Expr) (K : Bool → Hp → Prop) : Prop :=
  match ifs with
  | [] => K true H
  | [c] => WT C A env gs S H c K
  | _ => False

section
variable {C : Cx} {A : Around} {env : Env} {gs gsc : List Str} {S : Sg} {H : Hp} {n : Nat}

theorem compEnv_ok {s : Shared} {scope : Scope} {x : Str} {caps : Sg} (F : Fm C env gs S H s.heap) (nf : NoFree env S) (hc : compOk scope x (names caps) gsc = true) (hcap : ∀ y ∈ names caps, ∃ v, At S y v ∧ env.kindOf y ≠ some .local)
    {L : Addr} (hL : s.heap.objs.size ≤ L) : (∀ p ∈ scope.names, p.2 = .free → ∃ c, env.cells.lookup p.1 = some c) ∧ EnvOk (compEnvC scope (clOf env.cells scope.names []) L env) (x :: names caps) gsc ∧ ∀ p ∈ clOf env.cells scope.names [], p ∈ env.cells := by
  simp only [compOk, Bool.and_eq_true, decide_eq_true_eq, List.all_eq_true, Bool.or_eq_true, beq_iff_eq, Bool.not_eq_true', bne_iff_ne, ne_eq] at hc
  obtain ⟨⟨⟨⟨⟨⟨⟨⟨⟨h1, h2⟩, h3⟩, h4⟩, h5⟩, h6⟩, h7⟩, h8⟩, h9⟩, h10⟩ := hc
  have kc : ∀ y ∈ names caps, env.kindOf y = some .cell ∧ ∃ c, env.cells.lookup y = some c := fun y hy => by
    obtain ⟨v, a, hk⟩ := hcap y hy
    rcases F.ok.vars y a.mem with h | ⟨h | h, c⟩
    · exact absurd h hk
    · exact ⟨h, c⟩
    · exact absurd h.1 (nf y a.mem)
  have hcl : ∀ p ∈ scope.names, p.2 = .free → ∃ c, env.cells.lookup p.1 = some c := fun p hp hf => by
    rcases h9 p hp with h | h
    · exact absurd hf h
    · exact (kc p.1 (by simpa using h)).2
  have hmem := clOf_mem env.cells scope.names [] hcl (by simp)
  have hfst := clOf_fst env.cells scope.names []
  refine ⟨hcl, ⟨h1, F.ok.glob, F.ok.blt, h3, fun y hy => by simpa using h4 y hy, fun y hy => ?_, fun y hy => ?_, ?_, fun nm c c' a b => ?_, fun nm c a => ?_⟩, hmem⟩
  · show (relabel scope env).names.lookup y = _ ∨ (((relabel scope env).names.lookup y = _ ∨ _) ∧ _)
    unfold relabel
    rw [lookup_relabel]
    rcases List.mem_cons.mp hy with rfl | hy
    · exact .inl (by rw [h2]; rfl)
    · refine .inr ⟨.inl ?_, ?_⟩
      · rw [h5 y hy]
        simp [F.ok.kind, (kc y hy).1]
      · refine mem_lookup ?_
        rw [show (compEnvC scope (clOf env.cells scope.names []) L env).cells = clOf env.cells scope.names [] from rfl, hfst]
        simp only [List.map_nil, List.append_nil, List.mem_reverse]
        exact List.mem_map.mpr ⟨(y, .free), List.mem_filter.mpr ⟨mem_of_lookup (h5 y hy), rfl⟩, rfl⟩
  · show (relabel scope env).names.lookup y = _
    unfold relabel
    rw [lookup_relabel, h6 y hy]
    rfl
  · have nd : ((clOf env.cells scope.names []).map (·.1)).Nodup := by
      rw [hfst, List.map_nil, List.append_nil]
      exact ((List.reverse_perm _).nodup_iff).mpr h10
    show (clOf env.cells scope.names []).Pairwise _
    refine List.Pairwise.imp_of_mem (R := fun a b => a.1 ≠ b.1) (fun {a b} ha hb hab q => hab ?_) (List.pairwise_map.mp nd)
    have hb' := hmem b hb
    rw [show b = (b.1, b.2) from rfl, ← q] at hb'
    exact name_of_addr F.ok.apart (hmem a ha) hb'
  · exact F.ok.cfun nm c c' (hmem _ a) (hmem _ b)
  · obtain ⟨vo, ⟨o, ho, _⟩, _⟩ := F.cell nm c (hmem _ a)
    exact Ne.symm (Nat.ne_of_lt (Nat.lt_of_lt_of_le (Heap.lt_size ho) hL))

def compKK (wr : List Addr) (h₂ : Heap) (H₂ : Hp) (h' : Heap) (H' : Hp) : Prop := ∀ b o, h₂.get? b = some o → ¬ dom H₂ b → b ∉ wr → h'.get? b = some o ∧ ¬ dom H' b

theorem Fm.keepW {h h' : Heap} {H' : Hp} (F : Fm C env gs S H h) (tk : TupKeep h h') (k : ∀ b o, Own env b → h.get? b = some o → ¬ dom H b → h'.get? b = some o ∧ ¬ dom H' b) : Fm C env gs S H' h' := by
  obtain ⟨ok, ⟨mr, hn, hv⟩, nl, nl0, hc⟩ := F
  obtain ⟨oL, es, ep, hL, r⟩ := hn
  refine ⟨ok, ⟨mr, ⟨oL, es, ep, (k _ _ (.inl rfl) hL nl).1, r⟩, fun x v a e => ?_⟩, (k _ _ (.inl rfl) hL nl).2, nl0, fun n c e => ?_⟩
  · obtain ⟨u, h1, h2⟩ := hv x v a e; exact ⟨u, h1, h2.keep tk⟩
  · obtain ⟨vo, ⟨oc, ho, hd⟩, nd, n0, hv⟩ := hc n c e
    refine ⟨vo, ⟨oc, (k _ _ (.inr ⟨n, e⟩) ho nd).1, hd⟩, (k _ _ (.inr ⟨n, e⟩) ho nd).2, n0, fun v a e => ?_⟩
    obtain ⟨u, h1, h2⟩ := hv v a e; exact ⟨u, h1, h2.keep tk⟩

set_option maxHeartbeats 1000000 in
theorem comp_main {s : Shared} {elt iter : Expr} {x : Str} {px pos p0 : Pos} {ifs : List Expr} {scope : Scope} {use : Option (Value → Sem Unit)} {Q : Value → Shared → Prop} (caps : Sg)
    (I : Inv C H s) (F : Fm C env gs S H s.heap) (nf : NoFree env S)
    (hc : compOk scope x (names caps) gsc = true) (hcap : ∀ y v, At caps y v → At S y v) (hcapn : ∀ y ∈ names caps, ∃ v, At S y v ∧ env.kindOf y ≠ some .local)
    (h : WI C A env gs S H iter (.Name x px) fun xs Ok H₁ => xs.length ≤ sizeLine ∧ ∃ J : Nat → List MV → Hp → Prop, J 0 [] H₁ ∧ (∀ i ys H, J i ys H → Ok H ∧ ys.length ≤ i) ∧
      (∀ i v ys H cenv, xs[i]? = some v → J i ys H → CT C A cenv gsc ((x, some v) :: caps) H ifs fun b H₂ => if b = true then WE C A cenv gsc ((x, some v) :: caps) H₂ elt fun y H₃ => J (i + 1) (ys ++ [y]) H₃ else J (i + 1) ys H₂) ∧
      (∀ D L ys H' s', J xs.length ys H' → ¬ dom H' D → ¬ dom ((D, MO.list ys) :: H') L → Inv C ((D, .list ys) :: H') s' → Fm C env gs S ((D, .list ys) :: H') s'.heap → Kp s.heap H s'.heap ((D, .list ys) :: H') → (∃ m, s'.heap.Ns L m) →
        ¬ Own env L → C.h₀.get? L = none → (∀ b o, s.heap.get? b = some o → ¬ dom H b → b ≠ L) → compPost (Md C) A NoE use Q (.ref D) L (.ok .next) s'))
    (hs : ∀ x, foldedSetIterable iter env x = pure x) : wpAny (Md C) A (comprehension (.ListComp elt [⟨.Name x px, iter, ifs, 0⟩] scope pos) scope env p0 (newList []) false (eval iter env) use) Q NoE s := by
  have hc' := hc
  simp only [compOk, Bool.and_eq_true, decide_eq_true_eq, List.all_eq_true, Bool.or_eq_true, beq_iff_eq, Bool.not_eq_true', bne_iff_ne, ne_eq] at hc'
  obtain ⟨⟨⟨⟨⟨⟨⟨⟨⟨c1, c2⟩, c3⟩, c4⟩, c5⟩, c6⟩, c7⟩, c8⟩, c9⟩, c10⟩ := hc'
  have hclos := (compEnv_ok F nf hc hcapn (Nat.le_refl _)).1
  refine wpAny_comprehension_free rfl hs (closureFor_is hclos) c1 (fun y hy hl => ?_) (wpAny_mono (h s I F) (fun xv s₁ h₁ => wpAny_mono h₁ (fun w s₂ h₂ => ?_) noE) noE)
  · rcases c8 y hy with q | q
    · exact absurd hl q
    · exact q
  obtain ⟨it, wr, xs, Ok, St, Mid, H₂, rfl, W, hst, I₂, k₂, hw, hlen, J, j0, jok, turn, fin⟩ := h₂
  have F₂ := F.keep I k₂
  have hb0 : ∀ b ∈ wr, C.h₀.get? b = none := fun b hb => by
    cases e : C.h₀.get? b with
    | none => rfl
    | some o =>
      have d := (hw b hb).1 o (I.base _ _ e)
      obtain ⟨p, hp, rfl⟩ := List.mem_map.mp d
      rw [I.new p hp] at e; cases e
  have hno : ∀ b ∈ wr, ¬ Own env b := fun b hb => notOwn F (hw b hb).1
  have hwlt : ∀ b ∈ wr, b < s₂.heap.objs.size := fun b hb => by obtain ⟨o, e, _⟩ := W.obj 0 _ (.inl hst) b hb; exact Heap.lt_size e
  refine wpAny_newObj_type (wpAny_newFunctionEnv c7 (by intro y hy; simp at hy) (fun h₁ hns₁ hsb₁ => ?_) c1)
  dsimp only at hns₁ hsb₁ ⊢
  generalize hH2 : s₂.heap.push { cls := .type "list", dict := none, data := .seq ([] : List Value).toArray } = G at hns₁ hsb₁ ⊢
  have hGs : G.objs.size = s₂.heap.objs.size + 1 := by rw [← hH2, Heap.size_push]
  have hacc0 : G.get? s₂.heap.objs.size = some { cls := .type "list", dict := none, data := .seq ([] : List Value).toArray } := by rw [← hH2]; exact Heap.get?_push_size _ rfl
  have old : ∀ b o, s₂.heap.get? b = some o → h₁.get? b = some o := fun b o e => hsb₁.extBut b o (by rw [hGs]; exact Nat.ne_of_lt (Nat.lt_succ_of_lt (Heap.lt_size e))) (Heap.get?_push_of_some _ (hH2 ▸ Heap.get?_push_of_some _ e))
  have hDle : s₂.heap.objs.size ≤ s₂.heap.objs.size := Nat.le_refl _
  generalize hD : s₂.heap.objs.size = D at hGs hacc0 hwlt hDle ⊢
  have hDL : D ≠ G.objs.size := by rw [hGs]; exact Nat.ne_of_lt (Nat.lt_succ_self _)
  have hLD : D ≤ G.objs.size := by rw [hGs]; exact Nat.le_succ _
  have hacc : h₁.PlainList D #[] := ⟨_, hsb₁.extBut _ _ hDL (Heap.get?_push_of_some _ hacc0)⟩
  generalize hLq : G.objs.size = L at hns₁ hsb₁ hDL hLD ⊢
  have fresh : ∀ a, D ≤ a → s₂.heap.get? a = none := fun a ha => by
    cases e : s₂.heap.get? a with
    | none => rfl
    | some o' => exact absurd (Heap.lt_size e) (Nat.not_lt.mpr (hD ▸ ha))
  have nd₂ : ∀ a, D ≤ a → ¬ dom H₂ a := fun a ha d => absurd (I₂.lt d) (Nat.not_lt.mpr (hD ▸ ha))
  have n0 : ∀ a, D ≤ a → C.h₀.get? a = none := fun a ha => by
    cases e : C.h₀.get? a with
    | none => rfl
    | some o => have := I₂.base _ _ e; rw [fresh a ha] at this; cases this
  have nOwn : ∀ a, D ≤ a → ¬ Own env a := fun a ha => notOwn F₂ fun o e => by rw [fresh a ha] at e; cases e
  have nwr : ∀ a, D ≤ a → a ∉ wr := fun a ha hb => absurd (hwlt a hb) (Nat.not_lt.mpr ha)
  obtain ⟨_, ok, hmem⟩ := compEnv_ok F₂ nf hc hcapn (L := L) (hD ▸ hLD)
  generalize hcenv : compEnvC scope (clOf env.cells scope.names []) L env = cenv at ok
  have eL : cenv.locals = L := by rw [← hcenv]; rfl
  have eC : cenv.cells = clOf env.cells scope.names [] := by rw [← hcenv]; rfl
  have ownC : ∀ b, Own cenv b → b = L ∨ Own env b := fun b hb => by
    rcases hb with q | ⟨nm, q⟩
    · exact .inl (q.trans eL)
    · rw [eC] at q; exact .inr (.inr ⟨nm, hmem _ q⟩)
  have hxl : cenv.kindOf x = some .local := by
    rw [← hcenv]
    show (relabel scope env).names.lookup x = _
    unfold relabel; rw [lookup_relabel, c2]; rfl
  have hxf : cenv.kindOf x ≠ some .free := by rw [hxl]; decide
  have kcell : ∀ y ∈ names caps, cenv.kindOf y ≠ some .local := fun y hy => by
    rw [← hcenv]
    show (relabel scope env).names.lookup y ≠ _
    unfold relabel; rw [lookup_relabel, c5 y hy]
    simp only [Option.map_some]
    split <;> simp
  have F₁ : Fm C cenv gsc ((x, none) :: caps) H₂ h₁ := by
    refine ⟨ok, ⟨_, eL ▸ hns₁, fun y v a kl => ?_⟩, eL ▸ nd₂ L hLD, eL ▸ n0 L hLD, fun nm c q => ?_⟩
    · cases a with
      | there a => exact absurd kl (kcell y a.mem)
    · rw [eC] at q
      obtain ⟨vo, ⟨oc, ho, hd⟩, ndc, n0c, hv⟩ := F₂.cell nm c (hmem _ q)
      refine ⟨vo, ⟨oc, old _ _ ho, hd⟩, ndc, n0c, fun v a kl => ?_⟩
      cases a with
      | there a =>
        obtain ⟨v', _, hk⟩ := hcapn nm a.mem
        obtain ⟨u, h1, h2⟩ := hv v (hcap _ _ a) hk
        exact ⟨u, h1, h2.keep (.of_keeps old)⟩
  have I₁ : Inv C H₂ { s₂ with heap := h₁, toks := s₂.toks + ([] : List (Str × Value)).length } := I₂.grow old _
  have hst₁ : St 0 h₁ := W.frame _ _ _ hst (.of_keeps old) fun b _ o e => old b o e
  have tk2 : ∀ {h' : Heap} {H' : Hp}, compKK wr s₂.heap H₂ h' H' → TupKeep s₂.heap h' := fun kk a o e hm => (kk a o e (I₂.noTup e hm) (fun hb => by
    obtain ⟨o', e', hi⟩ := W.obj 0 _ (.inl hst) a hb
    rw [e] at e'; cases e'; exact hi hm)).1
  have loop : ∀ s₃ : Shared, s₃ = { s₂ with heap := h₁, toks := s₂.toks + ([] : List (Str × Value)).length } →
      codeAny (Md C) A (.compLoop (.ListComp elt [⟨.Name x px, iter, ifs, 0⟩] scope pos) 0 (.ref it) (.ref D) cenv) (compPost (Md C) A NoE use Q (.ref D) L) s₃ := by
    rintro s₃ rfl
    refine codeAny_compLoop_tests (fun k s' => ∃ i H' ys vs o, i ≤ xs.length ∧ k = xs.length + 1 - i ∧ J i ys H' ∧ Inv C H' s' ∧ Fm C cenv gsc ((x, o) :: caps) H' s'.heap ∧ St i s'.heap ∧ (∀ b ∈ wr, ¬ dom H' b) ∧
      s'.heap.PlainList D vs ∧ VRs C.h₀ s'.heap ys vs.toList ∧ ¬ dom H' D ∧ compKK wr s₂.heap H₂ s'.heap H') ?_ (xs.length + 1)
      ⟨0, H₂, [], #[], none, Nat.zero_le _, rfl, j0, I₁, F₁, hst₁, fun b hb => (hw b hb).2, hacc, VRs.nil, nd₂ D hDle, fun b o e nb _ => ⟨old b o e, nb⟩⟩
    rintro k s' ⟨i, H', ys, vs, o, hi, rfl, hj, I', F', hst', hd', hpl, hvr, hdD, kk⟩
    have hwr : ∀ (s'' : Shared), (St i s''.heap ∨ ∃ v, Mid i v s''.heap) → ∀ b ∈ wr, ¬ dom H' b ∧ C.h₀.get? b = none ∧ ¬ Own cenv b ∧ ∀ o, s''.heap.get? b = some o → ¬ Imm o := fun s'' hs b hb =>
      ⟨hd' b hb, hb0 b hb, fun q => (ownC b q).elim (fun q => nwr L hLD (q ▸ hb)) (hno b hb), fun o e => by obtain ⟨o', e', hm⟩ := W.obj i _ hs b hb; rw [e] at e'; cases e'; exact hm⟩
    have hDc : ¬ Own cenv D := fun q => (ownC D q).elim hDL (nOwn D hDle)
    cases hx : xs[i]? with
    | none =>
      have hl : i = xs.length := by
        rcases Nat.lt_or_ge i xs.length with h | h
        · rw [List.getElem?_eq_getElem h] at hx; cases hx
        · omega
      refine wpAny_mono (W.done H' s' (fun r s₁ => match r with | none => compPost (Md C) A NoE use Q (.ref D) L (.ok .next) s₁ | some _ => False) I' (jok _ _ _ hj).1 (hl ▸ hst') fun h' t e => ?_) (fun r s₁ hr => ?_) noE
      · obtain ⟨I'', F''⟩ := touch I' F' e (hwr s' (.inl hst')) t
        obtain ⟨m', ho⟩ := hpl
        have hoD := e D _ (nwr D hDle) ho
        have kk' : compKK wr s₂.heap H₂ h' H' := fun b o e1 n1 n2 => ⟨e b o n2 (kk b o e1 n1 n2).1, (kk b o e1 n1 n2).2⟩
        have tk' : TupKeep s'.heap h' := fun a o e1 hm => e a o (fun hb => (hwr s' (.inl hst') a hb).2.2.2 o e1 hm) e1
        have Fo : Fm C env gs S ((D, .list ys) :: H') h' := F₂.keepW (tk2 kk') fun b o hw' e1 n1 => by
          have := kk' b o e1 n1 (fun hb => hno b hb hw')
          refine ⟨this.1, fun d => ?_⟩
          rcases List.mem_cons.mp d with q | d
          · rw [q] at e1; rw [fresh D hDle] at e1; cases e1
          · exact this.2 d
        have Ia : Inv C ((D, .list ys) :: H') { s' with heap := h', toks := t } := by
          refine ⟨I''.base, fun p hp => ?_, fun p hp => ?_, List.nodup_cons.mpr ⟨hdD, I''.nodup⟩, I''.gens, I''.os⟩
          · rcases List.mem_cons.mp hp with rfl | hp
            · exact ⟨vs.toList, m', by simpa using hoD, hvr.keep tk'⟩
            · exact I''.objs p hp
          · rcases List.mem_cons.mp hp with rfl | hp
            · exact n0 D hDle
            · exact I''.new p hp
        have hLns : ∃ m, h'.Ns L m := by obtain ⟨mr, hn, _⟩ := F''.ns; exact ⟨mr, eL ▸ hn⟩
        have hkp : Kp s.heap H h' ((D, .list ys) :: H') := fun b o e1 n1 => by
          have h2 := k₂ b o e1 n1
          have h3 := kk' b o h2.1 h2.2 (fun hb => n1 ((hw b hb).1 o e1))
          refine ⟨h3.1, fun d => ?_⟩
          rcases List.mem_cons.mp d with q | d
          · have := h2.1; rw [q, fresh D hDle] at this; cases this
          · exact h3.2 d
        refine fin D L ys H' _ (hl ▸ hj) hdD (fun d => ?_) Ia Fo hkp hLns (nOwn L hLD) (n0 L hLD) (fun b o e1 n1 q => ?_)
        · rcases List.mem_cons.mp d with q | d
          · exact hDL q.symm
          · exact F''.nl (eL ▸ d)
        · have := (k₂ b o e1 n1).1; rw [q, fresh L hLD] at this; cases this
      · cases r with
        | none => exact hr
        | some v => exact hr.elim
    | some v =>
      have hlt : i < xs.length := by
        rcases Nat.lt_or_ge i xs.length with h | h
        · exact h
        · rw [List.getElem?_eq_none h] at hx; cases hx
      refine wpAny_mono (W.next i v H' s' (fun r s₁ => match r with | none => False | some u => VR C.h₀ s₁.heap v u ∧ Inv C H' s₁ ∧ Fm C cenv gsc ((x, o) :: caps) H' s₁.heap ∧ St (i + 1) s₁.heap ∧ s₁.heap.PlainList D vs ∧ VRs C.h₀ s₁.heap ys vs.toList ∧ compKK wr s₂.heap H₂ s₁.heap H') hx I' (jok _ _ _ hj).1 hst' fun u h' t hv hmid e => ?_) (fun r s₁ hr => ?_) noE
      · obtain ⟨I'', F''⟩ := touch I' F' e (hwr s' (.inl hst')) t
        obtain ⟨m', ho⟩ := hpl
        have tk' : TupKeep s'.heap h' := fun a o e1 hm => e a o (fun hb => (hwr s' (.inl hst') a hb).2.2.2 o e1 hm) e1
        exact ⟨hv, I'', F'', W.plain x px rfl i u h' hmid, ⟨m', e D _ (nwr D hDle) ho⟩, hvr.keep tk', fun b o e1 n1 n2 => ⟨e b o n2 (kk b o e1 n1 n2).1, (kk b o e1 n1 n2).2⟩⟩
      · cases r with
        | none => exact hr.elim
        | some u =>
          obtain ⟨hv, Ia, Fa, sta, pla, vra, kka⟩ := hr
          refine wpAny_assign_Name (store Ia Fa hxf .here hv fun s₃ I₃ F₃ _ t₃ x₃ => ?_)
          have x₃ := x₃ hxl
          rw [eL] at x₃
          obtain ⟨m₃, ho₃⟩ := pla
          have st₃ : St (i + 1) s₃.heap := W.frame _ _ _ sta t₃ fun b hb o e1 => x₃ b o (fun q => nwr L hLD (q ▸ hb)) e1
          have pl₃ := x₃ D _ hDL ho₃
          have vr₃ := vra.keep t₃
          have kk₃ : compKK wr s₂.heap H₂ s₃.heap H' := fun b o e1 n1 n2 => ⟨x₃ b o (fun q => by rw [q, fresh L hLD] at e1; cases e1) (kka b o e1 n1 n2).1, (kka b o e1 n1 n2).2⟩
          -- what is behind the tests
          have rest : ∀ (b : Bool) (s₄ : Shared) (H₄ : Hp), Inv C H₄ s₄ → Kp s₃.heap H' s₄.heap H₄ → (if b = true then WE C A cenv gsc ((x, some v) :: caps) H₄ elt fun y H₃ => J (i + 1) (ys ++ [y]) H₃ else J (i + 1) ys H₄) →
              (if b = true then wpAny (Md C) A (eval elt cenv) (fun x_1 s₄ => wpAny (Md C) A (call (.builtin "list.append") [.ref D, x_1]) (fun _ s₅ => ∃ m, m < xs.length + 1 - i ∧ ∃ i H' ys vs o, i ≤ xs.length ∧ m = xs.length + 1 - i ∧ J i ys H' ∧ Inv C H' s₅ ∧ Fm C cenv gsc ((x, o) :: caps) H' s₅.heap ∧ St i s₅.heap ∧ (∀ b ∈ wr, ¬ dom H' b) ∧
                s₅.heap.PlainList D vs ∧ VRs C.h₀ s₅.heap ys vs.toList ∧ ¬ dom H' D ∧ compKK wr s₂.heap H₂ s₅.heap H') NoE s₄) NoE s₄
              else ∃ m, m < xs.length + 1 - i ∧ ∃ i H' ys vs o, i ≤ xs.length ∧ m = xs.length + 1 - i ∧ J i ys H' ∧ Inv C H' s₄ ∧ Fm C cenv gsc ((x, o) :: caps) H' s₄.heap ∧ St i s₄.heap ∧ (∀ b ∈ wr, ¬ dom H' b) ∧
                s₄.heap.PlainList D vs ∧ VRs C.h₀ s₄.heap ys vs.toList ∧ ¬ dom H' D ∧ compKK wr s₂.heap H₂ s₄.heap H') := by
            intro b s₄ H₄ I₄ k₄ hq
            have F₄ := F₃.keep I₃ k₄
            have wr₄ : ∀ b ∈ wr, ¬ dom H₄ b ∧ ∀ o, s₃.heap.get? b = some o → s₄.heap.get? b = some o := fun b hb => by
              obtain ⟨o, e1, _⟩ := W.obj (i + 1) _ (.inl st₃) b hb
              exact ⟨(k₄ b o e1 (hd' b hb)).2, fun o' e' => (k₄ b o' e' (hd' b hb)).1⟩
            have st₄ : St (i + 1) s₄.heap := W.frame _ _ _ st₃ (I₃.tupKeep k₄) fun b hb o e1 => (wr₄ b hb).2 o e1
            have D₄ := k₄ D _ pl₃ hdD
            have vr₄ := vr₃.keep (I₃.tupKeep k₄)
            have kk₄ : compKK wr s₂.heap H₂ s₄.heap H₄ := fun b o e1 n1 n2 => let h := kk₃ b o e1 n1 n2; k₄ b o h.1 h.2
            cases b with
            | false => exact ⟨xs.length + 1 - (i + 1), by omega, i + 1, H₄, ys, vs, _, hlt, rfl, hq, I₄, F₄, st₄, fun b hb => (wr₄ b hb).1, ⟨m₃, D₄.1⟩, vr₄, D₄.2, kk₄⟩
            | true =>
              refine wpAny_mono (hq s₄ I₄ F₄) (fun y s₅ h₅ => ?_) noE
              obtain ⟨my, H₅, r₅, I₅, k₅, j₅⟩ := h₅
              have F₅ := F₄.keep I₄ k₅
              have wr₅ : ∀ b ∈ wr, ¬ dom H₅ b ∧ ∀ o, s₄.heap.get? b = some o → s₅.heap.get? b = some o := fun b hb => by
                obtain ⟨o, e1, _⟩ := W.obj (i + 1) _ (.inl st₄) b hb
                exact ⟨(k₅ b o e1 (wr₄ b hb).1).2, fun o' e' => (k₅ b o' e' (wr₄ b hb).1).1⟩
              have st₅ : St (i + 1) s₅.heap := W.frame _ _ _ st₄ (I₄.tupKeep k₅) fun b hb o e1 => (wr₅ b hb).2 o e1
              have D₅ := k₅ D _ D₄.1 D₄.2
              have vr₅ := vr₄.keep (I₄.tupKeep k₅)
              have kk₅ : compKK wr s₂.heap H₂ s₅.heap H₅ := fun b o e1 n1 n2 => let h := kk₄ b o e1 n1 n2; k₅ b o h.1 h.2
              refine wpAny_list_append_plain (items := vs) ⟨m₃, D₅.1⟩ (fun h₆ hl₆ hs₆ => ?_) ?_
              · have ex : Ext [D] s₅.heap h₆ := Ext.of_extBut hs₆.extBut
                have hDw : ∀ b ∈ [D], ¬ dom H₅ b ∧ C.h₀.get? b = none ∧ ¬ Own cenv b ∧ ∀ o, s₅.heap.get? b = some o → ¬ Imm o := fun b hb => by
                  obtain rfl := List.mem_singleton.mp hb
                  exact ⟨D₅.2, n0 _ hDle, hDc, fun o e1 => by rw [D₅.1] at e1; cases e1; simp [Imm]⟩
                obtain ⟨I₆, F₆⟩ := touch I₅ F₅ ex hDw s₅.toks
                have tk₆ : TupKeep s₅.heap h₆ := fun a o e1 hm => ex a o (fun hb => (hDw a hb).2.2.2 o e1 hm) e1
                refine ⟨xs.length + 1 - (i + 1), by omega, i + 1, H₅, ys ++ [my], vs.push y, _, hlt, rfl, j₅, I₆, F₆, W.frame _ _ _ st₅ tk₆ fun b hb o e1 => ex b o (fun q => nwr D hDle (List.mem_singleton.mp q ▸ hb)) e1, fun b hb => (wr₅ b hb).1, hl₆, ?_, D₅.2, fun b o e1 n1 n2 => ?_⟩
                · rw [Array.toList_push]; exact (vr₅.append (.one r₅)).keep tk₆
                · have h := kk₅ b o e1 n1 n2
                  exact ⟨ex b o (fun q => by rw [List.mem_singleton.mp q, fresh D hDle] at e1; cases e1) h.1, h.2⟩
              · have h1 := vr₅.length
                have h2 := (jok _ _ _ hj).2
                have h3 : vs.toList.length = vs.size := by simp
                omega
          have ht := turn i v ys H' cenv hx hj
          have done : ∀ (b : Bool) (s₄ : Shared), (∃ H₄, Inv C H₄ s₄ ∧ Kp s₃.heap H' s₄.heap H₄ ∧ (if b = true then WE C A cenv gsc ((x, some v) :: caps) H₄ elt fun y H₃ => J (i + 1) (ys ++ [y]) H₃ else J (i + 1) ys H₄)) → _ := fun b s₄ ⟨H₄, I₄, k₄, q₄⟩ => rest b s₄ H₄ I₄ k₄ q₄
          match ifs, ht with
          | [], ht =>
            refine wpAny_tests_nil ?_
            have := done true s₃ ⟨H', I₃, Kp.refl _ _, ht⟩
            simp only [if_true] at this ⊢
            exact wpAny_mono this (fun _ _ h => wpAny_mono h (fun _ _ h => h) noE) noE
          | [c], ht =>
            refine wpAny_tests_one (wpAny_mono (ht s₃ I₃ F₃) (fun b s₄ hb => ?_) noE)
            have := done b s₄ hb
            cases b with
            | false => exact this
            | true =>
              simp only [if_true] at this ⊢
              exact wpAny_mono this (fun _ _ h => wpAny_mono h (fun _ _ h => h) noE) noE
          | _ :: _ :: _, ht => exact ht.elim
  have he : ({ newEnv scope L env.globals (clOf env.cells scope.names []) env.qual none .none (some env) 0 with scope := relabel scope env } : Env) = cenv := by rw [← hcenv]; rfl
  have lp := loop _ rfl
  rw [← he] at lp
  exact codeAny_compStart_list lp (W.self 0 _ _ hst₁ lp |> fun h => wpAny_mono h (fun _ _ h => h) noE)
end
end Mine
namespace Mine
open PySem PySem.Calls PyProof.Rows

section
variable {C : Cx} {A : Around} {env : Env} {gs gsc : List Str} {S : Sg} {H : Hp} {n : Nat}

/-- what a comprehension must show -/
def CompJ (C : Cx) (A : Around) (gsc : List Str) (caps : Sg) (x : Str) (ifs : List Expr) (elt : Expr) (K : List MV → Hp → Prop) : List MV → (Hp → Prop) → Hp → Prop := fun xs Ok H₁ =>
  xs.length ≤ sizeLine ∧ ∃ J : Nat → List MV → Hp → Prop, J 0 [] H₁ ∧ (∀ i ys H, J i ys H → Ok H ∧ ys.length ≤ i) ∧
    (∀ i v ys H cenv, xs[i]? = some v → J i ys H → CT C A cenv gsc ((x, some v) :: caps) H ifs fun b H₂ => if b = true then WE C A cenv gsc ((x, some v) :: caps) H₂ elt fun y H₃ => J (i + 1) (ys ++ [y]) H₃ else J (i + 1) ys H₂) ∧
    (∀ ys H', J xs.length ys H' → K ys H')

theorem WI.mono {iter target : Expr} {K K' : List MV → (Hp → Prop) → Hp → Prop} (h : WI C A env gs S H iter target K) (m : ∀ xs Ok H, K xs Ok H → K' xs Ok H) : WI C A env gs S H iter target K' := fun s I F =>
  wpAny_mono (h s I F) (fun _ _ h => wpAny_mono h (fun _ _ ⟨it, wr, xs, Ok, St, Mid, H₂, a, b, c, d, e, f, g⟩ => ⟨it, wr, xs, Ok, St, Mid, H₂, a, b, c, d, e, f, m _ _ _ g⟩) noE) noE

theorem WE.comp {elt iter : Expr} {x : Str} {px pos : Pos} {ifs : List Expr} {scope : Scope} {Q : MV → Hp → Prop} {caps : Sg} {ns cs ys : List Str} (gsc : List Str) (K : EnvK env ns cs) (cp : Caps S cs caps) (hc : compOk scope x ys gsc = true)
    (h : WI C A env gs S H iter (.Name x px) (CompJ C A gsc caps x ifs elt fun ys H' => ∀ D, ¬ dom H' D → Q (.ref D) ((D, .list ys) :: H')))
    (hy : names caps = ys := by with_unfolding_all rfl) (hn : names S = ns := by with_unfolding_all rfl) (hs : ∀ x, foldedSetIterable iter env x = pure x := by intro _; with_unfolding_all rfl) : WE C A env gs S H (.ListComp elt [⟨.Name x px, iter, ifs, 0⟩] scope pos) Q := by
  intro s I F
  rw [eval_ListComp]
  subst hy hn
  refine comp_main caps I F K.nofree hc cp.at (cp.names K) (h.mono fun xs Ok H₁ hj => ?_) hs
  obtain ⟨hl, J, j0, jok, turn, fin⟩ := hj
  refine ⟨hl, J, j0, jok, turn, fun D L ys H' s' hJ hD hL I' F' k' ns' no' n0' ne' => ?_⟩
  obtain ⟨m, hn⟩ := ns'
  refine ⟨m, hn, fun h' hs' => ?_⟩
  have hw : ∀ b ∈ [L], ¬ dom ((D, MO.list ys) :: H') b ∧ C.h₀.get? b = Option.none ∧ ¬ Own env b ∧ ∀ o, s'.heap.get? b = some o → ¬ Imm o := fun b hb => by
    obtain rfl := List.mem_singleton.mp hb
    refine ⟨hL, n0', no', fun o e hm => ?_⟩
    obtain ⟨oL, es, ep, hL', hd, _⟩ := hn
    rw [hL'] at e; cases e
    rcases hm with ⟨_, _, _, hd'⟩ | ⟨_, _, hd'⟩ <;> (rw [hd] at hd'; cases hd')
  obtain ⟨I'', F''⟩ := touch I' F' (Ext.of_extBut hs'.extBut) hw s'.toks
  exact ⟨_, _, by unfold VR; rfl, I'', fun b o e nb => ⟨hs'.extBut b o (ne' b o e nb) (k' b o e nb).1, (k' b o e nb).2⟩, fin ys H' hJ D hD⟩

/-- y = [ .. ] on one line: the store is made ahead of letting the names go -/
theorem WS.assignComp {elt iter : Expr} {x y : Str} {px py pos p : Pos} {ifs : List Expr} {scope : Scope} {Q : Fl → Sg → Hp → Prop} {caps : Sg} {ns cs ys : List Str} (gsc : List Str) (K : EnvK env ns cs) (cp : Caps S cs caps) (hc : compOk scope x ys gsc = true)
    (h : WI C A env gs S H iter (.Name x px) (CompJ C A gsc caps x ifs elt fun ys H' => ∀ D, ¬ dom H' D → ∃ S', Put S y (.ref D) S' ∧ Q .next S' ((D, .list ys) :: H')))
    (hy : names caps = ys := by with_unfolding_all rfl) (hn : names S = ns := by with_unfolding_all rfl) (hs : ∀ x, foldedSetIterable iter env x = pure x := by intro _; with_unfolding_all rfl) : WS C A env gs S H (.Assign [.Name y py] (.ListComp elt [⟨.Name x px, iter, ifs, 0⟩] scope pos) p) Q := by
  subst hy hn
  intro s I F nf
  by_cases hsw : (env.blockKind == .function && env.kindOf y == some .local && py.line == (Expr.ListComp elt [⟨.Name x px, iter, ifs, 0⟩] scope pos).pos.line
      && !(scope.names.any fun (n, k) => n == y && (k == .local || k == .cell))) = true
  · rw [exec_Assign_Name_used _ _ _ _ (by
      show (pure _ : Sem Bool) = pure true
      rw [hsw])]
    refine wpAny_bind (wpAny_standAt (wpAny_bind ?_))
    show wpAny _ A (do let _ ← comprehension (.ListComp elt [⟨.Name x px, iter, ifs, 0⟩] scope pos) scope env _ (newList []) false (eval iter env) (some (PySem.assign (.Name y py) env))) _ _ s
    refine wpAny_bind (wpAny_mono (Q := fun _ s' => SP C env gs S H s Q .next s') (comp_main caps I F nf hc cp.at (cp.names K) (h.mono fun xs Ok H₁ hj => ?_) hs) (fun _ s' hq => wpAny_pure (wpAny_pure hq)) noE)
    obtain ⟨hl, J, j0, jok, turn, fin⟩ := hj
    refine ⟨hl, J, j0, jok, turn, fun D L ys H' s' hJ hD hL I' F' k' ns' no' n0' ne' => ?_⟩
    obtain ⟨S', pt, q⟩ := fin ys H' hJ D hD
    show wpAny _ A (PySem.assign (.Name y py) env (.ref D)) _ _ _
    refine wpAny_assign_Name (store I' F' (nf y pt.mem) pt (by unfold VR; rfl) fun s₂ I₂ F₂ k₂ t₂ _ => ?_)
    obtain ⟨m, oL, es, ep, hL', hd, r⟩ := ns'
    obtain ⟨nd2, o2, e2, r2⟩ := k₂ L oL hL' hL
    have : o2 = oL := r2 no'
    subst this
    refine ⟨m, ⟨_, es, ep, e2, hd, r⟩, fun h' hs' => ?_⟩
    have hw : ∀ b ∈ [L], ¬ dom ((D, MO.list ys) :: H') b ∧ C.h₀.get? b = none ∧ ¬ Own env b ∧ ∀ o, s₂.heap.get? b = some o → ¬ Imm o := fun b hb => by
      obtain rfl := List.mem_singleton.mp hb
      refine ⟨hL, n0', no', fun o e hm => ?_⟩
      rw [e2] at e; cases e
      rcases hm with ⟨_, _, _, hd'⟩ | ⟨_, _, hd'⟩ <;> (rw [hd] at hd'; cases hd')
    obtain ⟨I'', F''⟩ := touch I₂ F₂ (Ext.of_extBut hs'.extBut) hw s₂.toks
    refine ⟨.next, S', _, rfl, I'', F'', ?_, pt.names, q⟩
    intro b o e nb
    obtain ⟨n3, o3, e3, r3⟩ := (k'.toS.trans k₂) b o e nb
    exact ⟨n3, o3, hs'.extBut b o3 (ne' b o e nb) e3, r3⟩
  · have hsw' : swapsWith (.ListComp elt [⟨.Name x px, iter, ifs, 0⟩] scope pos) (some (.Name y py)) p.line env = pure false := by
      show (pure _ : Sem Bool) = pure false
      simp only [Bool.not_eq_true] at hsw
      rw [hsw]
    refine wpAny_Assign_Name (wpAny_mono (WE.comp (gs := gs) gsc K cp hc (Q := fun v H' => ∃ S', Put S y v S' ∧ Q .next S' H') (h.mono fun xs Ok H₁ hj => ?_) rfl rfl hs s I F) (fun v s₁ h₁ => ?_) noE) hsw'
    · obtain ⟨hl, J, j0, jok, turn, fin⟩ := hj
      exact ⟨hl, J, j0, jok, turn, fin⟩
    · obtain ⟨z, H₁, r, I₁, k₁, S', pt, q₁⟩ := h₁
      exact store I₁ (F.keep I k₁) (nf y pt.mem) pt r fun s' I' F' k' _ _ => ⟨.next, S', H₁, rfl, I', F', k₁.toS.trans k', pt.names, q₁⟩
end
end Mine
namespace Mine
open PySem PySem.W PySem.Calls PyProof.Rows

abbrev mkCx (prog : Program) (w : World) (s₁ : Shared) {p : Program} {loose : List Str} {mean : ExcName → Option Value} {mg mb : Str → Option Value} (T : Top p loose mean mg mb s₁.heap) : Cx :=
  ⟨prog, w, s₁.heap, s₁.gens, s₁.os, mg, mb, T.g, T.b, T.builtins, T.nolimit⟩
section
variable {prog : Program} {w : World} {s₁ : Shared} {p : Program} {loose : List Str} {mean : ExcName → Option Value} {mg mb : Str → Option Value} (T : Top p loose mean mg mb s₁.heap)
theorem start_inv : Inv (mkCx prog w s₁ T) [] s₁ := ⟨fun _ _ e => e, (fun _ h => nomatch h), (fun _ h => nomatch h), List.nodup_nil, rfl, rfl⟩
theorem fn_of {d : DefRec} (hd : d ∈ recsOf p) (hdbg : (d.name == ("__debug__" : Str)) = false) : Fn (mkCx prog w s₁ T) d.name d.name d.params d.body d.scope :=
  ⟨hdbg, let ⟨a, o, pm, code, doc, h1, h2, h3, h4⟩ := T.fn d hd; ⟨a, o, pm, code, doc, h1, h2, h3, h4⟩⟩
def offAll (p : Program) (loose : List Str) (x : Str) : Bool := !startupNames.contains x && !loose.contains x && !((recsOf p).map (·.name)).contains x && !((litsOf p).map (·.1)).contains x && !((clssOf p loose).map (·.name)).contains x && !(x == ("__name__" : Str)) && !(x == ("__debug__" : Str))
theorem gl_of {x : Str} {v : Value} (h : offAll p loose x = true) (hv : bootBuiltins x = some v) : Gl (mkCx prog w s₁ T) x v := by
  simp only [offAll, Bool.and_eq_true, Bool.not_eq_true', List.contains_eq_mem, decide_eq_false_iff_not, beq_eq_false_iff_ne] at h
  obtain ⟨⟨⟨⟨⟨⟨h1, h2⟩, h3⟩, h4⟩, h5⟩, h6⟩, h7⟩ := h
  exact ⟨by simpa using h7, .inr ⟨T.free x h1 h2 h3 h4 h5, hv, h6⟩⟩
include T in
theorem const_of {x : Str} {i : Int} (h : valOf p x = some (.int i)) : ∃ t, mg x = some (.int i t) := by
  obtain ⟨v, h1, h2⟩ := T.const x _ h
  have := h2 s₁.heap
  cases this with
  | int i t => exact ⟨t, h1⟩
end
theorem WE.gint {C : Cx} {A : Around} {env : Env} {gs : List Str} {S : Sg} {H : Hp} {Q : MV → Hp → Prop} {x : Str} {p : Pos} {i : Int} (hx : x ∈ gs) (hd : (x == ("__debug__" : Str)) = false) (hv : ∃ t, C.mg x = some (.int i t)) (q : Q (.int i) H) : WE C A env gs S H (.Name x p) Q := by
  obtain ⟨t, hv⟩ := hv
  intro s I F
  refine Name_function_global F.ok.kind (F.ok.gl x hx) (loadGlobal_global (env := env) (mg := C.mg) ?_ hv (EP.here I ?_ q)) hd
  · rw [F.ok.glob]; exact C.hg.keeps I.base
  · unfold VR; exact ⟨t, rfl⟩

theorem aok_caller : AOk callerA 200 := ⟨rfl, by decide, by decide⟩

theorem law_end {l : OpenLaw} {w : World} {s₁ : Shared} {p : Program} {loose : List Str} {mean : ExcName → Option Value} {mg mb : Str → Option Value} {T : Top p loose mean mg mb s₁.heap} {fa a : Addr} {vs : List Value} {ns : List Int} {cl : Str → Option Addr} {mean' : ExcName → Option Value} {args : List WData}
    (hl : s₁.heap.IsList a vs.toArray) (hi : IntsAre vs ns) (hg : s₁.gens = #[]) (hm : mg l.name = some (.ref fa)) (h : WF (mkCx l.prog w s₁ T) callerA [] l.name [.fl ns] fun v _ => v = .bool true) :
    wpAny (model l.row.prog w) callerA (call (.ref fa) [.ref a]) (fun v s' => GoodWG l.row.claim cl mean' args s₁ (.ok (.ret v)) s') (fun e s' => GoodWG l.row.claim cl mean' args s₁ (.error e) s') s₁ := by
  refine wpAny_mono (h fa hm s₁ [.ref a] (start_inv T) (.one (by unfold VR; exact ⟨a, vs, rfl, hl, hi⟩))) (fun v s' hv => ?_) noE
  obtain ⟨x, H', r, I, k, rfl⟩ := hv
  unfold VR at r; subst r
  refine GoodW.toG ⟨.inl ⟨.bool true, .bool true, [], rfl, fun cls => ?_, .bool true, ?_, unshared_nil⟩, I.base, I.os, I.gens.trans hg⟩
  · exact raisesW_false (r := l.row.toRowW) (fun ct h => nomatch h) cls
  · exact postW_of (r := l.row.toRowW) (X := (true == true)) rfl (show WTm.value [] (.eq .res (.lit (.bool true))) _ = _ from w_eq_bool (w_res rfl) w_lit) rfl
end Mine
namespace Mine
open PySem PySem.W PySem.Calls PyProof.Rows

section
variable {C : Cx} {A : Around} {env : Env} {gs : List Str} {S : Sg} {H : Hp} {n : Nat} {Q : MV → Hp → Prop}

/-! ints, by the signs that omega knows -/
theorem W2.modS {a b : Int} (hb : 0 < b) (q : Q (.int (a % b)) H) : W2 C A H (binaryOp .Mod) (.int a) (.int b) Q :=
  W2.mod (by omega) (by rw [Int.fmod_eq_emod_of_nonneg _ (by omega)]; exact q)
theorem W2.divS {a b : Int} (hb : 0 < b) (hp : b < 1073741824) (q : Q (.int (a / b)) H) : W2 C A H (binaryOp .FloorDiv) (.int a) (.int b) Q :=
  W2.div (by omega) (PyProof.noPylong_small (by omega)) (by rw [Int.fdiv_eq_ediv_of_nonneg _ (by omega)]; exact q)
def Bd (i : Int) : Prop := Builtin.Int.intBits i ≤ 2 ^ 22
theorem bd_le {i j : Int} (h : Bd i) (hj : j.natAbs ≤ i.natAbs) : Bd j := by
  unfold Bd Builtin.Int.intBits at *
  split
  · exact Nat.zero_le _
  · rename_i hj0
    have hj1 : j ≠ 0 := by simpa using hj0
    have hi1 : ¬ ((i == 0) = true) := by simp; omega
    rw [if_neg hi1] at h
    have : j.natAbs.log2 ≤ i.natAbs.log2 := by
      rw [Nat.le_log2 (by omega)]
      exact Nat.le_trans (Nat.log2_self_le (by omega)) hj
    omega
theorem natAbs_ediv_le {i b : Int} (hb : 0 < b) : (i / b).natAbs ≤ i.natAbs := by
  have h1 := Int.mul_ediv_add_emod i b
  have h2 := Int.emod_nonneg i (by omega : b ≠ 0)
  have h3 := Int.emod_lt_of_pos i hb
  rcases Int.lt_trichotomy (i / b) 0 with h | h | h
  · have : b * (i / b) ≤ 1 * (i / b) := by
      apply Int.mul_le_mul_of_nonpos_right (by omega) (by omega)
    by_cases hi : i < 0
    · have h4 : b * (i / b) ≥ i - (b - 1) := by omega
      -- q ≥ i: since b q > i - b, and q ≤ -1
      have h5 : i ≤ i / b := by
        rcases (by omega : i / b < i ∨ i ≤ i / b) with h6 | h6
        · exfalso
          have h7 : b * (i / b) ≤ b * (i - 1) := Int.mul_le_mul_of_nonneg_left (by omega) (by omega)
          have h8 : b * (i - 1) = b * i - b := by rw [Int.mul_sub, Int.mul_one]
          have h9 : b * i ≤ 1 * i := Int.mul_le_mul_of_nonpos_right (by omega) (by omega)
          omega
        · exact h6
      omega
    · exfalso
      have := Int.ediv_nonneg (by omega : 0 ≤ i) (by omega : 0 ≤ b)
      omega
  · rw [h]; simp
  · have h4 : 1 * (i / b) ≤ b * (i / b) := Int.mul_le_mul_of_nonneg_right (by omega) (by omega)
    omega
theorem Bd.div {i b : Int} (h : Bd i) (hb : 0 < b) : Bd (i / b) := bd_le h (natAbs_ediv_le hb)
theorem W2.mulR {a b : Int} (h1 : -(2 ^ 64) < b) (h2 : b < 2 ^ 64) (q : Q (.int (a * b)) H) : W2 C A H (binaryOp .Mult) (.int a) (.int b) Q := W2.mul (.of_right (intBits_le_64 h1 h2)) q
theorem W2.mulB {a b : Int} (h1 : Bd a) (h2 : Builtin.Int.intBits b ≤ 1000) (q : Q (.int (a * b)) H) : W2 C A H (binaryOp .Mult) (.int a) (.int b) Q := W2.mul (by
  unfold IntMulOk
  have : Builtin.Int.intTooBig (Builtin.Int.intBits a + Builtin.Int.intBits b) = false := by
    unfold Builtin.Int.intTooBig bitsLine
    unfold Bd at h1
    simp
    omega
  rw [this]; simp) q
theorem W2.powL {a b r : Int} (hn : 0 ≤ b) (hsz : (Builtin.Int.intBits a : Int) * b ≤ 2 ^ 27) (hr : a ^ b.toNat = r) (q : Q (.int r) H) : W2 C A H (binaryOp .Pow) (.int a) (.int b) Q := W2.pow hn hsz (hr ▸ q)

/-! slices -/
def WO (C : Cx) (A : Around) (env : Env) (gs : List Str) (S : Sg) (H : Hp) (o : Option Expr) (K : Option Int → Hp → Prop) : Prop :=
  match o with
  | none => K none H
  | some e => WE C A env gs S H e fun v H' => ∃ i, v = .int i ∧ 0 ≤ i ∧ K (some i) H'
theorem WO.none {K : Option Int → Hp → Prop} (h : K Option.none H) : WO C A env gs S H Option.none K := h
theorem WO.some {e : Expr} {K : Option Int → Hp → Prop} (h : WE C A env gs S H e fun v H' => ∃ i, v = .int i ∧ 0 ≤ i ∧ K (Option.some i) H') : WO C A env gs S H (Option.some e) K := h
def sliceL {α : Type} (lo hi : Option Int) (xs : List α) : List α :=
  match lo, hi with
  | none, none => xs
  | some a, none => xs.drop a.toNat
  | none, some b => xs.take b.toNat
  | some a, some b => (xs.drop a.toNat).take (b.toNat - a.toNat)
theorem sliceL_map {α β : Type} (f : α → β) (lo hi : Option Int) (xs : List α) : sliceL lo hi (xs.map f) = (sliceL lo hi xs).map f := by
  cases lo <;> cases hi <;> simp [sliceL, List.map_take, List.map_drop]
theorem slicePick_sliceL (vs : List Value) (lo hi : Option Int) (h1 : ∀ a, lo = some a → 0 ≤ a) (h2 : ∀ a, hi = some a → 0 ≤ a) : slicePick vs.toArray lo hi none = (sliceL lo hi vs).toArray := by
  rw [slicePick_plain]
  have cl : ∀ a : Int, 0 ≤ a → clipAt vs.length a = min a.toNat vs.length := fun a ha => by
    have := clipAt_nat vs.length a.toNat
    rwa [Int.toNat_of_nonneg ha] at this
  cases lo with
  | none =>
    cases hi with
    | none => simp [sliceL]
    | some b =>
      simp only [Option.elim, sliceL, List.size_toArray, List.drop_zero, Nat.sub_zero, cl b (h2 b rfl)]
      congr 1
      rcases Nat.le_total b.toNat vs.length with h | h
      · rw [Nat.min_eq_left h]
      · rw [Nat.min_eq_right h, List.take_of_length_le (Nat.le_refl _), List.take_of_length_le h]
  | some a =>
    cases hi with
    | none =>
      simp only [Option.elim, sliceL, List.size_toArray, cl a (h1 a rfl)]
      congr 1
      rcases Nat.le_total a.toNat vs.length with h | h
      · rw [Nat.min_eq_left h, List.take_of_length_le (by simp)]
      · rw [Nat.min_eq_right h, List.drop_of_length_le (Nat.le_refl _), List.drop_of_length_le h]; simp
    | some b =>
      simp only [Option.elim, sliceL, List.size_toArray, cl a (h1 a rfl), cl b (h2 b rfl)]
      congr 1
      rcases Nat.le_total a.toNat vs.length with h | h
      · rw [Nat.min_eq_left h]
        rcases Nat.le_total b.toNat vs.length with h' | h'
        · rw [Nat.min_eq_left h']
        · rw [Nat.min_eq_right h', List.take_of_length_le (by simp), List.take_of_length_le (by simp; omega)]
      · rw [Nat.min_eq_right h, List.drop_of_length_le (Nat.le_refl _), List.drop_of_length_le h]; simp
theorem VRs.slice {b h : Heap} {xs : List MV} {vs : List Value} (r : VRs b h xs vs) (lo hi : Option Int) : VRs b h (sliceL lo hi xs) (sliceL lo hi vs) := by
  cases lo <;> cases hi <;> simp only [sliceL]
  · exact r
  · exact r.take _
  · exact r.drop _
  · exact (r.drop _).take _
theorem intsVR {b h : Heap} {vs : List Value} {ns : List Int} (hi : IntsAre vs ns) : VRs b h (ns.map .int) vs := by
  induction hi with
  | nil => exact .nil
  | cons nn t _ ih => exact .cons (by unfold VR; exact ⟨t, rfl⟩) ih
theorem WE.slice {value : Expr} {lower upper : Option Expr} {p pos : Pos}
    (h : WE C A env gs S H value fun x H₁ => WO C A env gs S H₁ lower fun lo H₂ => WO C A env gs S H₂ upper fun hi H₃ => ∃ xs, ((∃ a, x = .ref a ∧ (a, MO.list xs) ∈ H₃) ∨ ∃ ns, x = .fl ns ∧ xs = ns.map .int) ∧ xs.length ≤ sizeLine ∧ ∀ D, ¬ dom H₃ D → Q (.ref D) ((D, .list (sliceL lo hi xs)) :: H₃))
    (ht : ∀ o r, letTemporaryGo value o r = pure () := by intro _ _; with_unfolding_all rfl) : WE C A env gs S H (.Subscript value (.Slice lower upper Option.none p) pos) Q := by
  intro s I F
  have part : ∀ {o : Option Expr} {s₁ : Shared} {H₁ : Hp} {K : Option Int → Hp → Prop}, Inv C H₁ s₁ → Fm C env gs S H₁ s₁.heap → WO C A env gs S H₁ o K →
      wpAny (Md C) A (evalPart o env) (fun v s₂ => ∃ i H₂, IsPart v i ∧ (∀ a, i = Option.some a → 0 ≤ a) ∧ Inv C H₂ s₂ ∧ Kp s₁.heap H₁ s₂.heap H₂ ∧ K i H₂) NoE s₁ := by
    intro o s₁ H₁ K I₁ F₁ hk
    cases o with
    | none => rw [evalPart_none]; exact wpAny_pure ⟨Option.none, H₁, .none, (fun a h => nomatch h), I₁, Kp.refl _ _, hk⟩
    | some e =>
      refine wpAny_mono (show wpAny (Md C) A (eval e env) _ NoE s₁ from hk s₁ I₁ F₁) (fun v s₂ h₂ => ?_) noE
      obtain ⟨x, H₂, r, I₂, k₂, i, rfl, hi, q⟩ := h₂
      unfold VR at r; obtain ⟨t, rfl⟩ := r
      exact ⟨Option.some i, H₂, .int i t, (fun a h => by cases h; exact hi), I₂, k₂, q⟩
  refine wpAny_Subscript_list_slice (wpAny_mono (h s I F) (fun o s₁ h₁ => ?_) noE) ht
  obtain ⟨x, H₁, r₁, I₁, k₁, h₁⟩ := h₁
  have F₁ := F.keep I k₁
  refine wpAny_mono (part I₁ F₁ h₁) (fun vl s₂ h₂ => ?_) noE
  obtain ⟨lo, H₂, pl, hlo, I₂, k₂, h₂⟩ := h₂
  have F₂ := F₁.keep I₁ k₂
  refine wpAny_mono (part I₂ F₂ h₂) (fun vu s₃ h₃ => ?_) noE
  obtain ⟨hi, H₃, pu, hhi, I₃, k₃, xs, hx, hsz, q⟩ := h₃
  have main : ∀ (a : Addr) (vs : List Value), s₃.heap.IsList a vs.toArray → VRs C.h₀ s₃.heap xs vs → o = .ref a → ∃ l items lo hi, o = .ref l ∧ s₃.heap.IsList l items ∧ items.size ≤ sizeLine ∧ IsPart vl lo ∧ IsPart vu hi ∧
      EP C H s Q (.ref (s₃.heap.objs.size + 1)) { s₃ with heap := (s₃.heap.push { cls := .type "slice", data := .fields #[vl, vu, .none] }).push { cls := .type "list", data := .seq (slicePick items lo hi Option.none) } } := by
    intro a vs hl hr ho
    refine ⟨a, vs.toArray, lo, hi, ho, hl, by rw [List.size_toArray, hr.length]; exact hsz, pl, pu, ?_⟩
    rw [slicePick_sliceL vs lo hi hlo hhi]
    have hk : ∀ b o, s₃.heap.get? b = Option.some o → ((s₃.heap.push { cls := .type "slice", data := .fields #[vl, vu, .none] }).push { cls := .type "list", data := .seq (sliceL lo hi vs).toArray }).get? b = Option.some o := fun b o e => Heap.get?_push_of_some _ (Heap.get?_push_of_some _ e)
    have hsz1 : (s₃.heap.push { cls := .type "slice", data := .fields #[vl, vu, .none] }).objs.size = s₃.heap.objs.size + 1 := Heap.size_push ..
    have hnew := Heap.get?_push_size (s₃.heap.push { cls := .type "slice", data := .fields #[vl, vu, .none] }) (o := { cls := .type "list", data := .seq (sliceL lo hi vs).toArray }) rfl
    rw [hsz1] at hnew
    have hna : s₃.heap.get? (s₃.heap.objs.size + 1) = Option.none := by
      cases e : s₃.heap.get? (s₃.heap.objs.size + 1) with
      | none => rfl
      | some o => exact absurd (Heap.lt_size e) (Nat.not_lt.mpr (Nat.le_succ _))
    obtain ⟨I', k, nd⟩ := I₃.add (mo := .list (sliceL lo hi xs)) hk hna ⟨sliceL lo hi vs, 0, hnew, (hr.slice lo hi).keep (.of_keeps hk)⟩ s₃.toks
    exact ⟨_, _, by unfold VR; rfl, I', ((k₁.trans k₂).trans k₃).trans k, q _ nd⟩
  have r₃ := (r₁.keep (I₁.tupKeep k₂)).keep (I₂.tupKeep k₃)
  rcases hx with ⟨a, rfl, hm⟩ | ⟨ns, rfl, rfl⟩
  · unfold VR at r₃
    obtain ⟨vs, m, ho, hr⟩ := I₃.objs _ hm
    exact main a vs ⟨_, ho, rfl, m, rfl⟩ hr r₃
  · unfold VR at r₃
    obtain ⟨a, vs, ho, ⟨ob, hb, hc, m, hd⟩, hi'⟩ := r₃
    exact main a vs ⟨ob, I₃.base _ _ hb, hc, m, hd⟩ (intsVR hi') ho

/-! lists joined, changed -/
theorem W2.addL {a b : Addr} {xs ys : List MV} (h1 : (a, MO.list xs) ∈ H) (h2 : (b, MO.list ys) ∈ H) (hsz : xs.length + ys.length ≤ sizeLine) (q : ∀ D, ¬ dom H D → Q (.ref D) ((D, .list (xs ++ ys)) :: H)) : W2 C A H (binaryOp .Add) (.ref a) (.ref b) Q := by
  intro s u v I r₁ r₂
  unfold VR at r₁ r₂; subst r₁; subst r₂
  obtain ⟨vs, m, ho, hr⟩ := I.objs _ h1
  obtain ⟨ws, m2, ho2, hr2⟩ := I.objs _ h2
  have e : vs.toArray ++ ws.toArray = (vs ++ ws).toArray := by simp
  refine concat_meets ⟨_, ho, rfl⟩ ⟨_, ho2, rfl⟩ noFill_list_add seq_list_add PySem.F.slot_list_add PySem.F.entry_list_add (PySem.F.args_list_add_2 _ _) (list_addW a b vs.toArray ws.toArray m m2 none none #[] #[] (by simp [hr.length, hr2.length]; exact hsz)) ⟨ho, ho2, ?_⟩
  rw [e]
  exact EP.newList I (hr.append hr2) q
/-! data of ints -/
theorem dps_ints (g : List Int) : Dps H (g.map .int) (g.map .int) := by
  induction g with
  | nil => exact .nil
  | cons a g ih => exact .cons (.int a) ih
theorem canLay_ints (g : List Int) : PyData.canLayAll0 (g.map .int) = true := by
  induction g with
  | nil => rfl
  | cons a g ih => simp [PyData.canLayAll0, PyData.canLay0, ih]
theorem any_ints (g : List Int) (k : Int) : ((g.map PyData.int).any fun y => PyData.eqv y (.int k)) = decide (k ∈ g) := by
  induction g with
  | nil => rfl
  | cons a g ih =>
    rw [List.map_cons, List.any_cons, ih]
    simp only [PyData.eqv, List.mem_cons]
    by_cases h : a = k
    · subst h; simp
    · have h' : ¬ k = a := fun e => h e.symm
      simp [h, h']
theorem shaped_int (k : Int) : SeqAt.shaped (.int k) = true := rfl
theorem W2.inI {k : Int} {g : List Int} (hA : AOk A n) (q : Q (.bool (decide (k ∈ g))) H) : W2 C A H (compareOp .In) (.int k) (.tup (g.map .int)) Q :=
  W2.inT hA (.int k) (dps_ints g) (shaped_int k) (canLay_ints g) (by rw [any_ints]; exact q)
theorem W2.notInI {k : Int} {g : List Int} (hA : AOk A n) (q : Q (.bool (!decide (k ∈ g))) H) : W2 C A H (compareOp .NotIn) (.int k) (.tup (g.map .int)) Q :=
  W2.notInT hA (.int k) (dps_ints g) (shaped_int k) (canLay_ints g) (by rw [any_ints]; exact q)
theorem eqvAll_ints : ∀ (g h : List Int), PyData.eqvAll (g.map .int) (h.map .int) = decide (g = h)
  | [], [] => rfl
  | [], _ :: _ => rfl
  | _ :: _, [] => rfl
  | a :: g, b :: h => by
    simp only [List.map_cons, PyData.eqvAll, PyData.eqv, eqvAll_ints g h, List.cons.injEq]
    by_cases h1 : a = b <;> simp [h1]
theorem depth_ints (g : List Int) : PyData.depthAll (g.map .int) = 0 := by
  induction g with
  | nil => rfl
  | cons a g ih => simp [PyData.depthAll, PyData.depth, ih]
theorem shaped_tupI (g : List Int) : SeqAt.shaped (.tuple (g.map .int)) = true := by
  simp [SeqAt.shaped, PyData.canLay0, canLay_ints, PyData.depth, depth_ints]

/-! roads: triples of ints -/
abbrev Rd := Int × Int × Int
abbrev rdV (r : Rd) : MV := .tup [.int r.1, .int r.2.1, .int r.2.2]
end
/-! the ways of a test -/
section
variable {P Q : Prop}
theorem if_t {inst : Decidable (true = true)} (h : P) : @ite Prop (true = true) inst P Q := by rw [if_pos rfl]; exact h
theorem if_f {inst : Decidable (false = true)} (h : Q) : @ite Prop (false = true) inst P Q := by rw [if_neg Bool.false_ne_true]; exact h
theorem if_nt {inst : Decidable ((!true) = true)} (h : Q) : @ite Prop ((!true) = true) inst P Q := by rw [if_neg (show ¬ ((!true) = true) from Bool.false_ne_true)]; exact h
theorem if_nf {inst : Decidable ((!false) = true)} (h : P) : @ite Prop ((!false) = true) inst P Q := by rw [if_pos (show (!false) = true from rfl)]; exact h
theorem if_b {b : Bool} {inst : Decidable (b = true)} (h1 : b = true → P) (h2 : b = false → Q) : @ite Prop (b = true) inst P Q := by
  cases b with
  | true => rw [if_pos rfl]; exact h1 rfl
  | false => rw [if_neg Bool.false_ne_true]; exact h2 rfl
theorem if_d {p : Prop} [Decidable p] {inst : Decidable (decide p = true)} (h1 : p → P) (h2 : ¬ p → Q) : @ite Prop (decide p = true) inst P Q :=
  if_b (fun h => h1 (of_decide_eq_true h)) fun h => h2 (of_decide_eq_false h)
theorem if_nd {p : Prop} [Decidable p] {inst : Decidable ((!decide p) = true)} (h1 : ¬ p → P) (h2 : p → Q) : @ite Prop ((!decide p) = true) inst P Q :=
  if_b (fun h => h1 (by simpa using h)) fun h => h2 (by simpa using h)
theorem if_eq {a b : Int} {inst : Decidable ((a == b) = true)} (h1 : a = b → P) (h2 : ¬ a = b → Q) : @ite Prop ((a == b) = true) inst P Q :=
  if_b (fun h => h1 (by simpa using h)) fun h => h2 (by simpa using h)
theorem if_ne {a b : Int} {inst : Decidable ((a != b) = true)} (h1 : ¬ a = b → P) (h2 : a = b → Q) : @ite Prop ((a != b) = true) inst P Q :=
  if_b (fun h => h1 (by simpa using h)) fun h => h2 (by simpa using h)
end
section
variable {C : Cx} {A : Around} {env : Env} {gs : List Str} {S : Sg} {H : Hp} {n : Nat}
theorem ct_nil {K : Bool → Hp → Prop} (h : K true H) : CT C A env gs S H [] K := h
theorem ct_one {c : Expr} {K : Bool → Hp → Prop} (h : WT C A env gs S H c K) : CT C A env gs S H [c] K := h
theorem comp_intro {gsc : List Str} {caps : Sg} {x : Str} {ifs : List Expr} {elt : Expr} {K : List MV → Hp → Prop} {xs : List MV} {Ok : Hp → Prop} {H₁ : Hp} (J : Nat → List MV → Hp → Prop) (hl : xs.length ≤ sizeLine) (h0 : J 0 [] H₁)
    (hok : ∀ i ys H, J i ys H → Ok H ∧ ys.length ≤ i)
    (turn : ∀ i v ys H cenv, xs[i]? = some v → J i ys H → CT C A cenv gsc ((x, some v) :: caps) H ifs fun b H₂ => if b = true then WE C A cenv gsc ((x, some v) :: caps) H₂ elt fun y H₃ => J (i + 1) (ys ++ [y]) H₃ else J (i + 1) ys H₂)
    (fin : ∀ ys H', J xs.length ys H' → K ys H') : CompJ C A gsc caps x ifs elt K xs Ok H₁ := ⟨hl, J, h0, hok, turn, fin⟩
theorem for_intro {Q : Fl → Sg → Hp → Prop} {target : Expr} {body : List Stmt} {xs : List MV} {Ok : Hp → Prop} {H₁ : Hp} (I : Nat → Sg → Hp → Prop) (h0 : I 0 S H₁) (hok : ∀ i S H, I i S H → Ok H)
    (turn : ∀ i x S H, xs[i]? = some x → I i S H → WA C A env gs S H target x fun S₁ H₁ => WSs C A env gs S₁ H₁ body (LoopQ Q (I (i + 1)))) (fin : ∀ S H, I xs.length S H → Q .next S H) :
    ∃ I : Nat → Sg → Hp → Prop, I 0 S H₁ ∧ (∀ i S H, I i S H → Ok H) ∧
      (∀ i x S H, xs[i]? = some x → I i S H → WA C A env gs S H target x fun S₁ H₁ => WSs C A env gs S₁ H₁ body (LoopQ Q (I (i + 1)))) ∧ ∀ S H, I xs.length S H → Q .next S H := ⟨I, h0, hok, turn, fin⟩
theorem get_lt {α : Type} {l : List α} {i : Nat} {x : α} (h : l[i]? = some x) : i < l.length := by
  rcases Nat.lt_or_ge i l.length with h' | h'
  · exact h'
  · rw [List.getElem?_eq_none h'] at h; cases h
end
end Mine
namespace Mine
open PySem PySem.W PySem.Calls PyProof.Rows
section
variable {C : Cx} {A : Around} {env : Env} {gs : List Str} {S : Sg} {H : Hp} {n : Nat} {Q : MV → Hp → Prop}

theorem W2.addT {xs ys : List MV} (hsz : xs.length + ys.length ≤ sizeLine) (q : Q (.tup (xs ++ ys)) H) : W2 C A H (binaryOp .Add) (.tup xs) (.tup ys) Q := by
  intro s u v I r₁ r₂
  have r₁' := r₁
  have r₂' := r₂
  unfold VR at r₁ r₂
  obtain ⟨t, vs, rfl, ⟨⟨cls, dd, data, sl⟩, ho, hc, m, hd⟩, hr⟩ := r₁
  obtain ⟨b, ws, rfl, ⟨⟨cls2, dd2, data2, sl2⟩, ho2, hc2, m2, hd2⟩, hr2⟩ := r₂
  simp only at hc hd hc2 hd2
  subst hc hd hc2 hd2
  have e : vs.toArray ++ ws.toArray = (vs ++ ws).toArray := by simp
  by_cases hv : vs = []
  · refine concat_meets ⟨_, ho, rfl⟩ ⟨_, ho2, rfl⟩ noFill_tuple_add seq_tuple_add PySem.F.slot_tuple_add PySem.F.entry_tuple_add (PySem.F.args_tuple_add_2 _ _)
      (tuple_addW0 t b vs.toArray ws.toArray m m2 dd dd2 sl sl2 (by simp [hv])) ⟨ho, ho2, ?_⟩
    have : xs = [] := by
      have := hr.length; rw [hv] at this; exact List.length_eq_zero_iff.mp this.symm
    subst this
    exact EP.here I r₂' q
  · by_cases hw : ws = []
    · refine concat_meets ⟨_, ho, rfl⟩ ⟨_, ho2, rfl⟩ noFill_tuple_add seq_tuple_add PySem.F.slot_tuple_add PySem.F.entry_tuple_add (PySem.F.args_tuple_add_2 _ _)
        (tuple_addW1 t b vs.toArray ws.toArray m m2 dd dd2 sl sl2 (by simpa using hv) (by simp [hw])) ⟨ho, ho2, ?_⟩
      have : ys = [] := by
        have := hr2.length; rw [hw] at this; exact List.length_eq_zero_iff.mp this.symm
      subst this
      rw [List.append_nil] at q
      exact EP.here I r₁' q
    · refine concat_meets ⟨_, ho, rfl⟩ ⟨_, ho2, rfl⟩ noFill_tuple_add seq_tuple_add PySem.F.slot_tuple_add PySem.F.entry_tuple_add (PySem.F.args_tuple_add_2 _ _)
        (tuple_addW2 t b vs.toArray ws.toArray m m2 dd dd2 sl sl2 (by simpa using hv) (by simpa using hw) (by rw [List.size_toArray, List.size_toArray, hr.length, hr2.length]; exact hsz)) ⟨ho, ho2, ?_⟩
      rw [e]
      exact EP.newTup I (hr.append hr2) q

theorem WE.neg {x : Expr} {p : Pos} (h : WE C A env gs S H x (fun v H' => ∃ i, v = .int i ∧ Q (.int (-i)) H')) : WE C A env gs S H (.UnaryOp .USub x p) Q := by
  intro s I F
  refine UnaryOp_ (wpAny_mono (h s I F) (fun v s₁ h₁ => ?_) noE)
  obtain ⟨x, H₁, r₁, I₁, k₁, i, rfl, q₁⟩ := h₁
  unfold VR at r₁; obtain ⟨t, rfl⟩ := r₁
  exact neg_int ((EP.same I₁ (by unfold VR; exact ⟨_, rfl⟩) q₁).from k₁)

/-! pairs of a set and a price -/
abbrev Pr := List Int × Int
abbrev prV (p : Pr) : MV := .tup [.tup (p.1.map .int), .int p.2]
end
end Mine
namespace Mine
open PySem PySem.W PySem.Calls PyProof.Rows

/-! dicts whose keys are ints -/
section
variable {C : Cx} {A : Around} {env : Env} {gs : List Str} {S : Sg} {H : Hp} {n : Nat} {Q : MV → Hp → Prop}

theorem intsAre_of {b h : Heap} : ∀ {g : List Int} {vs : List Value}, VRs b h (g.map .int) vs → IntsAre vs g
  | [], _, r => by have := r.inv0; subst this; exact .nil
  | i :: g, _, r => by
    obtain ⟨v, t, rfl, h1, h2⟩ := r.inv
    unfold VR at h1; obtain ⟨tk, rfl⟩ := h1
    exact .cons _ _ (intsAre_of h2)
/-- sorted(l) -/
theorem WC.sortedL {a : Addr} {g : List Int} (hm : (a, MO.list (g.map .int)) ∈ H) (h64 : g.length < 64) (q : ∀ (b : Addr) (g' : List Int), ¬ dom H b → g'.Perm g → g'.Pairwise (· ≤ ·) → Q (.ref b) ((b, .list (g'.map .int)) :: H)) : WC C A H (.builtin "sorted") [.ref a] Q := .of1 fun s v I r => by
  unfold VR at r; subst r
  obtain ⟨vs, m, ho, hr⟩ := I.objs _ hm
  have hi := intsAre_of hr
  have hl : vs.length = g.length := by rw [hr.length]; simp
  refine sorted_ints (l := a) (vs := vs) ⟨_, ho, rfl, m, rfl⟩ hi (by omega) fun out g' h1 h2 h3 => ?_
  obtain ⟨e, hat⟩ := sortedAll_at s.heap vs out
  have hk : ∀ b o, s.heap.get? b = some o → (sortedAll s.heap vs out).get? b = some o := fun b o e => sortedAll_old e
  have hna : s.heap.get? (s.heap.objs.size + 1) = Option.none := by
    cases e : s.heap.get? (s.heap.objs.size + 1) with
    | none => rfl
    | some o => exact absurd (Heap.lt_size e) (Nat.not_lt.mpr (Nat.le_succ _))
  obtain ⟨I', k, nd'⟩ := I.add (mo := .list (g'.map .int)) hk hna ⟨out.toList, e, by simpa [seqObj] using hat, intsVR h1⟩ s.toks
  exact ⟨_, _, by unfold VR; rfl, I', k, q _ _ nd' h2 h3⟩
end
end Mine
namespace Mine
open PySem PySem.W PySem.Calls PyProof.Rows

section
variable {C : Cx} {A : Around} {env : Env} {gs : List Str} {S : Sg} {H : Hp} {n : Nat} {Q : MV → Hp → Prop}

/-! an item of a list set -/
/-! isinstance -/
inductive Isi (H : Hp) : MV → String → Bool → Prop
  | ii {i} : Isi H (.int i) "int" true
  | ib {i} : Isi H (.int i) "bool" false
  | bi {b} : Isi H (.bool b) "int" true
  | bb {b} : Isi H (.bool b) "bool" true
  | ni : Isi H .none "int" false
  | nb : Isi H .none "bool" false
  | si {x} : Isi H (.str x) "int" false
  | sb {x} : Isi H (.str x) "bool" false
  | ti {l} : Isi H (.tup l) "int" false
  | tb {l} : Isi H (.tup l) "bool" false
  | tt {l} : Isi H (.tup l) "tuple" true
  | li {a xs} : (a, MO.list xs) ∈ H → Isi H (.ref a) "int" false
  | lb {a xs} : (a, MO.list xs) ∈ H → Isi H (.ref a) "bool" false
  | ll {a xs} : (a, MO.list xs) ∈ H → Isi H (.ref a) "list" true
  | di {a es} : (a, MO.dict es) ∈ H → Isi H (.ref a) "int" false
  | db {a es} : (a, MO.dict es) ∈ H → Isi H (.ref a) "bool" false
theorem WC.isi {x : MV} {T : String} {b : Bool} (h : Isi H x T b) (q : Q (.bool b) H) : WC C A H (.builtin "isinstance") [x, .raw (.type T)] Q := by
  cases h with
  | ii => exact WC.isiII q
  | ib => exact WC.isiIB q
  | bi => exact WC.isiBI q
  | bb => exact WC.isiBB q
  | tt => exact WC.isiTT q
  | ll hm => exact WC.isiLL hm q
  | ni =>
      refine WC.of2 fun s u v I r₁ r₂ => ?_
      unfold VR at r₁ r₂; subst r₁; subst r₂
      exact IsiPair.NoneType_int (EP.same I (by unfold VR; rfl) q)
  | nb =>
      refine WC.of2 fun s u v I r₁ r₂ => ?_
      unfold VR at r₁ r₂; subst r₁; subst r₂
      exact IsiPair.NoneType_bool (EP.same I (by unfold VR; rfl) q)
  | si =>
      refine WC.of2 fun s u v I r₁ r₂ => ?_
      unfold VR at r₁ r₂; obtain ⟨t, rfl⟩ := r₁; subst r₂
      exact IsiPair.str_int (EP.same I (by unfold VR; rfl) q)
  | sb =>
      refine WC.of2 fun s u v I r₁ r₂ => ?_
      unfold VR at r₁ r₂; obtain ⟨t, rfl⟩ := r₁; subst r₂
      exact IsiPair.str_bool (EP.same I (by unfold VR; rfl) q)
  | ti =>
      refine WC.of2 fun s u v I r₁ r₂ => ?_
      unfold VR at r₁ r₂; obtain ⟨a, vs, rfl, ⟨o, ho, hc, n, hd⟩, hr⟩ := r₁; subst r₂
      exact IsiPair.tuple_int ho hc (EP.same I (by unfold VR; rfl) q)
  | tb =>
      refine WC.of2 fun s u v I r₁ r₂ => ?_
      unfold VR at r₁ r₂; obtain ⟨a, vs, rfl, ⟨o, ho, hc, n, hd⟩, hr⟩ := r₁; subst r₂
      exact IsiPair.tuple_bool ho hc (EP.same I (by unfold VR; rfl) q)
  | li hm =>
      refine WC.of2 fun s u v I r₁ r₂ => ?_
      unfold VR at r₁ r₂; subst r₁; subst r₂
      obtain ⟨vs, n, ho, hr⟩ := I.objs _ hm
      exact IsiPair.list_int ho rfl (EP.same I (by unfold VR; rfl) q)
  | lb hm =>
      refine WC.of2 fun s u v I r₁ r₂ => ?_
      unfold VR at r₁ r₂; subst r₁; subst r₂
      obtain ⟨vs, n, ho, hr⟩ := I.objs _ hm
      exact IsiPair.list_bool ho rfl (EP.same I (by unfold VR; rfl) q)
  | di hm =>
      refine WC.of2 fun s u v I r₁ r₂ => ?_
      unfold VR at r₁ r₂; subst r₁; subst r₂
      obtain ⟨_, vs, n, ho, hr⟩ := I.objs _ hm
      exact IsiPair.dict_int ho rfl (EP.same I (by unfold VR; rfl) q)
  | db hm =>
      refine WC.of2 fun s u v I r₁ r₂ => ?_
      unfold VR at r₁ r₂; subst r₁; subst r₂
      obtain ⟨_, vs, n, ho, hr⟩ := I.objs _ hm
      exact IsiPair.dict_bool ho rfl (EP.same I (by unfold VR; rfl) q)
/-- isinstance(e, T) -/
theorem WE.isi {e : Expr} {t : Str} {T : String} {p p2 pos : Pos} (hx : Str.ofString "isinstance" ∈ gs) (g : Gl C "isinstance" (.builtin "isinstance")) (ht : t ∈ gs) (gt : Gl C t (.type T))
    (h : WE C A env gs S H e fun x H' => ∃ b, Isi H' x T b ∧ Q (.bool b) H') (he : starEach [e, .Name t p2] env = [(false, eval e env), (false, eval (.Name t p2) env)] := by with_unfolding_all rfl) :
    WE C A env gs S H (.Call (.Name "isinstance" p) [e, .Name t p2] [] pos) Q := by
  refine WE.callB hx g (WEs.cons (h.mono fun x H' h' => ?_) ?_) ?_ ?_
  · obtain ⟨b, hi, q⟩ := h'
    exact WEs.cons (WE.gl ht gt (WEs.nil (WC.isi hi q)))
  · rw [he]; rfl
  · rw [he]; rfl
  · rfl
inductive Len (H : Hp) : MV → Nat → Prop
  | list {a xs} : (a, MO.list xs) ∈ H → Len H (.ref a) xs.length
  | tup {l} : Len H (.tup l) l.length
  | fl {l} : Len H (.fl l) l.length
/-- len(e) -/
theorem WE.len {e : Expr} {p pos : Pos} (hx : Str.ofString "len" ∈ gs) (g : Gl C "len" (.builtin "len"))
    (h : WE C A env gs S H e fun x H' => ∃ k, Len H' x k ∧ k < 2 ^ 62 ∧ Q (.int k) H') (he : starEach [e] env = [(false, eval e env)] := by with_unfolding_all rfl) :
    WE C A env gs S H (.Call (.Name "len" p) [e] [] pos) Q := by
  refine WE.callB hx g (WEs.cons (h.mono fun x H' h' => WEs.nil ?_) ?_) ?_ ?_
  · obtain ⟨k, hi, hk, q⟩ := h'
    cases hi with
    | list hm => exact WC.lenL hm hk q
    | tup => exact WC.lenT hk q
    | fl => exact WC.lenF hk q
  · rw [he]; rfl
  · rw [he]; rfl
  · rfl

theorem Len.listM {α : Type} {a : Addr} {f : α → MV} {l : List α} (h : (a, MO.list (l.map f)) ∈ H) : Len H (.ref a) l.length := by
  have := Len.list h
  rwa [List.length_map] at this
theorem W2.itemM {α : Type} {value slice : Expr} {a : Addr} {f : α → MV} {l : List α} {k : Int} {x : α} (hm : (a, MO.list (l.map f)) ∈ H) (h0 : 0 ≤ k) (hx : l[k.toNat]? = some x) (hhi : k < 2 ^ 63) (q : Q (f x) H) (hs : plainSlice slice := by intro _ _; with_unfolding_all rfl) :
    W2 C A H (subscriptTail value slice) (.ref a) (.int k) Q := W2.itemL hm h0 (by rw [List.getElem?_map, hx]; rfl) hhi q hs

/-! is None -/
end
end Mine
namespace Mine
open PySem PySem.W PySem.Calls PyProof.Rows

/-! equal things of any kind, where the parts are the same -/
mutual
inductive Sm (H : Hp) : Nat → MV → MV → Prop
  | none {n} : Sm H n .none .none
  | bool {n} (b : Bool) : Sm H n (.bool b) (.bool b)
  | int {n} (i : Int) : Sm H n (.int i) (.int i)
  | str {n} (x : Str) : Sm H n (.str x) (.str x)
  | ref {n} (a : Addr) : Sm H n (.ref a) (.ref a)
  | tup {n} {xs ys : List MV} : Sms H n xs ys → Sm H (n + 1) (.tup xs) (.tup ys)
  | list {n} {a b : Addr} {xs ys : List MV} : (a, MO.list xs) ∈ H → (b, MO.list ys) ∈ H → Sms H n xs ys → Sm H (n + 1) (.ref a) (.ref b)
inductive Sms (H : Hp) : Nat → List MV → List MV → Prop
  | nil {n} : Sms H n [] []
  | cons {n} {x y : MV} {xs ys : List MV} : Sm H n x y → Sms H n xs ys → Sms H n (x :: xs) (y :: ys)
end
section
variable {C : Cx} {env : Env} {gs : List Str} {S : Sg} {H : Hp} {Q : MV → Hp → Prop}
mutual
theorem Sm.eqAt {s : Shared} (I : Inv C H s) : ∀ {n : Nat} {x y : MV}, Sm H n x y → ∀ {A : Around} {u v : Value}, VR C.h₀ s.heap x u → VR C.h₀ s.heap y v → A.units + n < cLine → SeqAt.EqAt A s u v true
  | _, _, _, .none, A, u, v, r1, r2, _ => by unfold VR at r1 r2; subst r1; subst r2; exact SeqAt.EqAt.same _
  | _, _, _, .bool b, A, u, v, r1, r2, _ => by unfold VR at r1 r2; subst r1; subst r2; exact SeqAt.EqAt.same _
  | _, _, _, .ref a, A, u, v, r1, r2, _ => by unfold VR at r1 r2; subst r1; subst r2; exact SeqAt.EqAt.same _
  | _, _, _, .int i, A, u, v, r1, r2, _ => by
    unfold VR at r1 r2; obtain ⟨t, rfl⟩ := r1; obtain ⟨t', rfl⟩ := r2
    have := SeqAt.EqAt.int_int (A := A) (s := s) i t i t'
    rwa [beq_self_eq_true] at this
  | _, _, _, .str i, A, u, v, r1, r2, _ => by
    unfold VR at r1 r2; obtain ⟨t, rfl⟩ := r1; obtain ⟨t', rfl⟩ := r2
    have := SeqAt.EqAt.str_str (A := A) (s := s) i t i t'
    rwa [beq_self_eq_true] at this
  | _, _, _, .tup hs, A, u, v, r1, r2, hu => by
    unfold VR at r1 r2
    obtain ⟨a, us, rfl, ht1, hr1⟩ := r1
    obtain ⟨b, vs, rfl, ht2, hr2⟩ := r2
    by_cases hab : a = b
    · subst hab; exact SeqAt.EqAt.same _
    · obtain ⟨hl, he⟩ := Sms.eqAt I hs (A := A.in1) hr1 hr2 (by show A.units + 1 + _ < _; omega)
      have := SeqAt.RcAt.tuples (A := A) (e := fun _ => true) ht1 ht2 (by omega) (fun j h1 h2 => by simpa using he j (by simpa using h1) (by simpa using h2))
      rw [show ((List.range (min us.toArray.size vs.toArray.size)).all (fun _ => true) && us.toArray.size == vs.toArray.size) = true by simp [hl]] at this
      exact SeqAt.EqAt.of_refs hab this
  | _, _, _, .list (a := a) (b := b) h1 h2 hs, A, u, v, r1, r2, hu => by
    unfold VR at r1 r2
    subst r1; subst r2
    by_cases hab : a = b
    · subst hab; exact SeqAt.EqAt.same _
    · obtain ⟨us, m1, ho1, hr1⟩ := I.objs _ h1
      obtain ⟨vs, m2, ho2, hr2⟩ := I.objs _ h2
      obtain ⟨hl, he⟩ := Sms.eqAt I hs (A := A.in1) hr1 hr2 (by show A.units + 1 + _ < _; omega)
      have := SeqAt.RcAt.lists (A := A) (e := fun _ => true) (items := us.toArray) (items2 := vs.toArray) ⟨_, ho1, rfl, m1, rfl⟩ ⟨_, ho2, rfl, m2, rfl⟩ (by simp [hl]) (by omega) (fun j h1 h2 => by simpa using he j (by simpa using h1) (by simpa using h2))
      rw [show ((List.range us.toArray.size).all fun _ => true) = true by simp] at this
      exact SeqAt.EqAt.of_refs hab this
theorem Sms.eqAt {s : Shared} (I : Inv C H s) : ∀ {n : Nat} {xs ys : List MV}, Sms H n xs ys → ∀ {A : Around} {us vs : List Value}, VRs C.h₀ s.heap xs us → VRs C.h₀ s.heap ys vs → A.units + n < cLine →
    us.length = vs.length ∧ ∀ (j : Nat) (h1 : j < us.length) (h2 : j < vs.length), SeqAt.EqAt A s us[j] vs[j] true
  | _, _, _, .nil, A, us, vs, r1, r2, _ => by
    have := r1.inv0; subst this
    have := r2.inv0; subst this
    exact ⟨rfl, fun j h => absurd h (Nat.not_lt_zero _)⟩
  | _, _, _, .cons h hs, A, us, vs, r1, r2, hu => by
    obtain ⟨u, us', rfl, q1, q2⟩ := r1.inv
    obtain ⟨v, vs', rfl, q3, q4⟩ := r2.inv
    obtain ⟨hl, he⟩ := Sms.eqAt I hs q2 q4 hu
    refine ⟨by simp [hl], fun j h1 h2 => ?_⟩
    cases j with
    | zero => exact Sm.eqAt I h q1 q3 hu
    | succ j => exact he j (by simpa using h1) (by simpa using h2)
end
variable {A : Around} {n : Nat}
theorem W2.eqSm {a b : Addr} {xs ys : List MV} {k : Nat} (hA : AOk A n) (h1 : (a, MO.list xs) ∈ H) (h2 : (b, MO.list ys) ∈ H) (hs : Sms H k xs ys) (hk : k ≤ 50) (q : Q (.bool true) H) : W2 C A H (compareOp .Eq) (.ref a) (.ref b) Q := by
  intro s u v I r₁ r₂
  unfold VR at r₁ r₂; subst r₁; subst r₂
  obtain ⟨us, m1, ho1, hr1⟩ := I.objs _ h1
  obtain ⟨vs, m2, ho2, hr2⟩ := I.objs _ h2
  have := hA.units
  obtain ⟨hl, he⟩ := Sms.eqAt I hs (A := A.in1) hr1 hr2 (by show A.units + 1 + _ < _; omega)
  have key := SeqAt.RcAt.lists (A := A) (e := fun _ => true) (items := us.toArray) (items2 := vs.toArray) ⟨_, ho1, rfl, m1, rfl⟩ ⟨_, ho2, rfl, m2, rfl⟩ (by simp [hl]) (by omega) (fun j h1 h2 => by simpa using he j (by simpa using h1) (by simpa using h2))
  rw [show ((List.range us.toArray.size).all fun _ => true) = true by simp] at key
  exact key C.prog C.w _ _ (EP.here I (by unfold VR; rfl) q)
theorem W2.neSm {a b : Addr} {xs ys : List MV} {k : Nat} (hA : AOk A n) (h1 : (a, MO.list xs) ∈ H) (h2 : (b, MO.list ys) ∈ H) (hs : Sms H k xs ys) (hk : k ≤ 50) (q : Q (.bool false) H) : W2 C A H (compareOp .NotEq) (.ref a) (.ref b) Q := by
  intro s u v I r₁ r₂
  unfold VR at r₁ r₂; subst r₁; subst r₂
  obtain ⟨us, m1, ho1, hr1⟩ := I.objs _ h1
  obtain ⟨vs, m2, ho2, hr2⟩ := I.objs _ h2
  have := hA.units
  obtain ⟨hl, he⟩ := Sms.eqAt I hs (A := A.in1) hr1 hr2 (by show A.units + 1 + _ < _; omega)
  have key := SeqAt.RcNeAt.lists (A := A) (e := fun _ => true) (items := us.toArray) (items2 := vs.toArray) ⟨_, ho1, rfl, m1, rfl⟩ ⟨_, ho2, rfl, m2, rfl⟩ (by simp [hl]) (by omega) (fun j h1 h2 => by simpa using he j (by simpa using h1) (by simpa using h2))
  rw [show (!(List.range us.toArray.size).all fun _ => true) = false by simp] at key
  exact key C.prog C.w _ _ (EP.here I (by unfold VR; rfl) q)

theorem sm_rd (r : Rd) : Sm H 1 (rdV r) (rdV r) := .tup (.cons (.int _) (.cons (.int _) (.cons (.int _) .nil)))
theorem sms_rds (R : List Rd) : Sms H 1 (R.map rdV) (R.map rdV) := by
  induction R with
  | nil => exact .nil
  | cons r R ih => exact .cons (sm_rd r) ih
mutual
theorem Sm.le : ∀ {n m : Nat} {x y : MV}, Sm H n x y → n ≤ m → Sm H m x y
  | _, _, _, _, .none, _ => .none
  | _, _, _, _, .bool b, _ => .bool b
  | _, _, _, _, .int b, _ => .int b
  | _, _, _, _, .str b, _ => .str b
  | _, _, _, _, .ref b, _ => .ref b
  | _, m + 1, _, _, .tup h, hle => .tup (h.le (Nat.le_of_succ_le_succ hle))
  | _, m + 1, _, _, .list h1 h2 h, hle => .list h1 h2 (h.le (Nat.le_of_succ_le_succ hle))
theorem Sms.le : ∀ {n m : Nat} {xs ys : List MV}, Sms H n xs ys → n ≤ m → Sms H m xs ys
  | _, _, _, _, .nil, _ => .nil
  | _, _, _, _, .cons h hs, hle => .cons (h.le hle) (hs.le hle)
end
theorem sms_self {n : Nat} : ∀ {xs : List MV}, (∀ x ∈ xs, Sm H n x x) → Sms H n xs xs
  | [], _ => .nil
  | x :: xs, h => .cons (h x List.mem_cons_self) (sms_self fun y hy => h y (List.mem_cons_of_mem _ hy))
end
end Mine
namespace Mine
open PySem PySem.W PySem.Calls PyProof.Rows
section
variable {C : Cx} {A : Around} {env : Env} {gs : List Str} {S : Sg} {H : Hp} {n : Nat} {Q : MV → Hp → Prop}
theorem WC.sumL {a : Addr} {g : List Int} (hA : AOk A n) (hm : (a, MO.list (g.map .int)) ∈ H) (q : Q (.int g.sum) H) : WC C A H (.builtin "sum") [.ref a] Q := .of1 fun s v I r => by
  unfold VR at r; subst r
  obtain ⟨vs, m, ho, hr⟩ := I.objs _ hm
  have hi := intsAre_of hr
  have hl : s.heap.IsList a vs.toArray := ⟨_, ho, rfl, m, rfl⟩
  obtain ⟨xs, hx⟩ := hi.allInts.items
  have hl' : s.heap.IsList a (intItems xs) := hx ▸ hl
  refine sum_intListG hA.handled hl' fun h' tk t' hk => ?_
  have e1 : g = xs.toList.map (·.1) := by
    rw [← nums_intItems, ← hx]
    exact (show numsOf vs.toArray.toList = g from hi.numsOf).symm
  have e2 : preSum (numAt xs) xs.size = g.sum := by
    rw [preSum_eq, List.take_of_length_le (by simp), e1]
  rw [e2]
  exact EP.grown (t := tk) I hk (by unfold VR; exact ⟨_, rfl⟩) q
end
end Mine
set_option maxRecDepth 100000
namespace Mine
open PySem PySem.W PySem.Calls PyProof.Rows
section
variable {C : Cx} {A : Around} {env : Env} {gs : List Str} {S : Sg} {H : Hp} {n : Nat} {Q : MV → Hp → Prop}

/-! the larger and the smaller of two ints -/
theorem WC.max2 {a b : Int} (hA : AOk A n) (q : Q (.int (max a b)) H) : WC C A H (.builtin "max") [.int a, .int b] Q := .of2 fun s u v I r₁ r₂ => by
  unfold VR at r₁ r₂
  obtain ⟨t, rfl⟩ := r₁
  obtain ⟨t', rfl⟩ := r₂
  refine max_two_ints hA.handled fun h' tk hk => EP.grown (x := .int (max a b)) (t := tk) I hk ?_ q
  unfold VR
  by_cases h : b > a
  · rw [if_pos h, show max a b = b by omega]; exact ⟨_, rfl⟩
  · rw [if_neg h, show max a b = a by omega]; exact ⟨_, rfl⟩
theorem WC.min2 {a b : Int} (hA : AOk A n) (q : Q (.int (min a b)) H) : WC C A H (.builtin "min") [.int a, .int b] Q := .of2 fun s u v I r₁ r₂ => by
  unfold VR at r₁ r₂
  obtain ⟨t, rfl⟩ := r₁
  obtain ⟨t', rfl⟩ := r₂
  refine min_two_ints hA.handled fun h' tk hk => EP.grown (x := .int (min a b)) (t := tk) I hk ?_ q
  unfold VR
  by_cases h : b < a
  · rw [if_pos h, show min a b = b by omega]; exact ⟨_, rfl⟩
  · rw [if_neg h, show min a b = a by omega]; exact ⟨_, rfl⟩

/-! list.pop -/
theorem VRs.eraseIdx {b h : Heap} : ∀ {xs : List MV} {vs : List Value}, VRs b h xs vs → ∀ i, VRs b h (xs.eraseIdx i) (vs.eraseIdx i)
  | [], _, r, i => by unfold VRs at r; subst r; exact VRs.nil
  | y :: xs, _, r, i => by
    obtain ⟨u, t, rfl, h1, h2⟩ := r.inv
    cases i with
    | zero => exact h2
    | succ i => exact .cons h1 (VRs.eraseIdx h2 i)
theorem pop_core {s : Shared} {a : Addr} {xs : List MV} {x : MV} {H' : Hp} {j : Nat} (I : Inv C H s) (hm : (a, MO.list xs) ∈ H) (hj : xs[j]? = some x) (u : Upd H a (.list (xs.eraseIdx j)) H') (q : Q x H') {vs : List Value} {m : Nat} (ho : s.heap.get? a = some { cls := .type "list", data := .seq vs.toArray m }) (hr : VRs C.h₀ s.heap xs vs) {y : Value} (hy : vs[j]? = some y) :
    EP C H s Q y { s with heap := s.heap.update a (Obj.mapSeq fun xs => xs.eraseIdxIfInBounds j) } := by
  have hs : Heap.SameBut a s.heap (s.heap.update a (Obj.mapSeq fun x => x.eraseIdxIfInBounds j)) := Heap.SameBut.update ..
  have tk : TupKeep s.heap (s.heap.update a (Obj.mapSeq fun x => x.eraseIdxIfInBounds j)) := fun b o e hi => hs.extBut b o (fun q => I.noTup e hi (by rw [q]; exact List.mem_map_of_mem (f := (·.1)) hm)) e
  have hjl : j < vs.length := get_lt hy
  obtain ⟨m', hnew⟩ : ∃ m', (s.heap.update a (Obj.mapSeq fun x => x.eraseIdxIfInBounds j)).get? a = some { cls := .type "list", data := .seq (vs.eraseIdx j).toArray m' } := by
    have := Heap.get?_update_self (Obj.mapSeq fun x => x.eraseIdxIfInBounds j) ho (by simp [Obj.mapSeq, Obj.isFreed])
    rw [this]
    exact ⟨_, by simp [Obj.mapSeq]; rfl⟩
  obtain ⟨I', k⟩ := I.upd hm u hs.extBut ⟨vs.eraseIdx j, m', hnew, (hr.eraseIdx j).keep tk⟩ s.toks
  obtain ⟨v, hv, rv⟩ := hr.get hj
  rw [hy] at hv; cases hv
  exact ⟨x, H', rv.keep tk, I', k, q⟩
theorem WC.popAt {a : Addr} {xs : List MV} {x : MV} {k : Int} {H' : Hp} (hm : (a, MO.list xs) ∈ H) (h0 : 0 ≤ k) (hx : xs[k.toNat]? = some x) (hsz : xs.length ≤ sizeLine) (hfit : k < 2 ^ 63) (u : Upd H a (.list (xs.eraseIdx k.toNat)) H') (q : Q x H') : WC C A H (.builtin "list.pop") [.ref a, .int k] Q := .of2 fun s v w I r₁ r₂ => by
  unfold VR at r₁ r₂; subst r₁
  obtain ⟨t, rfl⟩ := r₂
  obtain ⟨vs, m, ho, hr⟩ := I.objs _ hm
  obtain ⟨y, hy, _⟩ := hr.get hx
  have hlt := get_lt hy
  refine call_meets PySem.F.slot_list_pop ⟨_, ho, rfl⟩ PySem.F.entry_list_pop (PySem.F.args_list_pop_2 _ _) (PySem.MeetsSeq.list_pop_at a vs.toArray m k t k.toNat y (fitsIndex_of h0 hfit) ?_ (by simpa using hy) (by rw [List.size_toArray, hr.length]; exact hsz)) ⟨ho, ?_⟩
  · unfold seqIndex?
    have h1 : ¬ k < 0 := by omega
    have h2 : (decide (0 ≤ k) && decide (k < (vs.toArray.size : Int))) = true := by simp; omega
    simp only [h1, if_false]
    rw [if_pos h2]
  · exact pop_core I hm hx u q ho hr hy
theorem WE.popAt {o e : Expr} {apos pos : Pos} (h : WE C A env gs S H o fun x H₁ => ∃ a xs, x = .ref a ∧ (a, MO.list xs) ∈ H₁ ∧ WE C A env gs S H₁ e fun y H₂ => ∃ k ys x H₃, y = .int k ∧ (a, MO.list ys) ∈ H₂ ∧ 0 ≤ k ∧ ys[k.toNat]? = some x ∧ ys.length ≤ sizeLine ∧ k < 2 ^ 63 ∧ Upd H₂ a (.list (ys.eraseIdx k.toNat)) H₃ ∧ Q x H₃)
    (hbase : attributeBase o ("pop" : Str) env (eval o env) = eval o env := by with_unfolding_all rfl) (he : starEach [e] env = [(false, eval e env)] := by with_unfolding_all rfl)
    (hline : (apos.endLine == pos.line) = true := by with_unfolding_all rfl) :
    WE C A env gs S H (.Call (.Attribute o "pop" apos) [e] [] pos) Q := by
  refine WE.meth1 (id := "list.pop") PySem.F.slot_list_pop PySem.F.type_list_pop (h.mono fun x H₁ h₁ => ?_) hbase he (by rfl) (by rw [he]; rfl) hline
  obtain ⟨a, xs, rfl, hm, h₂⟩ := h₁
  refine ⟨a, xs, rfl, hm, WEs.cons (h₂.mono fun y H₂ h₃ => WEs.nil ?_) he⟩
  obtain ⟨k, ys, x, H₃, rfl, h4, h5, h6, h7, h8, h9, h10⟩ := h₃
  exact WC.popAt h4 h5 h6 h7 h8 h9 h10
/-! sorted(t, reverse=True) of a tuple of ints -/
theorem sorted_tup_rev {prog : Program} {w : World} {A : Around} {E : Value → Shared → Prop} {s : Shared} {l : Addr} {vs : List Value} {ns : List Int} {b : Bool} {Q : Value → Shared → Prop} (hl : s.heap.IsTuple l vs.toArray) (hI : IntsAre vs ns) (h64 : vs.length < 64)
    (h : ∀ (h' : Heap) (a : Addr) (us : List Value) (m : Nat) (ns' : List Int), (∀ b o, s.heap.get? b = some o → h'.get? b = some o) → s.heap.get? a = none → h'.get? a = some { cls := .type "list", data := .seq us.toArray m } → IntsAre us ns' → ns'.Perm ns → Ordered b ns' → Q (.ref a) { s with heap := h' }) :
    wpAny (model prog w) A (call (.builtin "sorted") [.ref l] [(Str.ofString "reverse", .bool b)]) Q E s := by
  obtain ⟨o, ho, hc, n, hd⟩ := hl
  refine call_function_entry_kw kind_sorted plain_sorted entry_sorted (args_sorted_rev _ _) ?_
  unfold Builtin.«sorted»
  refine wpAny_bind (m := checkCount "sorted" 1 1 _) (wpAny_pure ?_)
  refine wpAny_bind (wpAny_collect_seq l (T := "tuple") (.inr rfl) ho hc hd (fun h₁ hk₁ => ?_) (by rw [List.size_toArray, sizeLine_eq]; omega))
  refine wpAny_bind (wpAny_newList ?_)
  have hoL : (h₁.push (seqObj "list" vs.toArray 0)).get? h₁.objs.size = some (seqObj "list" vs.toArray 0) := Heap.get?_push_size _ rfl
  show wpAny _ _ _ _ _ { s with heap := h₁.push (seqObj "list" vs.toArray 0) }
  refine wpAny_bind (wpAny_holding (wpAny_call_entry_kw slot_list_sort ⟨_, hoL, rfl⟩ entry_list_sort (list_sort_tree_rev hoL hI h64 fun out ns' a1 a2 a3 => ⟨_, rfl, ?_⟩) (args_list_sort_rev _ _)))
  obtain ⟨e, he⟩ := sortedHeap_at (a := h₁.objs.size) (vs := vs) (out := out) hoL
  refine wpAny_pure ⟨_, rfl, h _ h₁.objs.size out.toList e ns' ?_ ?_ ?_ a1 a2 a3⟩
  · intro b' o' eb
    have e1 := hk₁ _ _ eb
    have hlt := Heap.lt_size e1
    rw [sortedHeap_old (Nat.ne_of_lt hlt) (by rw [size_push']; exact Nat.lt_succ_of_lt hlt)]
    exact Heap.get?_push_of_some _ e1
  · cases e2 : s.heap.get? h₁.objs.size with
    | none => rfl
    | some o2 => exact absurd (Heap.lt_size (hk₁ _ _ e2)) (Nat.lt_irrefl _)
  · simpa [seqObj] using he
theorem WE.sortedRev {e : Expr} {p p2 kp pos : Pos} {k : Nat} (hx : Str.ofString "sorted" ∈ gs) (g : Gl C "sorted" (.builtin "sorted"))
    (h : WE C A env gs S H e fun x H' => ∃ g : List Int, x = .tup (g.map .int) ∧ g.length < 64 ∧ ∀ (b : Addr) (g' : List Int), ¬ dom H' b → g'.Perm g → Q (.ref b) ((b, .list (g'.map .int)) :: H'))
    (he : starEach [e] env = [(false, eval e env)] := by with_unfolding_all rfl) :
    WE C A env gs S H (.Call (.Name "sorted" p) [e] [⟨some "reverse", .Constant (.bool true) k p2, kp⟩] pos) Q := by
  intro s I F
  refine wpAny_Call_Name_kw (wpAny_mono (WE.gl (Q := fun x H' => x = .raw (.builtin "sorted") ∧ H' = H) hx g ⟨rfl, rfl⟩ s I F) (fun v s₁ h₁ => ?_) noE)
  obtain ⟨x, H₁, r₁, I₁, k₁, rfl, rfl⟩ := h₁
  unfold VR at r₁; subst r₁
  have hh := WEs.cons (Q := fun xs H' => ∃ g : List Int, xs = [.tup (g.map .int)] ∧ g.length < 64 ∧ ∀ (b : Addr) (g' : List Int), ¬ dom H' b → g'.Perm g → Q (.ref b) ((b, .list (g'.map .int)) :: H')) (h.mono fun x H' h' => WEs.nil (by
    obtain ⟨g, rfl, h2, h3⟩ := h'
    exact ⟨g, rfl, h2, h3⟩)) he
  refine callWith_kw (wpAny_mono (hh s₁ pos I₁ (F.keep I k₁)) (fun vs s₂ h₂ => ?_) noE) (by rw [he]; rfl) (by rw [he]; rfl)
  obtain ⟨xs, H₂, r₂, I₂, k₂, g, rfl, h64, q⟩ := h₂
  obtain ⟨v, t, rfl, rv, rt⟩ := r₂.inv
  have := rt.inv0; subst this
  refine kws_cons (Constant_bool (kws_nil ?_))
  unfold VR at rv
  obtain ⟨a, us, rfl, ht, hr⟩ := rv
  refine sorted_tup_rev ht (intsAre_of hr) (by rw [hr.length, List.length_map]; exact h64) fun h' b ws m g' hk hn hat hi hp _ => ?_
  obtain ⟨I', k', nd'⟩ := I₂.add (mo := .list (g'.map .int)) hk hn ⟨ws, m, hat, intsVR hi⟩ s₂.toks
  exact ⟨_, _, by unfold VR; rfl, I', (k₁.trans k₂).trans k', q _ _ nd' hp⟩
end
end Mine
set_option maxRecDepth 100000
set_option maxHeartbeats 4000000
namespace Mine
open PySem PySem.W PySem.Calls PyProof.Rows

def getDef : Option Stmt → DefRec
  | some (.FunctionDef n a b _ _ _ sc _ _ pos) => ⟨n, a, b, sc, pos⟩
  | _ => ⟨Str.ofString "", { posonlyargs := [], args := [], vararg := none, kwonlyargs := [], kw_defaults := [], kwarg := none, defaults := [] }, [], { kind := .function, names := [], isGenerator := false, isCoroutine := false, more := [] }, ⟨0, 0, 0, 0⟩⟩
theorem seq_next {Q : Fl → Sg → Hp → Prop} {k : Sg → Hp → Prop} {S : Sg} {H : Hp} (h : k S H) : Seq Q k .next S H := h
theorem seq_ret {Q : Fl → Sg → Hp → Prop} {k : Sg → Hp → Prop} {S : Sg} {H : Hp} {v : MV} (h : Q (.ret v) S H) : Seq Q k (.ret v) S H := h
theorem loop_next {Q : Fl → Sg → Hp → Prop} {k : Sg → Hp → Prop} {S : Sg} {H : Hp} (h : k S H) : LoopQ Q k .next S H := h
theorem loop_ret {Q : Fl → Sg → Hp → Prop} {k : Sg → Hp → Prop} {S : Sg} {H : Hp} {v : MV} (h : Q (.ret v) S H) : LoopQ Q k (.ret v) S H := h
theorem ret_of {Q : MV → Hp → Prop} {S : Sg} {H : Hp} {v : MV} (h : ∃ H', H'.Sublist H ∧ Q v H') : Ret Q (.ret v) S H := h
abbrev pw := PySem.Challenge.pw_uf050005_07
def dd (i : Nat) : DefRec := getDef pw.main.body[i]?
structure Fx (C : Cx) : Prop where
  p_is_whole : Fn C "is_whole" (dd 8).name (dd 8).params (dd 8).body (dd 8).scope
  p_is_place : Fn C "is_place" (dd 9).name (dd 9).params (dd 9).body (dd 9).scope
  p_is_road : Fn C "is_road" (dd 10).name (dd 10).params (dd 10).body (dd 10).scope
  p_checked : Fn C "checked" (dd 11).name (dd 11).params (dd 11).body (dd 11).scope
  p_need_place : Fn C "need_place" (dd 12).name (dd 12).params (dd 12).body (dd 12).scope
  p_left_over : Fn C "left_over" (dd 14).name (dd 14).params (dd 14).body (dd 14).scope
  p_is_set : Fn C "is_set" (dd 15).name (dd 15).params (dd 15).body (dd 15).scope
  p_are_apart : Fn C "are_apart" (dd 16).name (dd 16).params (dd 16).body (dd 16).scope
  p_are_prices : Fn C "are_prices" (dd 17).name (dd 17).params (dd 17).body (dd 17).scope
  f_cell : Fn C "_law_cell_at" (dd 19).name (dd 19).params (dd 19).body (dd 19).scope
  f_mixed : Fn C "_law_mixed" (dd 20).name (dd 20).params (dd 20).body (dd 20).scope
  f_borne : Fn C "_law_borne" (dd 21).name (dd 21).params (dd 21).body (dd 21).scope
  f_price : Fn C "_law_price" (dd 22).name (dd 22).params (dd 22).body (dd 22).scope
  f_pairs : Fn C "_law_pairs" (dd 23).name (dd 23).params (dd 23).body (dd 23).scope
  f_spoilt : Fn C "_law_spoilt" (dd 24).name (dd 24).params (dd 24).body (dd 24).scope
  f_set : Fn C "_law_set" (dd 25).name (dd 25).params (dd 25).body (dd 25).scope
  f_due : Fn C "_law_due" (dd 26).name (dd 26).params (dd 26).body (dd 26).scope
  f_law : Fn C "law" (dd 27).name (dd 27).params (dd 27).body (dd 27).scope
  c_MOST_PLACES : ∃ t, C.mg "MOST_PLACES" = some (.int 12 t)
  c_MOST_ROADS : ∃ t, C.mg "MOST_ROADS" = some (.int 60 t)
  c_TOO_DEAR : ∃ t, C.mg "TOO_DEAR" = some (.int 10000000000000000000000000000000000000000 t)
  g_len : Gl C "len" (.builtin "len")
  g_isi : Gl C "isinstance" (.builtin "isinstance")
  g_sorted : Gl C "sorted" (.builtin "sorted")
  g_sum : Gl C "sum" (.builtin "sum")
  g_min : Gl C "min" (.builtin "min")
  g_max : Gl C "max" (.builtin "max")
  g_int : Gl C "int" (.type "int")
  g_bool : Gl C "bool" (.type "bool")
  g_list : Gl C "list" (.type "list")
  g_tuple : Gl C "tuple" (.type "tuple")
  g_range : Gl C "range" (.type "range")
local macro_rules | `(tactic| wtm_at "at") => `(tactic| first | with_reducible exact At.here | (apply At.there; wtm_at "at"))
local macro_rules | `(tactic| wtm_at "put") => `(tactic| first | with_reducible exact Put.here | (apply Put.there; wtm_at "put"))
local macro_rules | `(tactic| wtm_at "mem") => `(tactic| first | with_reducible exact List.mem_cons_self | (apply List.mem_cons_of_mem; wtm_at "mem") | assumption)
local macro_rules | `(tactic| wtm_at "upd") => `(tactic| first | with_reducible exact Upd.here | (apply Upd.there; wtm_at "upd"))
local macro_rules | `(tactic| wtm_at "bind") => `(tactic| (intro vs pm cd doc h; rcases vs with _ | ⟨a, _ | ⟨b, _ | ⟨c, _ | ⟨d, _ | ⟨e, _ | ⟨f, r⟩⟩⟩⟩⟩⟩ <;> first | rfl | (simp at h)))

local macro_rules | `(tactic| wtm_at "isiE") => `(tactic| first
  | ((with_reducible refine WE.isi (T := "int") ?hx ?g ?ht ?gt ?_ ?he); (case gt => with_reducible exact Fx.g_int (by assumption)); (case hx => wtm_at "mem"); (case g => exact Fx.g_isi (by assumption)); (case ht => wtm_at "mem"); (case he => with_unfolding_all rfl))
  | ((with_reducible refine WE.isi (T := "bool") ?hx ?g ?ht ?gt ?_ ?he); (case gt => with_reducible exact Fx.g_bool (by assumption)); (case hx => wtm_at "mem"); (case g => exact Fx.g_isi (by assumption)); (case ht => wtm_at "mem"); (case he => with_unfolding_all rfl))
  | ((with_reducible refine WE.isi (T := "list") ?hx ?g ?ht ?gt ?_ ?he); (case gt => with_reducible exact Fx.g_list (by assumption)); (case hx => wtm_at "mem"); (case g => exact Fx.g_isi (by assumption)); (case ht => wtm_at "mem"); (case he => with_unfolding_all rfl))
  | ((with_reducible refine WE.isi (T := "tuple") ?hx ?g ?ht ?gt ?_ ?he); (case gt => with_reducible exact Fx.g_tuple (by assumption)); (case hx => wtm_at "mem"); (case g => exact Fx.g_isi (by assumption)); (case ht => wtm_at "mem"); (case he => with_unfolding_all rfl)))
local macro_rules | `(tactic| wtm_at "isi") => `(tactic| first
  | wtm_at "isiE" | ((with_reducible refine WT.plain ?hh ?he); (case' hh => wtm_at "isiE"); (case he => with_unfolding_all rfl)))
local macro_rules | `(tactic| wtm_at "ex") => `(tactic| first
  | with_reducible refine ⟨_, by wtm_at "put", ?_⟩
  | with_reducible refine ⟨_, rfl, ?_⟩
  | with_reducible refine ⟨_, Isi.ii, ?_⟩ | with_reducible refine ⟨_, Isi.ib, ?_⟩ | with_reducible refine ⟨_, Isi.bi, ?_⟩ | with_reducible refine ⟨_, Isi.bb, ?_⟩
  | with_reducible refine ⟨_, Isi.tt, ?_⟩ | with_reducible refine ⟨_, Isi.ll (by wtm_at "mem"), ?_⟩
  | ((with_reducible refine ⟨_, Len.listM (by wtm_at "mem"), ?h, ?_⟩); (case h => omega))
  | ((with_reducible refine ⟨_, Len.list (by wtm_at "mem"), ?h, ?_⟩); (case h => (simp only [List.length_cons, List.length_nil]; omega)))
  | ((with_reducible refine ⟨_, Len.list (by wtm_at "mem"), ?h, ?_⟩); (case h => omega))
  | ((with_reducible refine ⟨_, Len.tup, ?h, ?_⟩); (case h => (simp only [List.length_cons, List.length_nil, List.length_map]; omega))))
local macro_rules | `(tactic| wtm_at "we") => `(tactic| first
  | ((with_reducible apply WE.var); wtm_at "at")
  | with_reducible refine WE.int ?_ | with_reducible refine WE.bin ?_
  | ((with_reducible refine WE.cmp ?_ ?hm); (case hm => with_unfolding_all rfl)) | with_reducible refine WE.tuple ?_ | with_reducible refine WE.list ?_
  | ((with_reducible refine WE.slice ?_ ?ht); (case ht => (intro _ _; with_unfolding_all rfl))) | with_reducible refine WE.sub ?_
  | wtm_at "isiE"
  | ((with_reducible refine WE.len ?hx ?g ?_ ?he); (case hx => wtm_at "mem"); (case g => exact Fx.g_len (by assumption)); (case he => with_unfolding_all rfl))
  | with_reducible refine WE.bo1 ?_ | with_reducible refine WE.and ?_ | with_reducible refine WE.or ?_
  | with_reducible refine WE.bool ?_ | with_reducible refine WE.none ?_ | with_reducible refine WE.str ?_ | ((with_reducible refine WE.cmp2 ?_ ?hm); (case hm => with_unfolding_all rfl)) | with_reducible refine WE.not ?_)
local macro_rules | `(tactic| wtm_at "w2") => `(tactic| first
  | with_reducible refine W2.add ?_ | with_reducible refine W2.sub ?_
  | ((with_reducible refine W2.modS ?hb ?_); (case hb => omega))
  | ((with_reducible refine W2.divS ?hb ?hp ?_); (case hb => omega); (case hp => omega))
  | ((with_reducible refine W2.mulR ?h1 ?h2 ?_); (case h1 => omega); (case h2 => omega))
  | ((with_reducible refine W2.mulL ?h1 ?h2 ?_); (case h1 => omega); (case h2 => omega))
  | with_reducible refine W2.lt ?_ | with_reducible refine W2.le ?_ | with_reducible refine W2.gt ?_ | with_reducible refine W2.ge ?_ | with_reducible refine W2.eq ?_ | with_reducible refine W2.ne ?_
  | (with_reducible refine W2.itemT (by with_unfolding_all decide) (by with_unfolding_all rfl) (by with_unfolding_all decide) ?_))
local macro_rules | `(tactic| wtm_at "wt") => `(tactic| first
  | ((with_reducible refine WT.cmp ?_ ?hm); (case hm => with_unfolding_all rfl)) | ((with_reducible refine WT.cmp2 ?_ ?hm); (case hm => with_unfolding_all rfl)) | with_reducible refine WT.not ?_ | with_reducible refine WT.and0 ?_ | with_reducible refine WT.or0 ?_ | with_reducible refine WT.and ?_ | with_reducible refine WT.or ?_
  | ((with_reducible refine WT.plain ?hh ?he); (case' hh => wtm_at "isiE"); (case he => with_unfolding_all rfl)))
local macro_rules | `(tactic| wtm_at "if") => `(tactic| first
  | with_reducible refine if_t ?_ | with_reducible refine if_f ?_ | with_reducible refine if_nt ?_ | with_reducible refine if_nf ?_)
local macro_rules | `(tactic| wtm_at "ws") => `(tactic| first
  | with_reducible refine WS.ret ?_ | with_reducible refine WS.if ?_ | ((with_reducible refine WS.assign ?_ ?hs); (case hs => with_unfolding_all rfl)) | ((with_reducible refine WS.expr ?_ ?hs); (case hs => with_unfolding_all rfl)) | with_reducible refine WS.pass ?_)
local macro_rules | `(tactic| wtm_at "e") => `(tactic| first
  | ((with_reducible refine (?_ : WE _ _ _ _ _ _ _ _)); wtm_at "we")
  | ((with_reducible refine (?_ : WEs _ _ _ _ _ _ _ _)); (first | with_reducible refine WEs.nil ?_ | ((with_reducible refine WEs.cons ?_ ?he); (case he => with_unfolding_all rfl))))
  | ((with_reducible refine (?_ : W2 _ _ _ _ _ _ _)); wtm_at "w2")
  | ((with_reducible refine (?_ : WT _ _ _ _ _ _ _ _)); wtm_at "wt")
  | ((with_reducible refine (?_ : WS _ _ _ _ _ _ _ _)); wtm_at "ws")
  | wtm_at "if"
  | with_reducible refine WB.bool ?_
  | with_reducible refine WSs.nil ?_
  | with_reducible refine seq_ret ?_ | with_reducible refine loop_next ?_ | with_reducible refine loop_ret ?_ | with_reducible refine ret_of ?_
  | with_reducible refine WO.none ?_ | with_reducible refine WO.some ?_
  | wtm_at "ex"
  | ((with_reducible refine ⟨Nat.le_of_ble_eq_true ?h, ?_⟩); (case h => rfl))
  | with_reducible refine And.intro (Eq.refl MV.none) ?_
  | ((with_reducible refine And.intro ?h ?_); (case h => omega)))
local macro_rules | `(tactic| wtm_at "s") => `(tactic| first | wtm_at "e" | with_reducible refine WSs.cons ?_ | with_reducible refine seq_next ?_)

section
variable {C : Cx} {A : Around} {H : Hp} {n : Nat} {Q : MV → Hp → Prop}
theorem get_map {α β : Type} {f : α → β} {l : List α} {i : Nat} {y : β} (h : (l.map f)[i]? = some y) : ∃ x, l[i]? = some x ∧ y = f x := by
  rw [List.getElem?_map, Option.map_eq_some_iff] at h
  obtain ⟨x, h1, h2⟩ := h
  exact ⟨x, h1, h2.symm⟩

/-! the guards of a net -/
theorem sp_whole (X : Fx C) (hA : AOk A (n + 1)) {x : MV} {b1 b2 : Bool} (h1 : Isi H x "int" b1) (h2 : Isi H x "bool" b2) (q : Q (.bool (b1 && !b2)) H) : WF C A H "is_whole" [x] Q := by
  refine WF.intro X.p_is_whole hA ["thing"] [] ["isinstance", "int", "bool"] [] [("thing", some x)] (by decide +kernel) rfl (by wtm_at "bind") rfl ?_
  intro env hA' K
  refine WSs.cons ?_
  repeat wtm_at "s"
  refine ⟨b1, h1, ?_⟩
  repeat wtm_at "s"
  cases b1 with
  | true =>
    repeat wtm_at "s"
    refine ⟨b2, h2, ?_⟩
    repeat wtm_at "s"
    exact ⟨H, List.Sublist.refl _, q⟩
  | false =>
    repeat wtm_at "s"
    exact ⟨H, List.Sublist.refl _, q⟩
theorem WE.whole (X : Fx C) (hA : AOk A (n + 1)) {env : Env} {gs : List Str} {S : Sg} {e : Expr} {p pos : Pos} (hx : Str.ofString "is_whole" ∈ gs) (h : WE C A env gs S H e fun x H' => ∃ b1 b2, Isi H' x "int" b1 ∧ Isi H' x "bool" b2 ∧ Q (.bool (b1 && !b2)) H')
    (he : starEach [e] env = [(false, eval e env)] := by with_unfolding_all rfl) : WE C A env gs S H (.Call (.Name "is_whole" p) [e] [] pos) Q := by
  refine WE.callF hx X.p_is_whole (WEs.cons (h.mono fun x H' h' => WEs.nil ?_) he) he
  obtain ⟨b1, b2, h1, h2, q⟩ := h'
  exact sp_whole X hA h1 h2 q
theorem sp_place (X : Fx C) (hA : AOk A (n + 2)) {m k : Int} (q : Q (.bool (decide (0 ≤ k ∧ k < m))) H) : WF C A H "is_place" [.int m, .int k] Q := by
  refine WF.intro X.p_is_place hA ["many", "thing"] [] ["is_whole"] [] [("many", some (.int m)), ("thing", some (.int k))] (by decide +kernel) rfl (by wtm_at "bind") rfl ?_
  intro env hA' K
  refine WSs.cons (WS.ret (WE.and (WE.whole X hA' (by wtm_at "mem") ?_)))
  repeat wtm_at "s"
  refine ⟨true, false, .ii, .ib, ?_⟩
  refine WB.bool (if_t ?_)
  repeat wtm_at "s"
  refine if_d (fun h => ?_) (fun h => ?_)
  · repeat wtm_at "s"
    refine ⟨H, List.Sublist.refl _, ?_⟩
    have e : decide (0 ≤ k ∧ k < m) = decide (k < m) := by simp [h]
    rw [e] at q
    exact q
  · repeat wtm_at "s"
    refine ⟨H, List.Sublist.refl _, ?_⟩
    have e : decide (0 ≤ k ∧ k < m) = false := by simp [h]
    rw [e] at q
    exact q
theorem WE.place (X : Fx C) (hA : AOk A (n + 2)) {env : Env} {gs : List Str} {S : Sg} {e e2 : Expr} {p pos : Pos} (hx : Str.ofString "is_place" ∈ gs)
    (h : WE C A env gs S H e fun x H1 => WE C A env gs S H1 e2 fun y H2 => ∃ m k, x = .int m ∧ y = .int k ∧ Q (.bool (decide (0 ≤ k ∧ k < m))) H2)
    (he : starEach [e, e2] env = [(false, eval e env), (false, eval e2 env)] := by with_unfolding_all rfl) (he2 : starEach [e2] env = [(false, eval e2 env)] := by with_unfolding_all rfl) : WE C A env gs S H (.Call (.Name "is_place" p) [e, e2] [] pos) Q := by
  refine WE.callF hx X.p_is_place (WEs.cons (h.mono fun x H1 h1 => WEs.cons (h1.mono fun y H2 h2 => WEs.nil ?_) he2) (by rw [he, he2])) (by rw [he, he2])
  obtain ⟨m, k, rfl, rfl, q⟩ := h2
  exact sp_place X hA q
/-- a road of a net of m places -/
def RdOk (m : Int) (r : Rd) : Prop := 0 ≤ r.1 ∧ r.1 < m ∧ 0 ≤ r.2.1 ∧ r.2.1 < m ∧ r.1 ≠ r.2.1 ∧ 0 ≤ r.2.2 ∧ r.2.2 < 10 ^ 40
theorem sp_is_road (X : Fx C) (hA : AOk A (n + 3)) {m : Int} {r : Rd} (hr : RdOk m r) (q : Q (.bool true) H) : WF C A H "is_road" [.int m, rdV r] Q := by
  obtain ⟨h1, h2, h3, h4, h5, h6, h7⟩ := hr
  refine WF.intro X.p_is_road hA ["many", "road"] [] ["isinstance", "tuple", "len", "is_place", "is_whole", "TOO_DEAR"] [] [("many", some (.int m)), ("road", some (rdV r))] (by decide +kernel) rfl (by wtm_at "bind") rfl ?_
  intro env hA' K
  refine WSs.cons ?_
  repeat wtm_at "s"
  refine if_ne (fun h => absurd rfl h) (fun _ => ?_)
  repeat wtm_at "s"
  refine WT.plain (WE.place X hA' (by wtm_at "mem") ?_)
  repeat wtm_at "s"
  refine ⟨_, _, rfl, rfl, ?_⟩
  repeat wtm_at "s"
  refine if_nd (fun h => absurd ⟨h1, h2⟩ h) (fun _ => ?_)
  repeat wtm_at "s"
  refine WT.plain (WE.place X hA' (by wtm_at "mem") ?_)
  repeat wtm_at "s"
  refine ⟨_, _, rfl, rfl, ?_⟩
  repeat wtm_at "s"
  refine if_nd (fun h => absurd ⟨h3, h4⟩ h) (fun _ => ?_)
  repeat wtm_at "s"
  refine if_eq (fun h => absurd h h5) (fun _ => ?_)
  repeat wtm_at "s"
  refine WE.whole X (hA'.le (by omega : n + 1 ≤ n + 2)) (by wtm_at "mem") ?_
  repeat wtm_at "s"
  refine ⟨true, false, .ii, .ib, ?_⟩
  refine WB.bool (if_t ?_)
  repeat wtm_at "s"
  refine if_d (fun _ => ?_) (fun h => absurd h6 h)
  repeat wtm_at "s"
  refine WE.gint (by wtm_at "mem") (by decide +kernel) X.c_TOO_DEAR ?_
  repeat wtm_at "s"
  refine ⟨H, List.Sublist.refl _, ?_⟩
  have e : decide (r.2.2 < 10000000000000000000000000000000000000000) = true := decide_eq_true (by omega)
  rw [e]; exact q
theorem sp_checked (X : Fx C) (hA : AOk A (n + 4)) {m : Int} {a : Addr} {R : List Rd} (hm : 1 ≤ m ∧ m ≤ 12) (hR : R.length ≤ 60) (hok : ∀ r ∈ R, RdOk m r) (hmem : (a, MO.list (R.map rdV)) ∈ H) (q : Q .none H) : WF C A H "checked" [.int m, .ref a] Q := by
  refine WF.intro X.p_checked hA ["many", "roads"] ["road"] ["is_whole", "MOST_PLACES", "isinstance", "list", "len", "MOST_ROADS", "is_road"] [] [("many", some (.int m)), ("roads", some (.ref a)), ("road", none)] (by decide +kernel) rfl (by wtm_at "bind") rfl ?_
  intro env hA' K
  refine WSs.cons ?_
  repeat wtm_at "s"
  refine WT.plain (WE.whole X (hA'.le (by omega : n + 1 ≤ n + 3)) (by wtm_at "mem") ?_)
  repeat wtm_at "s"
  refine ⟨true, false, .ii, .ib, ?_⟩
  refine WB.bool (if_nt ?_)
  repeat wtm_at "s"
  refine if_d (fun h => absurd h (by omega)) (fun _ => ?_)
  repeat wtm_at "s"
  refine WE.gint (by wtm_at "mem") (by decide +kernel) X.c_MOST_PLACES ?_
  repeat wtm_at "s"
  refine if_d (fun h => absurd h (by omega)) (fun _ => ?_)
  repeat wtm_at "s"
  refine WE.gint (by wtm_at "mem") (by decide +kernel) X.c_MOST_ROADS ?_
  repeat wtm_at "s"
  refine if_d (fun h => absurd h (by omega)) (fun _ => ?_)
  repeat wtm_at "s"
  refine WS.for (WI.of ?_)
  repeat wtm_at "e"
  refine ItOf.list hA' (by wtm_at "mem") ?_
  refine for_intro (fun (i : Nat) (S : Sg) (H' : Hp) => ∃ o, S = ([("many", some (.int m)), ("roads", some (.ref a)), ("road", o)] : Sg) ∧ H' = H) ⟨none, rfl, rfl⟩ ?_ ?_ ?_
  · rintro i S H' ⟨o, rfl, rfl⟩
    exact hmem
  · rintro i x S H' hx ⟨o, rfl, rfl⟩
    obtain ⟨r, hr, rfl⟩ := get_map hx
    refine WA.name (by wtm_at "put") ?_
    repeat wtm_at "s"
    refine WT.plain (WE.callF (by wtm_at "mem") X.p_is_road ?_)
    repeat wtm_at "s"
    refine sp_is_road X hA' (hok r (List.mem_of_getElem? hr)) ?_
    repeat wtm_at "s"
    rfl
  · rintro S H' ⟨o, rfl, rfl⟩
    repeat wtm_at "s"
    exact ⟨_, List.Sublist.refl _, q⟩
theorem sp_need (X : Fx C) (hA : AOk A (n + 3)) {m k : Int} (h0 : 0 ≤ k) (h1 : k < m) (q : Q .none H) : WF C A H "need_place" [.int m, .int k] Q := by
  refine WF.intro X.p_need_place hA ["many", "place"] [] ["is_place"] [] [("many", some (.int m)), ("place", some (.int k))] (by decide +kernel) rfl (by wtm_at "bind") rfl ?_
  intro env hA' K
  refine WSs.cons ?_
  repeat wtm_at "s"
  refine WT.plain (WE.place X hA' (by wtm_at "mem") ?_)
  repeat wtm_at "s"
  refine ⟨_, _, rfl, rfl, ?_⟩
  repeat wtm_at "s"
  refine if_nd (fun h => absurd ⟨h0, h1⟩ h) (fun _ => ?_)
  repeat wtm_at "s"
  exact ⟨_, List.Sublist.refl _, q⟩
def leftF (r : Rd) (P : List Pr) (i : Nat) : Int := (P.take i).foldl (fun l p => if r.2.1 ∈ p.1 ∧ ¬ r.1 ∈ p.1 then l - p.2 else l) r.2.2
theorem leftF_succ {r : Rd} {P : List Pr} {i : Nat} {p : Pr} (h : P[i]? = some p) : leftF r P (i + 1) = if r.2.1 ∈ p.1 ∧ ¬ r.1 ∈ p.1 then leftF r P i - p.2 else leftF r P i := by
  unfold leftF
  rw [List.take_add_one, h, List.foldl_append]
  rfl
def leftsF (R : List Rd) (P : List Pr) (i : Nat) : List Int := (R.take i).map fun r => leftF r P P.length
theorem leftsF_succ {R : List Rd} {P : List Pr} {i : Nat} {r : Rd} (h : R[i]? = some r) : leftsF R P (i + 1) = leftsF R P i ++ [leftF r P P.length] := by
  unfold leftsF
  rw [List.take_add_one, h, List.map_append]
  rfl
theorem leftsF_length (R : List Rd) (P : List Pr) (i : Nat) : (leftsF R P i).length ≤ i := by
  unfold leftsF; rw [List.length_map, List.length_take]; omega

theorem sp_left (X : Fx C) (hA : AOk A (n + 1)) {a b : Addr} {R : List Rd} {P : List Pr} (hR : R.length ≤ 60) (hm : (a, MO.list (R.map rdV)) ∈ H) (hp : (b, MO.list (P.map prV)) ∈ H)
    (q : ∀ D, ¬ dom H D → Q (.ref D) ((D, .list ((leftsF R P R.length).map .int)) :: H)) : WF C A H "left_over" [.ref a, .ref b] Q := by
  refine WF.intro X.p_left_over hA ["roads", "prices"] ["found", "road", "left", "group", "price"] [] [] [("roads", some (.ref a)), ("prices", some (.ref b)), ("found", none), ("road", none), ("left", none), ("group", none), ("price", none)] (by decide +kernel) rfl (by wtm_at "bind") rfl ?_
  intro env hA' K
  refine WSs.cons ?_
  repeat wtm_at "s"
  intro D hD
  repeat wtm_at "s"
  refine WS.for (WI.of ?_)
  repeat wtm_at "e"
  refine ItOf.list hA' (by wtm_at "mem") ?_
  refine for_intro (fun (i : Nat) (S : Sg) (H' : Hp) => ∃ o1 o2 o3 o4, S = ([("roads", some (.ref a)), ("prices", some (.ref b)), ("found", some (.ref D)), ("road", o1), ("left", o2), ("group", o3), ("price", o4)] : Sg) ∧ H' = (D, .list ((leftsF R P i).map .int)) :: H) ⟨none, none, none, none, rfl, rfl⟩ ?_ ?_ ?_
  · rintro i S H' ⟨o1, o2, o3, o4, rfl, rfl⟩
    exact List.mem_cons_of_mem _ hm
  · rintro i x S H' hx ⟨o1, o2, o3, o4, rfl, rfl⟩
    obtain ⟨r, hr, rfl⟩ := get_map hx
    have hlt := get_lt hr
    refine WA.name (by wtm_at "put") ?_
    repeat wtm_at "s"
    refine WS.for (WI.of ?_)
    repeat wtm_at "e"
    refine ItOf.list hA' (List.mem_cons_of_mem _ hp) ?_
    refine for_intro (fun (j : Nat) (S : Sg) (H' : Hp) => ∃ o3 o4, S = ([("roads", some (.ref a)), ("prices", some (.ref b)), ("found", some (.ref D)), ("road", some (rdV r)), ("left", some (.int (leftF r P j))), ("group", o3), ("price", o4)] : Sg) ∧ H' = (D, .list ((leftsF R P i).map .int)) :: H) ⟨o3, o4, rfl, rfl⟩ ?_ ?_ ?_
    · rintro j S H' ⟨o3, o4, rfl, rfl⟩
      exact List.mem_cons_of_mem _ hp
    · rintro j x S H' hx ⟨o3, o4, rfl, rfl⟩
      obtain ⟨p, hpj, rfl⟩ := get_map hx
      refine WA.tup2 hA' (by wtm_at "put") (by wtm_at "put") ?_
      repeat wtm_at "s"
      refine W2.inI hA' ?_
      repeat wtm_at "s"
      refine if_d (fun h1 => ?_) (fun h1 => ?_)
      · repeat wtm_at "s"
        refine W2.notInI hA' ?_
        repeat wtm_at "s"
        refine if_nd (fun h2 => ?_) (fun h2 => ?_)
        · repeat wtm_at "s"
          rw [leftF_succ hpj, if_pos ⟨h1, h2⟩]
          exact ⟨_, _, rfl, rfl⟩
        · repeat wtm_at "s"
          rw [leftF_succ hpj, if_neg (fun h => h.2 h2)]
          exact ⟨_, _, rfl, rfl⟩
      · repeat wtm_at "s"
        rw [leftF_succ hpj, if_neg (fun h => h1 h.1)]
        exact ⟨_, _, rfl, rfl⟩
    · rintro S H' ⟨o3, o4, rfl, rfl⟩
      rw [List.length_map]
      have len := leftsF_length R P i
      repeat wtm_at "s"
      refine WE.append ?_
      repeat wtm_at "s"
      refine ⟨D, _, rfl, by wtm_at "mem", ?_⟩
      repeat wtm_at "s"
      refine ⟨_, _, by wtm_at "mem", by wtm_at "upd", by simp [sizeLine]; omega, rfl, ?_⟩
      repeat wtm_at "s"
      refine ⟨_, _, _, _, rfl, ?_⟩
      rw [leftsF_succ hr]; simp
  · rintro S H' ⟨o1, o2, o3, o4, rfl, rfl⟩
    repeat wtm_at "s"
    refine ⟨_, List.Sublist.refl _, ?_⟩
    rw [List.length_map]
    exact q D hD
end
set_option maxRecDepth 100000
set_option maxHeartbeats 4000000
open PySem PySem.W PySem.Calls PyProof.Rows
section
variable {C : Cx} {A : Around} {H : Hp} {n : Nat} {Q : MV → Hp → Prop}
theorem length_le_of_nodup {α : Type} [DecidableEq α] : ∀ {l k : List α}, l.Nodup → (∀ x ∈ l, x ∈ k) → l.length ≤ k.length
  | [], _, _, _ => Nat.zero_le _
  | a :: l, k, nd, h => by
    have hn := List.nodup_cons.mp nd
    have ha := h a List.mem_cons_self
    have h1 := length_le_of_nodup (k := k.erase a) hn.2 fun x hx => (List.mem_erase_of_ne (fun (e : x = a) => hn.1 (e ▸ hx))).mpr (h x (List.mem_cons_of_mem _ hx))
    rw [List.length_erase_of_mem ha] at h1
    have := List.length_pos_of_mem ha
    rw [List.length_cons]; omega
/-! sets and prices, plain -/
def SetAt (m : Int) (g : List Int) (j : Nat) : Prop := ∃ x, g[j]? = some x ∧ 0 ≤ x ∧ x < m ∧ ∀ y, 0 < j → g[j - 1]? = some y → y < x
structure SetOk (m root : Int) (g : List Int) : Prop where
  ne : 0 < g.length
  rt : root ∉ g
  at' : ∀ j, j < g.length → SetAt m g j
def cnt (a b : List Int) : Nat := (a.filter fun x => decide (x ∈ b)).length
def Apart (a b : List Int) : Prop := a ≠ b ∧ (cnt a b = 0 ∨ cnt a b = a.length ∨ cnt a b = b.length)
def Apart2 (g o : List Int) : Prop := g ≠ o ∧ ¬ (0 < cnt g o ∧ cnt g o < g.length ∧ cnt g o < o.length)
theorem SetOk.nodup {m root : Int} {g : List Int} (h : SetOk m root g) : g.Nodup := by
  have lt : ∀ (d i : Nat) (x y : Int), g[i]? = some x → g[i + (d + 1)]? = some y → x < y := by
    intro d
    induction d with
    | zero =>
      intro i x y hx hy
      obtain ⟨z, hz, _, _, hp⟩ := h.at' (i + 1) (get_lt hy)
      rw [hy] at hz; cases hz
      exact hp x (by omega) (by simpa using hx)
    | succ d ih =>
      intro i x y hx hy
      obtain ⟨z, hz, _, _, hp⟩ := h.at' (i + (d + 1 + 1)) (get_lt hy)
      rw [hy] at hz; cases hz
      have hl := get_lt hy
      obtain ⟨w, hw⟩ : ∃ w, g[i + (d + 1)]? = some w := ⟨g[i + (d + 1)]'(by omega), by simp⟩
      have h1 := hp w (by omega) (by rw [show i + (d + 1 + 1) - 1 = i + (d + 1) by omega]; exact hw)
      have h2 := ih i x w hx hw
      omega
  rw [List.nodup_iff_pairwise_ne, List.pairwise_iff_getElem]
  intro i j hi hj hij e
  have := lt (j - i - 1) i g[i] g[j] (by simp) (by rw [show i + (j - i - 1 + 1) = j by omega]; simp)
  omega
theorem cnt_le {a b : List Int} (ha : a.Nodup) : cnt a b ≤ cnt b a := by
  unfold cnt
  refine length_le_of_nodup (ha.filter _) fun x hx => ?_
  simp only [List.mem_filter, decide_eq_true_eq] at hx ⊢
  exact ⟨hx.2, hx.1⟩
theorem apart_iff {a b : List Int} (ha : a.Nodup) (hb : b.Nodup) : Apart a b ↔ Apart2 b a := by
  have e : cnt a b = cnt b a := Nat.le_antisymm (cnt_le ha) (cnt_le hb)
  have h1 : cnt a b ≤ a.length := List.length_filter_le _ _
  have h2 : cnt b a ≤ b.length := List.length_filter_le _ _
  unfold Apart Apart2
  rw [← e]
  rw [← e] at h2
  constructor
  · rintro ⟨h, h'⟩
    exact ⟨fun q => h q.symm, by omega⟩
  · rintro ⟨h, h'⟩
    exact ⟨fun q => h q.symm, by omega⟩
def Fits (m root : Int) (ap : List Int → List Int → Prop) (P : List Pr) (i : Nat) : Prop := ∀ (k : Nat) (p : Pr), k < i → P[k]? = some p → SetOk m root p.1 ∧ 1 ≤ p.2 ∧ ∀ (j : Nat) (q : Pr), j < k → P[j]? = some q → ap q.1 p.1
theorem fits_iff {m root : Int} {P : List Pr} {i : Nat} : Fits m root Apart P i ↔ Fits m root (fun a b => Apart2 b a) P i := by
  constructor
  · intro h k p hk hp
    obtain ⟨h1, h2, h3⟩ := h k p hk hp
    exact ⟨h1, h2, fun j q hj hq => (apart_iff (h j q (by omega) hq).1.nodup h1.nodup).mp (h3 j q hj hq)⟩
  · intro h k p hk hp
    obtain ⟨h1, h2, h3⟩ := h k p hk hp
    exact ⟨h1, h2, fun j q hj hq => (apart_iff (h j q (by omega) hq).1.nodup h1.nodup).mpr (h3 j q hj hq)⟩
def borneF (s e : Int) (P : List Pr) : List Int := (P.filter fun p => decide (e ∈ p.1 ∧ ¬ s ∈ p.1)).map (·.2)
theorem fold_left (r : Rd) : ∀ (P : List Pr) (l : Int), P.foldl (fun l p => if r.2.1 ∈ p.1 ∧ ¬ r.1 ∈ p.1 then l - p.2 else l) l = l - (borneF r.1 r.2.1 P).sum
  | [], l => by simp [borneF]
  | p :: P, l => by
    rw [List.foldl_cons, fold_left r P]
    by_cases h : r.2.1 ∈ p.1 ∧ ¬ r.1 ∈ p.1
    · rw [if_pos h]; unfold borneF; rw [List.filter_cons_of_pos (by simpa using h)]; simp; omega
    · rw [if_neg h]; unfold borneF; rw [List.filter_cons_of_neg (by simpa using h)]
theorem left_borne (r : Rd) (P : List Pr) : leftF r P P.length = r.2.2 - (borneF r.1 r.2.1 P).sum := by
  unfold leftF; rw [List.take_length]; exact fold_left r P _
theorem filter_take {α : Type} {f : α → Bool} {l : List α} {i : Nat} {x : α} (h : l[i]? = some x) : (l.take (i + 1)).filter f = (l.take i).filter f ++ (if f x = true then [x] else []) := by
  rw [List.take_add_one, h, List.filter_append]
  congr 1
  by_cases e : f x = true <;> simp [e]

/-! is_set -/
theorem sp_is_set (X : Fx C) (hA : AOk A (n + 3)) {m root : Int} {g : List Int} (hg : g.length ≤ 60) (q : ∀ b : Bool, (b = true ↔ SetOk m root g) → Q (.bool b) H) : WF C A H "is_set" [.int m, .int root, .tup (g.map .int)] Q := by
  refine WF.intro X.p_is_set hA ["many", "root", "group"] ["k"] ["len", "range", "is_place"] [] [("many", some (.int m)), ("root", some (.int root)), ("group", some (.tup (g.map .int))), ("k", none)] (by decide +kernel) rfl (by wtm_at "bind") rfl ?_
  intro env hA' K
  refine WSs.cons ?_
  repeat wtm_at "s"
  refine if_eq (fun h => ?_) (fun h => ?_)
  · repeat wtm_at "s"
    rw [List.length_map] at h
    exact ⟨_, List.Sublist.refl _, q false ⟨fun e => (nomatch e), fun e => by have := e.ne; omega⟩⟩
  rw [List.length_map] at h
  repeat wtm_at "s"
  refine W2.inI hA' ?_
  repeat wtm_at "s"
  refine if_d (fun hr => ?_) (fun hr => ?_)
  · repeat wtm_at "s"
    exact ⟨_, List.Sublist.refl _, q false ⟨fun e => (nomatch e), fun e => absurd hr e.rt⟩⟩
  repeat wtm_at "s"
  refine WS.for (WI.of ?_)
  refine WE.callT (by wtm_at "mem") X.g_range ?_
  repeat wtm_at "e"
  rw [List.length_map]
  refine WC.range1 ?_
  refine ItOf.range hA' (by decide) (by decide) (by omega) (by omega) ?_
  refine for_intro (fun (i : Nat) (S : Sg) (H' : Hp) => ∃ o, S = ([("many", some (.int m)), ("root", some (.int root)), ("group", some (.tup (g.map .int))), ("k", o)] : Sg) ∧ H' = H ∧ ∀ j, j < i → SetAt m g j) ⟨none, rfl, rfl, fun j h => by omega⟩ (fun _ _ _ _ => trivial) ?_ ?_
  · rintro i x S H' hx ⟨o, rfl, rfl, hI⟩
    obtain ⟨rfl, hlt⟩ := rangeL_get hx
    rw [Int.zero_add] at hlt ⊢
    obtain ⟨x, hx⟩ : ∃ x, g[i]? = some x := ⟨g[i]'(by omega), by simp⟩
    have hxm : (g.map MV.int)[(i : Int).toNat]? = some (.int x) := by rw [List.getElem?_map]; simp [hx]
    have bad : ¬ SetAt m g i → SetOk m root g → false = true := fun hb e => absurd (e.at' i (by omega)) hb
    refine WA.name (by wtm_at "put") ?_
    repeat wtm_at "s"
    refine WT.plain (WE.place X hA' (by wtm_at "mem") ?_)
    repeat wtm_at "s"
    refine W2.itemT (x := .int x) (by omega) hxm (by omega) ?_
    refine ⟨_, _, rfl, rfl, ?_⟩
    repeat wtm_at "s"
    refine if_nd (fun h1 => ?_) (fun h1 => ?_)
    · repeat wtm_at "s"
      refine ⟨_, List.Sublist.refl _, q false ⟨fun e => (nomatch e), bad fun ⟨y, e1, e2, e3, _⟩ => ?_⟩⟩
      rw [hx] at e1; cases e1
      exact h1 ⟨e2, e3⟩
    repeat wtm_at "s"
    refine if_d (fun h2 => ?_) (fun h2 => ?_)
    · obtain ⟨y, hy⟩ : ∃ y, g[i - 1]? = some y := ⟨g[i - 1]'(by omega), by simp⟩
      have hym : (g.map MV.int)[((i : Int) - 1).toNat]? = some (.int y) := by rw [List.getElem?_map, show ((i : Int) - 1).toNat = i - 1 by omega, hy]; rfl
      repeat wtm_at "s"
      refine W2.itemT (x := .int y) (by omega) hym (by omega) ?_
      repeat wtm_at "s"
      refine W2.itemT (x := .int x) (by omega) hxm (by omega) ?_
      repeat wtm_at "s"
      refine if_d (fun h3 => ?_) (fun h3 => ?_)
      · repeat wtm_at "s"
        refine ⟨_, List.Sublist.refl _, q false ⟨fun e => (nomatch e), bad fun ⟨z, e1, e2, e3, e4⟩ => ?_⟩⟩
        rw [hx] at e1; cases e1
        have := e4 y (by omega) hy
        omega
      · repeat wtm_at "s"
        refine ⟨rfl, fun j hj => ?_⟩
        rcases (by omega : j = i ∨ j < i) with rfl | hj
        · exact ⟨x, hx, h1.1, h1.2, fun z _ hz => by rw [hy] at hz; cases hz; omega⟩
        · exact hI j hj
    · repeat wtm_at "s"
      refine ⟨rfl, fun j hj => ?_⟩
      rcases (by omega : j = i ∨ j < i) with rfl | hj
      · exact ⟨x, hx, h1.1, h1.2, fun z h0 _ => by omega⟩
      · exact hI j hj
  · rintro S H' ⟨o, rfl, rfl, hI⟩
    rw [rangeL_length] at hI
    repeat wtm_at "s"
    exact ⟨_, List.Sublist.refl _, q true ⟨fun _ => ⟨by omega, hr, fun j hj => hI j (by omega)⟩, fun _ => rfl⟩⟩

/-! are_apart -/
theorem eqv_tups (g h : List Int) : PyData.eqv (.tuple (g.map .int)) (.tuple (h.map .int)) = decide (g = h) := eqvAll_ints g h
theorem sp_apart (X : Fx C) (hA : AOk A (n + 1)) {g o : List Int} (hg : g.length ≤ 60) (ho : o.length ≤ 60) (q : ∀ b : Bool, (b = true ↔ Apart g o) → Q (.bool b) H) : WF C A H "are_apart" [.tup (g.map .int), .tup (o.map .int)] Q := by
  refine WF.intro X.p_are_apart hA ["one", "other"] ["both"] ["len"] ["other"] [("one", some (.tup (g.map .int))), ("other", some (.tup (o.map .int))), ("both", none)] (by decide +kernel) rfl (by wtm_at "bind") rfl ?_
  intro env hA' K
  refine WSs.cons (WS.assignComp (ys := ["other"]) [] K (.cons (y := "other") (by wtm_at "at") (by wtm_at "mem") .nil) (by decide +kernel) (WI.of ?_))
  repeat wtm_at "e"
  refine ItOf.tup hA' ?_
  refine comp_intro (fun i ys H' => ys = ((g.take i).filter fun x => decide (x ∈ o)).map .int ∧ H' = H) (by simp [sizeLine]; omega) ⟨by simp, rfl⟩ ?_ ?_ ?_
  · rintro i ys H' ⟨rfl, rfl⟩
    refine ⟨trivial, ?_⟩
    rw [List.length_map]
    exact Nat.le_trans (List.length_filter_le _ _) (by simp; omega)
  · rintro i v ys H' cenv hv ⟨rfl, rfl⟩
    obtain ⟨x, hx, rfl⟩ := get_map hv
    refine ct_one ?_
    repeat wtm_at "e"
    refine W2.inI hA' ?_
    repeat wtm_at "e"
    refine if_d (fun h => ?_) (fun h => ?_)
    · repeat wtm_at "e"
      refine ⟨?_, rfl⟩
      rw [filter_take hx, if_pos (by simpa using h)]; simp
    · refine ⟨?_, rfl⟩
      rw [filter_take hx, if_neg (by simpa using h)]; simp
  · rintro ys H' ⟨rfl, rfl⟩ D hD
    have hc : cnt g o = ((g.take (g.map MV.int).length).filter fun x => decide (x ∈ o)).length := by
      rw [List.length_map, List.take_length]; rfl
    have hcl : cnt g o ≤ 60 := Nat.le_trans (List.length_filter_le _ _) hg
    generalize ((g.take (g.map MV.int).length).filter fun x => decide (x ∈ o)) = W at hc
    refine ⟨_, by wtm_at "put", seq_next ?_⟩
    repeat wtm_at "s"
    refine W2.eqD hA' (.tup (dps_ints _)) (.tup (dps_ints _)) (shaped_tupI _) (shaped_tupI _) ?_
    rw [eqv_tups]
    repeat wtm_at "s"
    refine if_d (fun h => ?_) (fun h => ?_)
    · repeat wtm_at "s"
      exact ⟨_, List.sublist_cons_self _ _, q false ⟨fun e => (nomatch e), fun e => absurd h e.1⟩⟩
    repeat wtm_at "s"
    refine if_eq (fun h1 => ?_) (fun h1 => ?_)
    · refine ⟨_, List.sublist_cons_self _ _, q _ ⟨fun _ => ⟨h, .inl (by omega)⟩, fun _ => by simpa using h1⟩⟩
    repeat wtm_at "s"
    refine if_eq (fun h2 => ?_) (fun h2 => ?_)
    · have h2' := h2
      rw [List.length_map] at h2'
      exact ⟨_, List.sublist_cons_self _ _, q _ ⟨fun _ => ⟨h, .inr (.inl (by omega))⟩, fun _ => by simpa using h2⟩⟩
    repeat wtm_at "s"
    rw [List.length_map] at h2
    refine ⟨_, List.sublist_cons_self _ _, q _ ⟨fun e => ⟨h, .inr (.inr ?_)⟩, fun e => ?_⟩⟩
    · simp only [beq_iff_eq, List.length_map] at e; omega
    · simp only [beq_iff_eq, List.length_map]
      rcases e.2 with e | e | e <;> omega

/-! are_prices -/
theorem sp_are_prices (X : Fx C) (hA : AOk A (n + 5)) {m root : Int} {a b : Addr} {R : List Rd} {P : List Pr} (hm : 1 ≤ m ∧ m ≤ 12) (hroot : 0 ≤ root ∧ root < m) (hR : R.length ≤ 60) (hok : ∀ r ∈ R, RdOk m r) (hP : P.length ≤ 60) (hPl : ∀ p ∈ P, p.1.length ≤ 60) (ha : (a, MO.list (R.map rdV)) ∈ H) (hb : (b, MO.list (P.map prV)) ∈ H)
    (q : ∀ c : Bool, (c = true ↔ Fits m root Apart P P.length ∧ ∀ r ∈ R, (borneF r.1 r.2.1 P).sum ≤ r.2.2) → Q (.bool c) H) : WF C A H "are_prices" [.int m, .ref a, .int root, .ref b] Q := by
  refine WF.intro X.p_are_prices hA ["many", "roads", "root", "prices"] ["k", "j", "left"] ["checked", "need_place", "range", "len", "is_set", "are_apart", "left_over"] [] [("many", some (.int m)), ("roads", some (.ref a)), ("root", some (.int root)), ("prices", some (.ref b)), ("k", none), ("j", none), ("left", none)] (by decide +kernel) rfl (by wtm_at "bind") rfl ?_
  intro env hA' K
  refine WSs.cons ?_
  repeat wtm_at "s"
  refine WE.callF (by wtm_at "mem") X.p_checked ?_
  repeat wtm_at "s"
  refine sp_checked X hA' hm hR hok ha ?_
  repeat wtm_at "s"
  refine WE.callF (by wtm_at "mem") X.p_need_place ?_
  repeat wtm_at "s"
  refine sp_need X (hA'.le (by omega : n + 3 ≤ n + 4)) hroot.1 hroot.2 ?_
  repeat wtm_at "s"
  refine WS.for (WI.of ?_)
  refine WE.callT (by wtm_at "mem") X.g_range ?_
  repeat wtm_at "e"
  refine WC.range1 ?_
  refine ItOf.range hA' (by decide) (by decide) (by omega) (by omega) ?_
  refine for_intro (fun (i : Nat) (S : Sg) (H' : Hp) => ∃ o1 o2, S = ([("many", some (.int m)), ("roads", some (.ref a)), ("root", some (.int root)), ("prices", some (.ref b)), ("k", o1), ("j", o2), ("left", none)] : Sg) ∧ H' = H ∧ Fits m root Apart P i) ⟨none, none, rfl, rfl, fun k p hk => by omega⟩ (fun _ _ _ _ => trivial) ?_ ?_
  · rintro i x S H' hx ⟨o1, o2, rfl, rfl, hI⟩
    obtain ⟨rfl, hlt⟩ := rangeL_get hx
    rw [Int.zero_add] at hlt ⊢
    have hil : i < P.length := by omega
    obtain ⟨p, hp⟩ : ∃ p, P[i]? = some p := ⟨P[i], by simp [hil]⟩
    have hp' : P[(i : Int).toNat]? = some p := by simpa using hp
    have hpl := hPl p (List.mem_of_getElem? hp)
    refine WA.name (by wtm_at "put") ?_
    repeat wtm_at "s"
    refine WT.plain (WE.callF (by wtm_at "mem") X.p_is_set ?_)
    repeat wtm_at "s"
    refine W2.itemM (l := P) (x := p) hb (by omega) hp' (by omega) ?_
    repeat wtm_at "s"
    refine sp_is_set X (hA'.le (by omega : n + 3 ≤ n + 4)) hpl fun b1 hb1 => ?_
    refine WB.bool ?_
    cases b1 with
    | false =>
      repeat wtm_at "s"
      refine ⟨_, List.Sublist.refl _, q false ⟨fun e => (nomatch e), fun e => ?_⟩⟩
      exact hb1.mpr (e.1 i p hil hp).1
    | true =>
      have hset := hb1.mp rfl
      repeat wtm_at "s"
      refine W2.itemM (l := P) (x := p) hb (by omega) hp' (by omega) ?_
      repeat wtm_at "s"
      refine if_d (fun h1 => ?_) (fun h1 => ?_)
      · repeat wtm_at "s"
        refine ⟨_, List.Sublist.refl _, q false ⟨fun e => (nomatch e), fun e => ?_⟩⟩
        have := (e.1 i p hil hp).2.1
        omega
      repeat wtm_at "s"
      refine WS.for (WI.of ?_)
      refine WE.callT (by wtm_at "mem") X.g_range ?_
      repeat wtm_at "e"
      refine WC.range1 ?_
      refine ItOf.range hA' (by decide) (by decide) (by omega) (by omega) ?_
      refine for_intro (fun (l : Nat) (S : Sg) (H2 : Hp) => ∃ o2, S = ([("many", some (.int m)), ("roads", some (.ref a)), ("root", some (.int root)), ("prices", some (.ref b)), ("k", some (.int (i : Int))), ("j", o2), ("left", none)] : Sg) ∧ H2 = H' ∧ ∀ (j : Nat) (q : Pr), j < l → P[j]? = some q → Apart q.1 p.1) ⟨_, rfl, rfl, fun j q hj => by omega⟩ (fun _ _ _ _ => trivial) ?_ ?_
      · rintro j x S H' hx ⟨o2, rfl, rfl, hJ⟩
        obtain ⟨rfl, hlt2⟩ := rangeL_get hx
        rw [Int.zero_add] at hlt2 ⊢
        have hjl : j < P.length := by omega
        obtain ⟨p2, hp2⟩ : ∃ p, P[j]? = some p := ⟨P[j], by simp [hjl]⟩
        have hp2' : P[(j : Int).toNat]? = some p2 := by simpa using hp2
        refine WA.name (by wtm_at "put") ?_
        repeat wtm_at "s"
        refine WT.plain (WE.callF (by wtm_at "mem") X.p_are_apart ?_)
        repeat wtm_at "s"
        refine W2.itemM (l := P) (x := p2) hb (by omega) hp2' (by omega) ?_
        repeat wtm_at "s"
        refine W2.itemM (l := P) (x := p) hb (by omega) hp' (by omega) ?_
        repeat wtm_at "s"
        refine sp_apart X (hA'.le (by omega : n + 1 ≤ n + 4)) (hPl p2 (List.mem_of_getElem? hp2)) hpl fun b2 hb2 => ?_
        refine WB.bool ?_
        cases b2 with
        | false =>
          repeat wtm_at "s"
          refine ⟨_, List.Sublist.refl _, q false ⟨fun e => (nomatch e), fun e => ?_⟩⟩
          exact hb2.mpr ((e.1 i p hil hp).2.2 j p2 (by omega) hp2)
        | true =>
          repeat wtm_at "s"
          refine ⟨rfl, fun j' q' hj' hq' => ?_⟩
          rcases (by omega : j' = j ∨ j' < j) with rfl | hj'
          · rw [hp2] at hq'; cases hq'; exact hb2.mp rfl
          · exact hJ j' q' hj' hq'
      · rintro S H' ⟨o2, rfl, rfl, hJ⟩
        rw [rangeL_length] at hJ
        repeat wtm_at "s"
        refine ⟨_, _, rfl, rfl, fun k' p' hk' hp'' => ?_⟩
        rcases (by omega : k' = i ∨ k' < i) with rfl | hk'
        · rw [hp] at hp''; cases hp''
          exact ⟨hset, by omega, fun j q hj hq => hJ j q (by omega) hq⟩
        · exact hI k' p' hk' hp''
  · rintro S H' ⟨o1, o2, rfl, rfl, hI⟩
    rw [rangeL_length] at hI
    have hF : Fits m root Apart P P.length := fun k p hk hp => hI k p (by omega) hp
    clear hI
    repeat wtm_at "s"
    refine WS.for (WI.of ?_)
    refine WE.callF (by wtm_at "mem") X.p_left_over ?_
    repeat wtm_at "e"
    refine sp_left X (hA'.le (by omega : n + 1 ≤ n + 4)) hR ha hb fun D hD => ?_
    have hll := leftsF_length R P R.length
    refine ItOf.list hA' (xs := (leftsF R P R.length).map .int) (by wtm_at "mem") ?_
    refine for_intro (fun (i : Nat) (S : Sg) (H2 : Hp) => ∃ o3, S = ([("many", some (.int m)), ("roads", some (.ref a)), ("root", some (.int root)), ("prices", some (.ref b)), ("k", o1), ("j", o2), ("left", o3)] : Sg) ∧ H2 = (D, .list ((leftsF R P R.length).map .int)) :: H' ∧ ∀ (j : Nat) (r : Rd), j < i → R[j]? = some r → (borneF r.1 r.2.1 P).sum ≤ r.2.2) ⟨_, rfl, rfl, fun j r hj => by omega⟩ ?_ ?_ ?_
    · rintro i S H' ⟨o3, rfl, rfl, _⟩
      exact List.mem_cons_self
    · rintro i x S H' hx ⟨o3, rfl, rfl, hI⟩
      obtain ⟨y, hy, rfl⟩ := get_map hx
      have hlr : (leftsF R P R.length) = R.map fun r => leftF r P P.length := by unfold leftsF; rw [List.take_length]
      rw [hlr] at hy
      obtain ⟨r, hr, rfl⟩ := get_map hy
      rw [left_borne]
      refine WA.name (by wtm_at "put") ?_
      repeat wtm_at "s"
      refine if_d (fun h => ?_) (fun h => ?_)
      · repeat wtm_at "s"
        refine ⟨_, List.sublist_cons_self _ _, q false ⟨fun e => (nomatch e), fun e => ?_⟩⟩
        have := e.2 r (List.mem_of_getElem? hr)
        omega
      · repeat wtm_at "s"
        refine ⟨rfl, fun j r' hj hr' => ?_⟩
        rcases (by omega : j = i ∨ j < i) with rfl | hj
        · rw [hr] at hr'; cases hr'; omega
        · exact hI j r' hj hr'
    · rintro S H' ⟨o3, rfl, rfl, hI⟩
      have hlr : (leftsF R P R.length).length = R.length := by unfold leftsF; simp
      rw [List.length_map, hlr] at hI
      repeat wtm_at "s"
      refine ⟨_, List.sublist_cons_self _ _, q true ⟨fun _ => ⟨hF, fun r hr => ?_⟩, fun _ => rfl⟩⟩
      obtain ⟨j, hj⟩ := List.mem_iff_getElem?.mp hr
      exact hI j r (get_lt hj) hj
end
set_option maxRecDepth 100000
set_option maxHeartbeats 4000000
open PySem PySem.W PySem.Calls PyProof.Rows
section
variable {C : Cx} {A : Around} {H : Hp} {n : Nat} {Q : MV → Hp → Prop}
def cellF (ns : List Int) (k : Int) : Int := if k < (ns.length : Int) then ns.getD k.toNat 0 else 0

theorem sp_cell (X : Fx C) (hA : AOk A (n + 1)) {ns : List Int} {k : Int} (hk : 0 ≤ k) (hl : ns.length ≤ 63) (q : Q (.int (cellF ns k)) H) : WF C A H "_law_cell_at" [.fl ns, .int k] Q := by
  refine WF.intro X.f_cell hA ["_law_script", "_law_k"] [] ["len"] [] [("_law_script", some (.fl ns)), ("_law_k", some (.int k))] (by decide +kernel) rfl (by wtm_at "bind") rfl ?_
  intro env hA' K
  refine WSs.cons (WS.if (WT.cmp ?_))
  refine WE.var (by wtm_at "at") ?_
  refine WE.callB (by wtm_at "mem") X.g_len ?_
  refine WEs.cons (WE.var (by wtm_at "at") (WEs.nil ?_))
  refine WC.lenF (by omega) ?_
  refine W2.lt ?_
  refine ⟨_, rfl, ?_⟩
  by_cases h : k < (ns.length : Int)
  · rw [if_pos (by simpa using h)]
    refine WSs.cons (WS.ret ?_)
    refine WE.sub (WE.var (by wtm_at "at") (WE.var (by wtm_at "at") ?_))
    refine W2.itemF (x := ns.getD k.toNat 0) hk ?_ (by omega) ?_
    · have : k.toNat < ns.length := by omega
      simp [this]
    · refine ⟨H, List.Sublist.refl _, ?_⟩
      simp only [cellF, if_pos h] at q
      exact q
  · rw [if_neg (by simpa using h)]
    refine WSs.nil ?_
    refine WSs.cons (WS.ret (WE.int ?_))
    refine ⟨H, List.Sublist.refl _, ?_⟩
    simp only [cellF, if_neg h] at q
    exact q

theorem WE.cellC (X : Fx C) (hA : AOk A (n + 1)) {env : Env} {gs : List Str} {S : Sg} {ns : List Int} {k : Int} {kk : Nat} {p p1 p2 pos : Pos} (hl : ns.length ≤ 63) (hx : Str.ofString "_law_cell_at" ∈ gs) (a : At S "_law_script" (.fl ns)) (hk : 0 ≤ k) (q : Q (.int (cellF ns k)) H) :
    WE C A env gs S H (.Call (.Name "_law_cell_at" p) [.Name "_law_script" p1, .Constant (.int k) kk p2] [] pos) Q :=
  WE.callF hx X.f_cell (WEs.cons (WE.var a (WEs.cons (WE.int (WEs.nil (sp_cell X hA hk hl q))))))

def mixedF (c k : Int) : Int := (c * 16807 + k * k * 7919 + k * 48271 + 11) % 2147483647
theorem sp_mixed (X : Fx C) (hA : AOk A (n + 1)) {c k : Int} (hk : 0 ≤ k) (hk' : k < 1000) (q : Q (.int (mixedF c k)) H) : WF C A H "_law_mixed" [.int c, .int k] Q := by
  refine WF.intro X.f_mixed hA ["_law_cell", "_law_k"] [] [] [] [("_law_cell", some (.int c)), ("_law_k", some (.int k))] (by decide +kernel) rfl (by wtm_at "bind") rfl ?_
  intro env hA' K
  have hkk : k * k < 1000000 := by
    have : k * k ≤ 999 * 999 := Int.mul_le_mul (by omega) (by omega) (by omega) (by omega)
    omega
  have hkk0 : 0 ≤ k * k := Int.mul_nonneg hk hk
  refine WSs.cons ?_
  repeat wtm_at "s"
  exact ⟨H, List.Sublist.refl _, q⟩

theorem borne_take {s e : Int} {P : List Pr} {i : Nat} {p : Pr} (h : P[i]? = some p) : borneF s e (P.take (i + 1)) = borneF s e (P.take i) ++ (if e ∈ p.1 ∧ ¬ s ∈ p.1 then [p.2] else []) := by
  unfold borneF
  rw [filter_take h, List.map_append]
  by_cases c : e ∈ p.1 ∧ ¬ s ∈ p.1
  · rw [if_pos c, if_pos (by simpa using c)]; rfl
  · rw [if_neg c, if_neg (by simpa using c)]; rfl
theorem borne_length (s e : Int) (P : List Pr) : (borneF s e P).length ≤ P.length := by
  unfold borneF; rw [List.length_map]; exact List.length_filter_le _ _
theorem borne_nonneg {s e : Int} {P : List Pr} (h : ∀ p ∈ P, 1 ≤ p.2) : 0 ≤ (borneF s e P).sum := by
  have : ∀ l : List Int, (∀ x ∈ l, 0 ≤ x) → 0 ≤ l.sum := by
    intro l
    induction l with
    | nil => intro _; decide
    | cons a l ih => intro hl; rw [List.sum_cons]; have := hl a List.mem_cons_self; have := ih fun x hx => hl x (List.mem_cons_of_mem _ hx); omega
  refine this _ fun x hx => ?_
  unfold borneF at hx
  obtain ⟨p, hp, rfl⟩ := List.mem_map.mp hx
  have := h p (List.mem_filter.mp hp).1
  omega
theorem sp_borne (X : Fx C) (hA : AOk A (n + 1)) {s e : Int} {b : Addr} {P : List Pr} (hP : P.length ≤ 60) (hb : (b, MO.list (P.map prV)) ∈ H) (q : Q (.int (borneF s e P).sum) H) : WF C A H "_law_borne" [.int s, .int e, .ref b] Q := by
  refine WF.intro X.f_borne hA ["_law_start", "_law_end", "_law_prices"] [] ["sum"] ["_law_end", "_law_start"] [("_law_start", some (.int s)), ("_law_end", some (.int e)), ("_law_prices", some (.ref b))] (by decide +kernel) rfl (by wtm_at "bind") rfl ?_
  intro env hA' K
  refine WSs.cons (WS.ret ?_)
  refine WE.callB (by wtm_at "mem") X.g_sum ?_
  refine WEs.cons (WE.comp (ys := ["_law_end", "_law_start"]) [] K (.cons (y := "_law_end") (by wtm_at "at") (by wtm_at "mem") (.cons (y := "_law_start") (by wtm_at "at") (by wtm_at "mem") .nil)) (by decide +kernel) (WI.of ?_))
  repeat wtm_at "e"
  refine ItOf.list hA' hb ?_
  refine comp_intro (fun i ys H' => ys = (borneF s e (P.take i)).map .int ∧ H' = H) (by simp [sizeLine]; omega) ⟨by simp [borneF], rfl⟩ ?_ ?_ ?_
  · rintro i ys H' ⟨rfl, rfl⟩
    refine ⟨hb, ?_⟩
    rw [List.length_map]
    exact Nat.le_trans (borne_length _ _ _) (by simp; omega)
  · rintro i v ys H' cenv hv ⟨rfl, rfl⟩
    obtain ⟨p, hp, rfl⟩ := get_map hv
    refine ct_one ?_
    repeat wtm_at "e"
    refine W2.inI hA' ?_
    repeat wtm_at "e"
    refine if_d (fun h1 => ?_) (fun h1 => ?_)
    · repeat wtm_at "e"
      refine W2.notInI hA' ?_
      repeat wtm_at "e"
      refine if_nd (fun h2 => ?_) (fun h2 => ?_)
      · repeat wtm_at "e"
        refine ⟨?_, rfl⟩
        rw [borne_take hp, if_pos ⟨h1, h2⟩]; simp
      · repeat wtm_at "e"
        refine ⟨?_, rfl⟩
        rw [borne_take hp, if_neg (fun c => c.2 h2)]; simp
    · repeat wtm_at "e"
      refine ⟨?_, rfl⟩
      rw [borne_take hp, if_neg (fun c => h1 c.1)]; simp
  · rintro ys H' ⟨rfl, rfl⟩ D hD
    rw [List.length_map, List.take_length]
    repeat wtm_at "e"
    refine WC.sumL hA' (by wtm_at "mem") ?_
    exact ⟨_, List.sublist_cons_self _ _, q⟩

def priceF (c : Int) : Int := if c % 4 = 1 then 1 + c / 4 * 69621 ^ 7 % 10 ^ 30 else 1 + c / 4 % 9
theorem priceF_pos (c : Int) : 1 ≤ priceF c := by
  unfold priceF; split <;> omega
theorem sp_price (X : Fx C) (hA : AOk A (n + 1)) {c : Int} (hc : Bd c) (q : Q (.int (priceF c)) H) : WF C A H "_law_price" [.int c] Q := by
  refine WF.intro X.f_price hA ["_law_cell"] [] [] [] [("_law_cell", some (.int c))] (by decide +kernel) rfl (by wtm_at "bind") rfl ?_
  intro env hA' K
  refine WSs.cons ?_
  repeat wtm_at "s"
  refine if_eq (fun h => ?_) (fun h => ?_)
  · repeat wtm_at "s"
    refine W2.powL (r := 69621 ^ 7) (by omega) (by decide) (by rfl) ?_
    refine W2.mulB (hc.div (by omega)) (by decide) ?_
    repeat wtm_at "s"
    refine W2.powL (r := 10 ^ 30) (by omega) (by decide) (by rfl) ?_
    repeat wtm_at "s"
    refine ⟨H, List.Sublist.refl _, ?_⟩
    simp only [priceF, if_pos h] at q
    exact q
  · repeat wtm_at "s"
    refine ⟨H, List.Sublist.refl _, ?_⟩
    simp only [priceF, if_neg h] at q
    exact q

theorem sp_set (X : Fx C) (hA : AOk A (n + 1)) {m root : Int} {g : List Int} (hg : g.length ≤ 60) (q : ∀ b : Bool, (b = true ↔ SetOk m root g) → Q (.bool b) H) : WF C A H "_law_set" [.tup (g.map .int), .int m, .int root] Q := by
  refine WF.intro X.f_set hA ["_law_group", "_law_many", "_law_root"] ["_law_at"] ["len", "range"] [] [("_law_group", some (.tup (g.map .int))), ("_law_many", some (.int m)), ("_law_root", some (.int root)), ("_law_at", none)] (by decide +kernel) rfl (by wtm_at "bind") rfl ?_
  intro env hA' K
  refine WSs.cons ?_
  repeat wtm_at "s"
  refine WS.for (WI.of ?_)
  refine WE.callT (by wtm_at "mem") X.g_range ?_
  repeat wtm_at "e"
  rw [List.length_map]
  refine WC.range1 ?_
  refine ItOf.range hA' (by decide) (by decide) (by omega) (by omega) ?_
  refine for_intro (fun (i : Nat) (S : Sg) (H' : Hp) => ∃ o, S = ([("_law_group", some (.tup (g.map .int))), ("_law_many", some (.int m)), ("_law_root", some (.int root)), ("_law_at", o)] : Sg) ∧ H' = H ∧ ∀ j, j < i → SetAt m g j ∧ g[j]? ≠ some root) ⟨none, rfl, rfl, fun j h => by omega⟩ (fun _ _ _ _ => trivial) ?_ ?_
  · rintro i x S H' hx ⟨o, rfl, rfl, hI⟩
    obtain ⟨rfl, hlt⟩ := rangeL_get hx
    rw [Int.zero_add] at hlt ⊢
    obtain ⟨x, hx⟩ : ∃ x, g[i]? = some x := ⟨g[i]'(by omega), by simp⟩
    have hxm : (g.map MV.int)[(i : Int).toNat]? = some (.int x) := by rw [List.getElem?_map]; simp [hx]
    have bad : ¬ SetAt m g i → SetOk m root g → false = true := fun hb e => absurd (e.at' i (by omega)) hb
    refine WA.name (by wtm_at "put") ?_
    repeat wtm_at "s"
    refine W2.itemT (x := .int x) (by omega) hxm (by omega) ?_
    repeat wtm_at "s"
    refine if_d (fun h1 => ?_) (fun h1 => ?_)
    · repeat wtm_at "s"
      refine ⟨_, List.Sublist.refl _, q false ⟨fun e => (nomatch e), bad fun ⟨y, e1, e2, e3, _⟩ => ?_⟩⟩
      rw [hx] at e1; cases e1; omega
    repeat wtm_at "s"
    refine W2.itemT (x := .int x) (by omega) hxm (by omega) ?_
    repeat wtm_at "s"
    refine if_d (fun h2 => ?_) (fun h2 => ?_)
    · repeat wtm_at "s"
      refine ⟨_, List.Sublist.refl _, q false ⟨fun e => (nomatch e), bad fun ⟨y, e1, e2, e3, _⟩ => ?_⟩⟩
      rw [hx] at e1; cases e1; omega
    repeat wtm_at "s"
    refine W2.itemT (x := .int x) (by omega) hxm (by omega) ?_
    repeat wtm_at "s"
    refine if_eq (fun h3 => ?_) (fun h3 => ?_)
    · repeat wtm_at "s"
      exact ⟨_, List.Sublist.refl _, q false ⟨fun e => (nomatch e), fun e => absurd (List.mem_of_getElem? (h3 ▸ hx)) e.rt⟩⟩
    have hne : g[i]? ≠ some root := fun e => by rw [hx] at e; cases e; exact h3 rfl
    repeat wtm_at "s"
    refine if_d (fun h4 => ?_) (fun h4 => ?_)
    · obtain ⟨y, hy⟩ : ∃ y, g[i - 1]? = some y := ⟨g[i - 1]'(by omega), by simp⟩
      have hym : (g.map MV.int)[((i : Int) - 1).toNat]? = some (.int y) := by rw [List.getElem?_map, show ((i : Int) - 1).toNat = i - 1 by omega, hy]; rfl
      repeat wtm_at "s"
      refine W2.itemT (x := .int y) (by omega) hym (by omega) ?_
      repeat wtm_at "s"
      refine W2.itemT (x := .int x) (by omega) hxm (by omega) ?_
      repeat wtm_at "s"
      refine if_d (fun h5 => ?_) (fun h5 => ?_)
      · repeat wtm_at "s"
        refine ⟨_, List.Sublist.refl _, q false ⟨fun e => (nomatch e), bad fun ⟨z, e1, e2, e3, e4⟩ => ?_⟩⟩
        rw [hx] at e1; cases e1
        have := e4 y (by omega) hy
        omega
      · repeat wtm_at "s"
        refine ⟨rfl, fun j hj => ?_⟩
        rcases (by omega : j = i ∨ j < i) with rfl | hj
        · exact ⟨⟨x, hx, by omega, by omega, fun z _ hz => by rw [hy] at hz; cases hz; omega⟩, hne⟩
        · exact hI j hj
    · repeat wtm_at "s"
      refine ⟨rfl, fun j hj => ?_⟩
      rcases (by omega : j = i ∨ j < i) with rfl | hj
      · exact ⟨⟨x, hx, by omega, by omega, fun z h0 _ => by omega⟩, hne⟩
      · exact hI j hj
  · rintro S H' ⟨o, rfl, rfl, hI⟩
    rw [rangeL_length] at hI
    repeat wtm_at "s"
    refine ⟨_, List.Sublist.refl _, q _ ⟨fun e => ⟨?_, fun hr => ?_, fun j hj => (hI j (by omega)).1⟩, fun e => ?_⟩⟩
    · simp only [decide_eq_true_eq, List.length_map] at e; omega
    · obtain ⟨j, hj⟩ := List.mem_iff_getElem?.mp hr
      have := get_lt hj
      exact (hI j (by omega)).2 hj
    · have := e.ne
      simp only [decide_eq_true_eq, List.length_map]; omega

theorem slice_get {α : Type} {l : List α} {k j : Nat} {x : α} (h : (sliceL none (some (k : Int)) l)[j]? = some x) : j < k ∧ l[j]? = some x := by
  have hl := get_lt h
  simp only [sliceL, Int.toNat_natCast] at h hl
  rw [List.length_take] at hl
  refine ⟨by omega, ?_⟩
  rw [List.getElem?_take_of_lt (by omega)] at h
  exact h

theorem sp_due (X : Fx C) (hA : AOk A (n + 2)) {m root : Int} {a b : Addr} {R : List Rd} {P : List Pr} (hR : R.length ≤ 60) (hP : P.length ≤ 60) (hPl : ∀ p ∈ P, p.1.length ≤ 60) (ha : (a, MO.list (R.map rdV)) ∈ H) (hb : (b, MO.list (P.map prV)) ∈ H)
    (q : ∀ c : Bool, (c = true ↔ Fits m root (fun a b => Apart2 b a) P P.length ∧ ∀ r ∈ R, (borneF r.1 r.2.1 P).sum ≤ r.2.2) → Q (.bool c) H) : WF C A H "_law_due" [.int m, .ref a, .int root, .ref b] Q := by
  refine WF.intro X.f_due hA ["_law_many", "_law_roads", "_law_root", "_law_prices"] ["_law_at", "_law_group", "_law_other", "_law_both", "_law_road"] ["range", "len", "_law_set", "isinstance", "bool", "_law_borne"] ["_law_other"]
    [("_law_many", some (.int m)), ("_law_roads", some (.ref a)), ("_law_root", some (.int root)), ("_law_prices", some (.ref b)), ("_law_at", none), ("_law_group", none), ("_law_other", none), ("_law_both", none), ("_law_road", none)] (by decide +kernel) rfl (by wtm_at "bind") rfl ?_
  intro env hA' K
  refine WSs.cons ?_
  repeat wtm_at "s"
  refine WS.for (WI.of ?_)
  refine WE.callT (by wtm_at "mem") X.g_range ?_
  repeat wtm_at "e"
  refine WC.range1 ?_
  refine ItOf.range hA' (by decide) (by decide) (by omega) (by omega) ?_
  refine for_intro (fun (i : Nat) (S : Sg) (H' : Hp) => ∃ o1 o2 o3 o4, S = ([("_law_many", some (.int m)), ("_law_roads", some (.ref a)), ("_law_root", some (.int root)), ("_law_prices", some (.ref b)), ("_law_at", o1), ("_law_group", o2), ("_law_other", o3), ("_law_both", o4), ("_law_road", none)] : Sg) ∧ H.Sublist H' ∧ Fits m root (fun a b => Apart2 b a) P i) ⟨_, _, _, _, rfl, List.Sublist.refl _, fun k p hk => by omega⟩ (fun _ _ _ _ => trivial) ?_ ?_
  · rintro i x S H' hx ⟨o1, o2, o3, o4, rfl, hs, hI⟩
    obtain ⟨rfl, hlt⟩ := rangeL_get hx
    rw [Int.zero_add] at hlt ⊢
    have hil : i < P.length := by omega
    obtain ⟨p, hp⟩ : ∃ p, P[i]? = some p := ⟨P[i], by simp [hil]⟩
    have hp' : P[(i : Int).toNat]? = some p := by simpa using hp
    have hpl := hPl p (List.mem_of_getElem? hp)
    refine WA.name (by wtm_at "put") ?_
    refine WSs.sub ?_ hs
    refine WSs.cons ?_
    repeat wtm_at "s"
    refine W2.itemM (l := P) (x := p) hb (by omega) hp' (by omega) ?_
    repeat wtm_at "s"
    refine WT.plain (WE.callF (by wtm_at "mem") X.f_set ?_)
    repeat wtm_at "s"
    refine sp_set X hA' hpl fun b1 hb1 => ?_
    refine WB.bool ?_
    cases b1 with
    | false =>
      repeat wtm_at "s"
      refine ⟨_, List.Sublist.refl _, q false ⟨fun e => (nomatch e), fun e => ?_⟩⟩
      exact hb1.mpr (e.1 i p hil hp).1
    | true =>
      have hset := hb1.mp rfl
      repeat wtm_at "s"
      refine W2.itemM (l := P) (x := p) hb (by omega) hp' (by omega) ?_
      repeat wtm_at "s"
      refine W2.itemM (l := P) (x := p) hb (by omega) hp' (by omega) ?_
      repeat wtm_at "s"
      refine if_d (fun h1 => ?_) (fun h1 => ?_)
      · repeat wtm_at "s"
        refine ⟨_, List.Sublist.refl _, q false ⟨fun e => (nomatch e), fun e => ?_⟩⟩
        have := (e.1 i p hil hp).2.1
        omega
      repeat wtm_at "s"
      refine WS.for (WI.of ?_)
      repeat wtm_at "e"
      refine ⟨P.map prV, .inl ⟨b, rfl, hb⟩, by simp [sizeLine]; omega, fun D hD => ?_⟩
      rw [sliceL_map]
      refine ItOf.list hA' (by wtm_at "mem") ?_
      refine for_intro (fun (l : Nat) (S : Sg) (H2 : Hp) => ∃ o3 o4, S = ([("_law_many", some (.int m)), ("_law_roads", some (.ref a)), ("_law_root", some (.int root)), ("_law_prices", some (.ref b)), ("_law_at", some (.int (i : Int))), ("_law_group", some (.tup (p.1.map .int))), ("_law_other", o3), ("_law_both", o4), ("_law_road", none)] : Sg) ∧ ((D, MO.list ((sliceL none (some (i : Int)) P).map prV)) :: H).Sublist H2 ∧ ∀ (j : Nat) (q : Pr), j < l → P[j]? = some q → Apart2 p.1 q.1) ⟨_, _, rfl, List.Sublist.refl _, fun j q hj => by omega⟩ ?_ ?_ ?_
      · rintro j S H2 ⟨o3, o4, rfl, hs2, _⟩
        exact hs2.subset List.mem_cons_self
      · rintro j x S H2 hx ⟨o3, o4, rfl, hs2, hJ⟩
        obtain ⟨p2, hp2, rfl⟩ := get_map hx
        obtain ⟨hji, hp2'⟩ := slice_get hp2
        have hp2l := hPl p2 (List.mem_of_getElem? hp2')
        refine WA.name (by wtm_at "put") ?_
        refine WSs.sub ?_ hs2
        refine WSs.cons ?_
        repeat wtm_at "e"
        refine WE.comp (ys := ["_law_other"]) [] K (.cons (y := "_law_other") (by wtm_at "at") (by wtm_at "mem") .nil) (by decide +kernel) (WI.of ?_)
        repeat wtm_at "e"
        refine ItOf.tup hA' ?_
        refine comp_intro (fun l2 ys H3 => ys = ((p.1.take l2).filter fun x => decide (x ∈ p2.1)).map .int ∧ H3 = (D, MO.list ((sliceL none (some (i : Int)) P).map prV)) :: H) (by simp [sizeLine]; omega) ⟨by simp, rfl⟩ ?_ ?_ ?_
        · rintro l2 ys H3 ⟨rfl, rfl⟩
          refine ⟨trivial, ?_⟩
          rw [List.length_map]
          exact Nat.le_trans (List.length_filter_le _ _) (by simp; omega)
        · rintro l2 v ys H3 cenv hv ⟨rfl, rfl⟩
          obtain ⟨x, hx, rfl⟩ := get_map hv
          refine ct_one ?_
          repeat wtm_at "e"
          refine W2.inI hA' ?_
          repeat wtm_at "e"
          refine if_d (fun h => ?_) (fun h => ?_)
          · repeat wtm_at "e"
            refine ⟨?_, rfl⟩
            rw [filter_take hx, if_pos (by simpa using h)]; simp
          · refine ⟨?_, rfl⟩
            rw [filter_take hx, if_neg (by simpa using h)]; simp
        · rintro ys H3 ⟨rfl, rfl⟩ D2 hD2
          have hc : cnt p.1 p2.1 = ((p.1.take (p.1.map MV.int).length).filter fun x => decide (x ∈ p2.1)).length := by
            rw [List.length_map, List.take_length]; rfl
          have hcl : cnt p.1 p2.1 ≤ 60 := Nat.le_trans (List.length_filter_le _ _) hpl
          generalize ((p.1.take (p.1.map MV.int).length).filter fun x => decide (x ∈ p2.1)) = W at hc
          have bad : ¬ Apart2 p.1 p2.1 → (Fits m root (fun a b => Apart2 b a) P P.length ∧ ∀ r ∈ R, (borneF r.1 r.2.1 P).sum ≤ r.2.2) → false = true := fun hb e => absurd ((e.1 i p hil hp).2.2 j p2 hji hp2') hb
          repeat wtm_at "s"
          refine W2.eqD hA' (.tup (dps_ints _)) (.tup (dps_ints _)) (shaped_tupI _) (shaped_tupI _) ?_
          rw [eqv_tups]
          repeat wtm_at "s"
          refine if_d (fun h => ?_) (fun h => ?_)
          · repeat wtm_at "s"
            exact ⟨_, .cons _ (.cons _ (.refl _)), q false ⟨fun e => (nomatch e), bad fun e => e.1 h⟩⟩
          have fin : Apart2 p.1 p2.1 → ∀ (j' : Nat) (q' : Pr), j' < j + 1 → P[j']? = some q' → Apart2 p.1 q'.1 := fun hap j' q' hj' hq' => by
            rcases (by omega : j' = j ∨ j' < j) with rfl | hj'
            · rw [hp2'] at hq'; cases hq'; exact hap
            · exact hJ j' q' hj' hq'
          repeat wtm_at "s"
          refine if_d (fun h2 => ?_) (fun h2 => ?_)
          · repeat wtm_at "s"
            refine if_d (fun h3 => ?_) (fun h3 => ?_)
            · repeat wtm_at "s"
              refine if_d (fun h4 => ?_) (fun h4 => ?_)
              · repeat wtm_at "s"
                rw [List.length_map] at h3 h4
                exact ⟨_, .cons _ (.cons _ (.refl _)), q false ⟨fun e => (nomatch e), bad fun e => e.2 ⟨by omega, by omega, by omega⟩⟩⟩
              · rw [List.length_map] at h4
                repeat wtm_at "s"
                exact ⟨_, _, rfl, .cons _ (.refl _), fin ⟨h, fun e => by omega⟩⟩
            · rw [List.length_map] at h3
              repeat wtm_at "s"
              exact ⟨_, _, rfl, .cons _ (.refl _), fin ⟨h, fun e => by omega⟩⟩
          · repeat wtm_at "s"
            exact ⟨_, _, rfl, .cons _ (.refl _), fin ⟨h, fun e => by omega⟩⟩
      · rintro S H2 ⟨o3, o4, rfl, hs2, hJ⟩
        have hsl : (List.map prV (sliceL none (some (i : Int)) P)).length = i := by simp [sliceL]; omega
        rw [hsl] at hJ
        refine seq_next (WSs.nil (loop_next ?_))
        refine ⟨_, _, _, _, rfl, (List.sublist_cons_self _ _).trans hs2, fun k' p' hk' hp'' => ?_⟩
        rcases (by omega : k' = i ∨ k' < i) with rfl | hk'
        · rw [hp] at hp''; cases hp''
          exact ⟨hset, by omega, fun j q hj hq => hJ j q hj hq⟩
        · exact hI k' p' hk' hp''
  · rintro S H' ⟨o1, o2, o3, o4, rfl, hs, hI⟩
    rw [rangeL_length] at hI
    have hF : Fits m root (fun a b => Apart2 b a) P P.length := fun k p hk hp => hI k p (by omega) hp
    clear hI
    refine seq_next (WSs.sub ?_ hs)
    refine WSs.cons ?_
    refine WS.for (WI.of ?_)
    repeat wtm_at "e"
    refine ItOf.list hA' (xs := R.map rdV) ha ?_
    refine for_intro (fun (i : Nat) (S : Sg) (H2 : Hp) => ∃ o5, S = ([("_law_many", some (.int m)), ("_law_roads", some (.ref a)), ("_law_root", some (.int root)), ("_law_prices", some (.ref b)), ("_law_at", o1), ("_law_group", o2), ("_law_other", o3), ("_law_both", o4), ("_law_road", o5)] : Sg) ∧ H2 = H ∧ ∀ (j : Nat) (r : Rd), j < i → R[j]? = some r → (borneF r.1 r.2.1 P).sum ≤ r.2.2) ⟨_, rfl, rfl, fun j r hj => by omega⟩ ?_ ?_ ?_
    · rintro i S H2 ⟨o5, rfl, rfl, _⟩
      exact ha
    · rintro i x S H2 hx ⟨o5, rfl, rfl, hI⟩
      obtain ⟨r, hr, rfl⟩ := get_map hx
      refine WA.name (by wtm_at "put") ?_
      repeat wtm_at "s"
      refine WE.callF (by wtm_at "mem") X.f_borne ?_
      repeat wtm_at "s"
      refine sp_borne X hA' hP hb ?_
      repeat wtm_at "s"
      refine if_d (fun h => ?_) (fun h => ?_)
      · repeat wtm_at "s"
        refine ⟨_, List.Sublist.refl _, q false ⟨fun e => (nomatch e), fun e => ?_⟩⟩
        have := e.2 r (List.mem_of_getElem? hr)
        omega
      · repeat wtm_at "s"
        refine ⟨rfl, fun j r' hj hr' => ?_⟩
        rcases (by omega : j = i ∨ j < i) with rfl | hj
        · rw [hr] at hr'; cases hr'; omega
        · exact hI j r' hj hr'
    · rintro S H2 ⟨o5, rfl, rfl, hI⟩
      rw [List.length_map] at hI
      repeat wtm_at "s"
      refine ⟨_, List.Sublist.refl _, q true ⟨fun _ => ⟨hF, fun r hr => ?_⟩, fun _ => rfl⟩⟩
      obtain ⟨j, hj⟩ := List.mem_iff_getElem?.mp hr
      exact hI j r (get_lt hj) hj
end
set_option maxRecDepth 100000
set_option maxHeartbeats 4000000
open PySem PySem.W PySem.Calls PyProof.Rows
section
variable {C : Cx} {A : Around} {H : Hp} {n : Nat} {Q : MV → Hp → Prop}
/-! stretches of places -/
abbrev St := Int × Int
abbrev stV (z : St) : MV := .tup [.int z.1, .int z.2]
def stD (z : St) : PyData := .tuple [.int z.1, .int z.2]
theorem dps_sts (Z : List St) : Dps H (Z.map stV) (Z.map stD) := by
  induction Z with
  | nil => exact .nil
  | cons r R ih => exact .cons (.tup (.cons (.int _) (.cons (.int _) .nil))) ih
theorem canLay_sts (Z : List St) : PyData.canLayAll0 (Z.map stD) = true := by
  induction Z with
  | nil => rfl
  | cons a g ih => simp [PyData.canLayAll0, PyData.canLay0, stD, ih]
theorem depth_sts (Z : List St) : PyData.depthAll (Z.map stD) ≤ 1 := by
  induction Z with
  | nil => decide
  | cons a g ih =>
    simp only [List.map_cons, PyData.depthAll, stD, PyData.depth]
    simp only [Nat.max_def]
    repeat' split
    all_goals omega
theorem shaped_sts (Z : List St) : SeqAt.shaped (.list (Z.map stD)) = true := by
  have := depth_sts Z
  simp [SeqAt.shaped, PyData.canLay0, canLay_sts, PyData.depth]
  omega
theorem eqv_none (Z : List St) : PyData.eqv (.list (Z.map stD)) (.list []) = decide (Z = []) := by
  cases Z with
  | nil => rfl
  | cons a g => simp [PyData.eqv, PyData.eqvAll]
theorem erase_map {α β : Type} (f : α → β) : ∀ (l : List α) (i : Nat), (l.map f).eraseIdx i = (l.eraseIdx i).map f
  | [], _ => rfl
  | a :: l, 0 => rfl
  | a :: l, i + 1 => by simp [erase_map f l i]
def StOk (m : Int) (z : St) : Prop := 1 ≤ z.1 ∧ z.1 < z.2 ∧ z.2 ≤ m
def PrOk (p : Pr) : Prop := 1 ≤ p.2 ∧ 0 < p.1.length ∧ p.1.length ≤ 12
abbrev gsP : List Str := ["_law_cell_at", "len", "tuple", "sorted", "range", "_law_price", "_law_mixed", "max"]
abbrev sgP (ns : List Int) (m root : Int) (found st cell one group middle two : Option MV) : Sg :=
  [("_law_script", some (.fl ns)), ("_law_many", some (.int m)), ("_law_root", some (.int root)), ("_law_found", found), ("_law_stretches", st), ("_law_cell", cell), ("_law_one", one), ("_law_group", group), ("_law_middle", middle), ("_law_two", two)]

theorem sp_pairs (X : Fx C) (hA : AOk A (n + 2)) {ns : List Int} {m root : Int} (hl : ns.length ≤ 63) (hbd : ∀ x ∈ ns, Bd x) (hm : 2 ≤ m ∧ m ≤ 12)
    (q : ∀ (F : Addr) (P : List Pr), P.length ≤ 9 → (∀ p ∈ P, PrOk p) → Q (.ref F) ((F, .list (P.map prV)) :: H)) : WF C A H "_law_pairs" [.fl ns, .int m, .int root] Q := by
  refine WF.intro X.f_pairs hA ["_law_script", "_law_many", "_law_root"] ["_law_found", "_law_stretches", "_law_cell", "_law_one", "_law_group", "_law_middle", "_law_two"] gsP ["_law_root", "_law_many"] (sgP ns m root none none none none none none none) (by decide +kernel) rfl (by wtm_at "bind") rfl ?_
  intro env hA' K
  refine WSs.cons ?_
  repeat wtm_at "s"
  intro F hF
  repeat wtm_at "s"
  intro T hT
  repeat wtm_at "s"
  refine WS.for (WI.of ?_)
  repeat wtm_at "e"
  refine WE.cellC X hA' hl (by wtm_at "mem") (by wtm_at "at") (by decide) ?_
  have c0 := Int.emod_nonneg (cellF ns 2) (by omega : (10 : Int) ≠ 0)
  have c1 := Int.emod_lt_of_pos (cellF ns 2) (by omega : (0 : Int) < 10)
  repeat wtm_at "e"
  refine ⟨_, .inr ⟨ns, rfl, rfl⟩, by rw [List.length_map]; simp [sizeLine]; omega, fun D1 hD1 => ?_⟩
  rw [sliceL_map]
  have hsl : (sliceL (some 6) (some (6 + cellF ns 2 % 10)) ns).length ≤ 9 := by simp [sliceL]; omega
  have hsb : ∀ c ∈ sliceL (some 6) (some (6 + cellF ns 2 % 10)) ns, Bd c := fun c hc => hbd c (by
    simp only [sliceL] at hc
    exact List.mem_of_mem_drop (List.mem_of_mem_take hc))
  generalize sliceL (some 6) (some (6 + cellF ns 2 % 10)) ns = cs at hsl hsb
  refine ItOf.list hA' (by wtm_at "mem") ?_
  refine for_intro (fun (i : Nat) (S : Sg) (H' : Hp) => ∃ (o1 o2 o3 o4 o5 : Option MV) (P : List Pr) (Z : List St), S = sgP ns m root (some (.ref F)) (some (.ref T)) o1 o2 o3 o4 o5 ∧ ((D1, MO.list (cs.map .int)) :: (T, MO.list (Z.map stV)) :: (F, MO.list (P.map prV)) :: H).Sublist H' ∧ P.length ≤ i ∧ (∀ p ∈ P, PrOk p) ∧ Z.length ≤ 1 + i ∧ ∀ z ∈ Z, StOk m z)
    ⟨none, none, none, none, none, [], [(1, m)], rfl, List.Sublist.refl _, by simp, by simp, by simp, fun z hz => by rw [List.mem_singleton.mp hz]; exact ⟨by omega, by show 1 < m; omega, by show m ≤ m; omega⟩⟩ ?_ ?_ ?_
  · rintro i S H' ⟨o1, o2, o3, o4, o5, P, Z, rfl, hs, _⟩
    exact hs.subset List.mem_cons_self
  · rintro i x S H' hx ⟨o1, o2, o3, o4, o5, P, Z, rfl, hs, hPl, hPo, hZl, hZo⟩
    obtain ⟨c, hc, rfl⟩ := get_map hx
    have hci := get_lt hc
    have hcb := hsb c (List.mem_of_getElem? hc)
    refine WA.name (by wtm_at "put") ?_
    refine WSs.sub ?_ hs
    refine WSs.cons ?_
    repeat wtm_at "s"
    intro E0 hE0
    repeat wtm_at "s"
    refine W2.eqD hA' (.list (xs := Z.map stV) (by wtm_at "mem") (dps_sts _)) (.list (xs := []) (by wtm_at "mem") .nil) (shaped_sts _) (by decide) ?_
    rw [eqv_none]
    repeat wtm_at "s"
    refine if_d (fun h => ?_) (fun h => ?_)
    · repeat wtm_at "s"
      exact ⟨_, .cons _ (.cons _ (.cons _ (.refl _))), q F P (by omega) hPo⟩
    have hZ0 : 0 < Z.length := List.length_pos_iff.mpr h
    have k0 := Int.emod_nonneg c (by omega : (Z.length : Int) ≠ 0)
    have k1 := Int.emod_lt_of_pos c (by omega : 0 < (Z.length : Int))
    obtain ⟨z, hz⟩ : ∃ z, Z[(c % (Z.length : Int)).toNat]? = some z := ⟨Z[(c % (Z.length : Int)).toNat]'(by omega), by simp⟩
    obtain ⟨z1, z2, z3⟩ := hZo z (List.mem_of_getElem? hz)
    refine WSs.nil (seq_next ?_)
    refine WSs.sub ?_ (List.sublist_cons_self _ _)
    refine WSs.cons (WS.assign (WE.popAt ?_))
    repeat wtm_at "e"
    refine ⟨T, Z.map stV, rfl, by wtm_at "mem", ?_⟩
    repeat wtm_at "e"
    refine ⟨_, Z.map stV, stV z, _, rfl, by wtm_at "mem", k0, by rw [List.getElem?_map, hz]; rfl, by simp [sizeLine]; omega, by omega, by wtm_at "upd", ?_⟩
    rw [erase_map]
    have hZ2l : (Z.eraseIdx (c % (Z.length : Int)).toNat).length ≤ i := by rw [List.length_eraseIdx_of_lt (by omega)]; omega
    have hZ2o : ∀ z ∈ Z.eraseIdx (c % (Z.length : Int)).toNat, StOk m z := fun z hz => hZo z (List.mem_of_mem_eraseIdx hz)
    generalize Z.eraseIdx (c % (Z.length : Int)).toNat = Z2 at hZ2l hZ2o
    repeat wtm_at "e"
    refine seq_next ?_
    refine WSs.cons ?_
    repeat wtm_at "e"
    refine WE.callT (by wtm_at "mem") X.g_tuple ?_
    refine WEs.cons (WE.callB (by wtm_at "mem") X.g_sorted ?_)
    refine WEs.cons (WE.comp (ys := ["_law_root", "_law_many"]) [] K (.cons (y := "_law_root") (by wtm_at "at") (by wtm_at "mem") (.cons (y := "_law_many") (by wtm_at "at") (by wtm_at "mem") .nil)) (by decide +kernel) (WI.of ?_))
    refine WE.callT (by wtm_at "mem") X.g_range ?_
    repeat wtm_at "e"
    refine WC.range2 ?_
    refine ItOf.range hA' (by omega) (by omega) (by omega) (by omega) ?_
    refine comp_intro (fun l ys H2 => ∃ g : List Int, ys = g.map .int ∧ g.length = l ∧ H2 = (D1, MO.list (cs.map .int)) :: (T, MO.list (Z2.map stV)) :: (F, MO.list (P.map prV)) :: H) (by rw [rangeL_length]; simp [sizeLine]; omega) ⟨[], rfl, rfl, rfl⟩ ?_ ?_ ?_
    · rintro l ys H2 ⟨g, rfl, hg, rfl⟩
      exact ⟨trivial, by simp [hg]⟩
    · rintro l v ys H2 cenv hv ⟨g, rfl, hg, rfl⟩
      obtain ⟨rfl, hlt⟩ := rangeL_get hv
      refine ct_nil (if_t ?_)
      repeat wtm_at "e"
      exact ⟨g ++ [(root + (z.1 + (l : Int))) % m], by simp, by simp [hg], rfl⟩
    · rintro ys H2 ⟨g, rfl, hg, rfl⟩ G hG
      rw [rangeL_length] at hg
      repeat wtm_at "e"
      refine WC.sortedL (g := g) (by wtm_at "mem") (by omega) fun G2 g' hG2 hperm _ => ?_
      have hg' : g'.length = g.length := hperm.length_eq
      repeat wtm_at "e"
      refine WC.tupL (xs := g'.map .int) (by wtm_at "mem") (by simp [sizeLine]; omega) ?_
      repeat wtm_at "e"
      refine seq_next (WSs.sub ?_ (.cons _ (.cons _ (.refl _))))
      refine WSs.cons ?_
      repeat wtm_at "e"
      refine WE.append ?_
      repeat wtm_at "e"
      refine ⟨F, _, rfl, by wtm_at "mem", ?_⟩
      repeat wtm_at "e"
      refine WE.callF (by wtm_at "mem") X.f_price ?_
      repeat wtm_at "e"
      refine sp_price X hA' (hcb.div (by omega)) ?_
      repeat wtm_at "e"
      refine ⟨_, _, by wtm_at "mem", by wtm_at "upd", by simp [sizeLine]; omega, rfl, ?_⟩
      have eP : P.map prV ++ [MV.tup [.tup (g'.map .int), .int (priceF (c / 9))]] = (P ++ [(g', priceF (c / 9))]).map prV := by simp
      rw [eP]
      have hP2l : (P ++ [(g', priceF (c / 9))]).length ≤ i + 1 := by simp; omega
      have hP2o : ∀ p ∈ P ++ [(g', priceF (c / 9))], PrOk p := fun p hp => by
        rcases List.mem_append.mp hp with h1 | h1
        · exact hPo p h1
        · rw [List.mem_singleton.mp h1]
          exact ⟨priceF_pos _, by show 0 < g'.length; omega, by show g'.length ≤ 12; omega⟩
      generalize P ++ [(g', priceF (c / 9))] = P2 at hP2l hP2o
      refine seq_next ?_
      refine WSs.cons ?_
      repeat wtm_at "e"
      refine WE.callF (by wtm_at "mem") X.f_mixed ?_
      repeat wtm_at "e"
      refine sp_mixed X hA' (by omega) (by omega) ?_
      generalize mixedF c 3 = w
      repeat wtm_at "e"
      refine WE.callB (by wtm_at "mem") X.g_max ?_
      repeat wtm_at "e"
      refine WC.max2 hA' ?_
      have w0 := Int.emod_nonneg w (by omega : max 1 (z.2 - z.1 - 1) ≠ 0)
      have w1 := Int.emod_lt_of_pos w (by omega : 0 < max 1 (z.2 - z.1 - 1))
      repeat wtm_at "e"
      have mid1 : z.1 < z.1 + 1 + w % max 1 (z.2 - z.1 - 1) := by omega
      have mid2 : z.1 + 1 + w % max 1 (z.2 - z.1 - 1) ≤ z.2 := by omega
      generalize z.1 + 1 + w % max 1 (z.2 - z.1 - 1) = mid at mid1 mid2
      refine seq_next ?_
      refine WSs.cons ?_
      refine WS.for (WI.of ?_)
      repeat wtm_at "e"
      intro D2 hD2
      refine ItOf.list hA' (xs := [(z.1, mid), (mid, z.2)].map stV) List.mem_cons_self ?_
      refine for_intro (fun (l : Nat) (S : Sg) (H3 : Hp) => ∃ (o5 : Option MV) (Z : List St), S = sgP ns m root (some (.ref F)) (some (.ref T)) (some (.int c)) (some (stV z)) (some (.tup (g'.map .int))) (some (.int mid)) o5 ∧ H3 = (D2, MO.list ([(z.1, mid), (mid, z.2)].map stV)) :: (D1, MO.list (cs.map .int)) :: (T, MO.list (Z.map stV)) :: (F, MO.list (P2.map prV)) :: H ∧ Z.length ≤ i + l ∧ ∀ z ∈ Z, StOk m z) ⟨_, Z2, rfl, rfl, by omega, hZ2o⟩ ?_ ?_ ?_
      · rintro l S H3 ⟨o5, Z, rfl, rfl, _⟩
        exact List.mem_cons_self
      · rintro l x S H3 hx ⟨o5, Z, rfl, rfl, hZl, hZo⟩
        obtain ⟨y, hy, rfl⟩ := get_map hx
        have hll := get_lt hy
        simp only [List.length_cons, List.length_nil] at hll
        have hy12 : 1 ≤ y.1 ∧ y.2 ≤ m := by
          rcases List.mem_cons.mp (List.mem_of_getElem? hy) with rfl | h1
          · exact ⟨z1, by show mid ≤ m; omega⟩
          · rw [List.mem_singleton.mp h1]; exact ⟨by show 1 ≤ mid; omega, z3⟩
        have add : y.1 < y.2 → (Z ++ [y]).length ≤ i + (l + 1) ∧ ∀ z ∈ Z ++ [y], StOk m z := fun hlt => ⟨by simp; omega, fun z hz => by
          rcases List.mem_append.mp hz with h1 | h1
          · exact hZo z h1
          · rw [List.mem_singleton.mp h1]; exact ⟨hy12.1, hlt, hy12.2⟩⟩
        have eZ : Z.map stV ++ [stV y] = (Z ++ [y]).map stV := by simp
        refine WA.name (by wtm_at "put") ?_
        repeat wtm_at "s"
        refine if_d (fun h1 => ?_) (fun h1 => ?_)
        · repeat wtm_at "s"
          refine if_d (fun h2 => ?_) (fun h2 => ?_)
          · repeat wtm_at "s"
            refine WE.append ?_
            repeat wtm_at "s"
            refine ⟨T, _, rfl, by wtm_at "mem", ?_⟩
            repeat wtm_at "s"
            refine ⟨_, _, by wtm_at "mem", by wtm_at "upd", by simp [sizeLine]; omega, rfl, ?_⟩
            repeat wtm_at "s"
            exact ⟨_, Z ++ [y], rfl, by rw [← eZ], add h1⟩
          · repeat wtm_at "s"
            refine if_d (fun h3 => ?_) (fun h3 => ?_)
            · repeat wtm_at "s"
              refine if_d (fun h4 => ?_) (fun h4 => absurd h1 h4)
              repeat wtm_at "s"
              refine WE.append ?_
              repeat wtm_at "s"
              refine ⟨T, _, rfl, by wtm_at "mem", ?_⟩
              repeat wtm_at "s"
              refine ⟨_, _, by wtm_at "mem", by wtm_at "upd", by simp [sizeLine]; omega, rfl, ?_⟩
              repeat wtm_at "s"
              exact ⟨_, Z ++ [y], rfl, by rw [← eZ], add h1⟩
            · repeat wtm_at "s"
              exact ⟨_, Z, rfl, rfl, by omega, hZo⟩
        · repeat wtm_at "s"
          refine if_d (fun h3 => ?_) (fun h3 => ?_)
          · repeat wtm_at "s"
            refine if_d (fun h4 => absurd h4 h1) (fun h4 => ?_)
            repeat wtm_at "s"
            exact ⟨_, Z, rfl, rfl, by omega, hZo⟩
          · repeat wtm_at "s"
            exact ⟨_, Z, rfl, rfl, by omega, hZo⟩
      · rintro S H3 ⟨o5, Z, rfl, rfl, hZl, hZo⟩
        refine seq_next (WSs.nil (loop_next ?_))
        exact ⟨_, _, _, _, _, P2, Z, rfl, List.sublist_cons_self _ _, hP2l, hP2o, by simp only [List.length_map, List.length_cons, List.length_nil] at hZl; omega, hZo⟩
  · rintro S H' ⟨o1, o2, o3, o4, o5, P, Z, rfl, hs, hPl, hPo, hZl, hZo⟩
    rw [List.length_map] at hPl
    refine seq_next (WSs.sub ?_ hs)
    refine WSs.cons ?_
    repeat wtm_at "s"
    exact ⟨_, .cons _ (.cons _ (.refl _)), q F P (by omega) hPo⟩
end
set_option maxRecDepth 100000
set_option maxHeartbeats 4000000
open PySem PySem.W PySem.Calls PyProof.Rows
section
variable {C : Cx} {A : Around} {H : Hp} {n : Nat} {Q : MV → Hp → Prop}
theorem mem_sliceL {α : Type} {lo hi : Option Int} {T : List α} {y : α} (h : y ∈ sliceL lo hi T) : y ∈ T := by
  cases lo <;> cases hi <;> simp only [sliceL] at h
  · exact h
  · exact List.mem_of_mem_take h
  · exact List.mem_of_mem_drop h
  · exact List.mem_of_mem_drop (List.mem_of_mem_take h)
theorem W2.itemInts {value slice : Expr} {a : Addr} {xs : List Int} {k : Int} (hm : (a, MO.list (xs.map .int)) ∈ H) (h0 : 0 ≤ k) (hk : k < xs.length) (hhi : k < 2 ^ 63) (q : ∀ x, x ∈ xs → Q (.int x) H) (hs : plainSlice slice := by intro _ _; with_unfolding_all rfl) :
    W2 C A H (subscriptTail value slice) (.ref a) (.int k) Q := by
  have hlt : k.toNat < xs.length := by omega
  exact W2.itemM (l := xs) hm h0 (x := xs[k.toNat]) (by simp) hhi (q _ (List.getElem_mem hlt)) hs
abbrev gsS : List Str := ["len", "tuple", "sorted", "list"]
abbrev sgS (b : Addr) (c m root : Int) (at' group price more new place some' : Option MV) : Sg :=
  [("_law_prices", some (.ref b)), ("_law_cell", some (.int c)), ("_law_many", some (.int m)), ("_law_root", some (.int root)), ("_law_at", at'), ("_law_group", group), ("_law_price_here", price), ("_law_more", more), ("_law_new", new), ("_law_place", place), ("_law_some", some')]
def SpoiltQ (P : List Pr) (H : Hp) (Q : MV → Hp → Prop) : Prop := ∀ (D : Addr) (P' : List Pr), P'.length ≤ P.length + 1 → (∀ p ∈ P', p.1.length ≤ 60) → Q (.ref D) ((D, .list (P'.map prV)) :: H)

/-- the last: the pair's set is another one -/
theorem spoilt_d {env : Env} {b : Addr} {c m root k more : Int} {P : List Pr} {p : Pr} {g : List Int} {o1 o2 : Option MV} (hP : P.length ≤ 20) (hPo : ∀ p ∈ P, p.1.length ≤ 12) (hk : 0 ≤ k) (hg : g.length ≤ 60) (hb : (b, MO.list (P.map prV)) ∈ H) (q : SpoiltQ P H Q) :
    WSs C (A.deeper env) env gsS (sgS b c m root (some (.int k)) (some (.tup (p.1.map .int))) (some (.int p.2)) (some (.int more)) o1 o2 (some (.tup (g.map .int)))) H ((dd 24).body.drop 11) (Ret Q) := by
  refine WSs.cons ?_
  repeat wtm_at "s"
  refine ⟨P.map prV, .inl ⟨b, rfl, hb⟩, by simp [sizeLine]; omega, fun D1 _ => ?_⟩
  repeat wtm_at "s"
  intro D2 _
  rw [sliceL_map]
  refine W2.addL (xs := (sliceL none (some k) P).map prV) (ys := [(g, p.2)].map prV) (by wtm_at "mem") List.mem_cons_self (by simp [sizeLine, sliceL]; omega) fun D3 _ => ?_
  repeat wtm_at "s"
  refine ⟨P.map prV, .inl ⟨b, rfl, by wtm_at "mem"⟩, by simp [sizeLine]; omega, fun D4 _ => ?_⟩
  rw [sliceL_map]
  refine W2.addL (xs := (sliceL none (some k) P).map prV ++ [(g, p.2)].map prV) (ys := (sliceL (some (k + 1)) none P).map prV) (by wtm_at "mem") (by wtm_at "mem") (by simp [sizeLine, sliceL]; omega) fun D5 _ => ?_
  rw [← List.map_append, ← List.map_append]
  refine ⟨_, .cons_cons _ (.cons _ (.cons _ (.cons _ (.cons _ (.refl _))))), q D5 _ (by simp [sliceL]; omega) fun y hy => ?_⟩
  rcases List.mem_append.mp hy with h | h
  · rcases List.mem_append.mp h with h | h
    · have := hPo y (mem_sliceL h); omega
    · rw [List.mem_singleton.mp h]; exact hg
  · have := hPo y (mem_sliceL h); omega

theorem spoilt_c (X : Fx C) {env : Env} (hA' : AOk (A.deeper env) n) {b : Addr} {c m root k more : Int} {P : List Pr} {p : Pr} {o1 : Option MV} (hP : P.length ≤ 20) (hPo : ∀ p ∈ P, p.1.length ≤ 12) (hp : 0 < p.1.length ∧ p.1.length ≤ 12) (hm : 2 ≤ m ∧ m ≤ 12) (hk : 0 ≤ k) (hb : (b, MO.list (P.map prV)) ∈ H) (q : SpoiltQ P H Q) :
    WSs C (A.deeper env) env gsS (sgS b c m root (some (.int k)) (some (.tup (p.1.map .int))) (some (.int p.2)) (some (.int more)) o1 none none) H ((dd 24).body.drop 6) (Ret Q) := by
  have fin : ∀ (g : List Int) (w : Int) (E : Hp), g.length ≤ 60 → H.Sublist E → WSs C (A.deeper env) env gsS (sgS b c m root (some (.int k)) (some (.tup (p.1.map .int))) (some (.int p.2)) (some (.int more)) o1 (some (.int w)) (some (.tup (g.map .int)))) E ((dd 24).body.drop 11) (Ret Q) :=
    fun g w E hg hE => WSs.sub (spoilt_d hP hPo hk hg hb q) hE
  have g0 := Int.emod_nonneg more (by omega : (p.1.length : Int) ≠ 0)
  have g1 := Int.emod_lt_of_pos more (by omega : 0 < (p.1.length : Int))
  obtain ⟨y, hy⟩ : ∃ y, p.1[(more % (p.1.length : Int)).toNat]? = some y := ⟨p.1[(more % (p.1.length : Int)).toNat]'(by omega), by simp⟩
  have hym : (p.1.map MV.int)[(more % ((p.1.map MV.int).length : Int)).toNat]? = some (.int y) := by rw [List.length_map, List.getElem?_map, hy]; rfl
  have hlm : ((p.1.map MV.int).length : Int) = (p.1.length : Int) := by rw [List.length_map]
  refine WSs.cons ?_
  repeat wtm_at "s"
  refine WE.neg ?_
  repeat wtm_at "s"
  refine W2.itemT (x := .int y) (by rw [hlm]; exact g0) hym (by rw [hlm]; omega) ?_
  repeat wtm_at "s"
  intro L hL
  repeat wtm_at "e"
  refine W2.itemInts (xs := [root, m, -1, y, more % m]) List.mem_cons_self (by omega) (by simp only [List.length_cons, List.length_nil]; omega) (by omega) fun w hw => ?_
  repeat wtm_at "e"
  refine seq_next (WSs.sub ?_ (List.sublist_cons_self _ _))
  refine WSs.cons ?_
  repeat wtm_at "e"
  refine WE.callT (by wtm_at "mem") X.g_tuple ?_
  refine WEs.cons (WE.callB (by wtm_at "mem") X.g_sorted ?_)
  refine WEs.cons (WE.bin ?_)
  refine WE.callT (by wtm_at "mem") X.g_list ?_
  repeat wtm_at "e"
  refine WC.listT (xs := p.1.map .int) (by simp [sizeLine]; omega) fun L1 _ => ?_
  repeat wtm_at "e"
  intro L2 _
  refine W2.addL (xs := p.1.map .int) (ys := [w].map .int) (by wtm_at "mem") List.mem_cons_self (by simp [sizeLine]; omega) fun L3 _ => ?_
  rw [← List.map_append]
  repeat wtm_at "e"
  refine WC.sortedL (g := p.1 ++ [w]) (by wtm_at "mem") (by simp; omega) fun L4 g' _ hperm _ => ?_
  have hg' : g'.length ≤ 60 := by rw [hperm.length_eq]; simp; omega
  repeat wtm_at "e"
  refine WC.tupL (xs := g'.map .int) (by wtm_at "mem") (by simp [sizeLine]; omega) ?_
  repeat wtm_at "e"
  refine seq_next (WSs.sub ?_ (.cons _ (.cons _ (.cons _ (.cons _ (.refl _))))))
  refine WSs.cons ?_
  repeat wtm_at "e"
  refine if_eq (fun h => ?_) (fun h => ?_)
  · refine WSs.cons ?_
    repeat wtm_at "e"
    refine WE.callT (by wtm_at "mem") X.g_tuple ?_
    refine WEs.cons (WE.sortedRev (by wtm_at "mem") X.g_sorted ?_)
    repeat wtm_at "e"
    refine fun L5 g2 _ hp2 => ?_
    have hg2 : g2.length ≤ 60 := by rw [hp2.length_eq]; omega
    repeat wtm_at "e"
    refine WC.tupL (xs := g2.map .int) (by wtm_at "mem") (by simp [sizeLine]; omega) ?_
    repeat wtm_at "e"
    refine seq_next (WSs.nil (seq_next ?_))
    refine WSs.cons ?_
    repeat wtm_at "e"
    refine if_eq (fun h2 => absurd h (by omega)) (fun h2 => ?_)
    refine WSs.nil (seq_next ?_)
    refine WSs.cons ?_
    repeat wtm_at "e"
    refine if_eq (fun h2 => absurd h (by omega)) (fun h2 => ?_)
    repeat wtm_at "e"
    refine seq_next ?_
    exact fin g2 w _ hg2 (List.sublist_cons_self _ _)
  refine WSs.nil (seq_next ?_)
  refine WSs.cons ?_
  repeat wtm_at "e"
  refine if_eq (fun h2 => ?_) (fun h2 => ?_)
  · refine WSs.cons ?_
    repeat wtm_at "e"
    refine W2.addT (xs := p.1.map .int) (ys := [w].map .int) (by simp [sizeLine]; omega) ?_
    rw [← List.map_append]
    repeat wtm_at "e"
    refine seq_next (WSs.nil (seq_next ?_))
    refine WSs.cons ?_
    repeat wtm_at "e"
    refine if_eq (fun h3 => absurd h2 (by omega)) (fun h3 => ?_)
    repeat wtm_at "e"
    refine seq_next ?_
    exact fin (p.1 ++ [w]) w _ (by simp; omega) (List.Sublist.refl _)
  refine WSs.nil (seq_next ?_)
  refine WSs.cons ?_
  repeat wtm_at "e"
  refine if_eq (fun h3 => ?_) (fun h3 => ?_)
  · repeat wtm_at "e"
    refine if_eq (fun h4 => ?_) (fun h4 => ?_)
    · repeat wtm_at "e"
      refine WSs.cons ?_
      repeat wtm_at "e"
      refine seq_next (WSs.nil (seq_next ?_))
      exact fin [] w _ (by simp) (List.Sublist.refl _)
    · repeat wtm_at "e"
      refine seq_next ?_
      exact fin g' w _ hg' (List.Sublist.refl _)
  · repeat wtm_at "e"
    refine seq_next ?_
    exact fin g' w _ hg' (List.Sublist.refl _)

theorem sp_spoilt (X : Fx C) (hA : AOk A (n + 1)) {b : Addr} {c m root : Int} {P : List Pr} (hP : 0 < P.length ∧ P.length ≤ 20) (hPo : ∀ p ∈ P, PrOk p) (hm : 2 ≤ m ∧ m ≤ 12) (hb : (b, MO.list (P.map prV)) ∈ H) (q : SpoiltQ P H Q) : WF C A H "_law_spoilt" [.ref b, .int c, .int m, .int root] Q := by
  refine WF.intro X.f_spoilt hA ["_law_prices", "_law_cell", "_law_many", "_law_root"] ["_law_at", "_law_group", "_law_price_here", "_law_more", "_law_new", "_law_place", "_law_some"] gsS [] (sgS b c m root none none none none none none none) (by decide +kernel) rfl (by wtm_at "bind") rfl ?_
  intro env hA' K
  have g0 := Int.emod_nonneg (c / 14) (by omega : (P.length : Int) ≠ 0)
  have g1 := Int.emod_lt_of_pos (c / 14) (by omega : 0 < (P.length : Int))
  obtain ⟨p, hp⟩ : ∃ p, P[(c / 14 % (P.length : Int)).toNat]? = some p := ⟨P[(c / 14 % (P.length : Int)).toNat]'(by omega), by simp⟩
  have hpm := List.mem_of_getElem? hp
  obtain ⟨p1, p2, p3⟩ := hPo p hpm
  have hPo' : ∀ p ∈ P, p.1.length ≤ 12 := fun p hp => (hPo p hp).2.2
  refine WSs.cons ?_
  repeat wtm_at "s"
  generalize c / 14 % (P.length : Int) = k at g0 g1 hp
  refine W2.itemM (l := P) (x := p) hb g0 hp (by omega) ?_
  repeat wtm_at "s"
  refine W2.itemM (l := P) (x := p) hb g0 hp (by omega) ?_
  repeat wtm_at "s"
  have c0 := Int.emod_nonneg c (by omega : (14 : Int) ≠ 0)
  refine if_d (fun h => ?_) (fun h => ?_)
  · repeat wtm_at "s"
    refine WE.neg ?_
    repeat wtm_at "s"
    intro L _
    repeat wtm_at "e"
    refine W2.itemInts (xs := [0, -1, 1, 2, p.2 - 1, p.2 + 1]) List.mem_cons_self c0 (by simp only [List.length_cons, List.length_nil]; omega) (by omega) fun w hw => ?_
    repeat wtm_at "e"
    refine seq_next (WSs.sub ?_ (List.sublist_cons_self _ _))
    refine WSs.cons ?_
    repeat wtm_at "s"
    refine ⟨P.map prV, .inl ⟨b, rfl, hb⟩, by simp [sizeLine]; omega, fun D1 _ => ?_⟩
    repeat wtm_at "s"
    intro D2 _
    rw [sliceL_map]
    refine W2.addL (xs := (sliceL none (some k) P).map prV) (ys := [(p.1, w)].map prV) (by wtm_at "mem") List.mem_cons_self (by simp [sizeLine, sliceL]; omega) fun D3 _ => ?_
    repeat wtm_at "s"
    refine ⟨P.map prV, .inl ⟨b, rfl, by wtm_at "mem"⟩, by simp [sizeLine]; omega, fun D4 _ => ?_⟩
    rw [sliceL_map]
    refine W2.addL (xs := (sliceL none (some k) P).map prV ++ [(p.1, w)].map prV) (ys := (sliceL (some (k + 1)) none P).map prV) (by wtm_at "mem") (by wtm_at "mem") (by simp [sizeLine, sliceL]; omega) fun D5 _ => ?_
    rw [← List.map_append, ← List.map_append]
    repeat wtm_at "s"
    refine ⟨_, .cons_cons _ (.cons _ (.cons _ (.cons _ (.cons _ (.refl _))))), q D5 _ (by simp [sliceL]; omega) fun y hy => ?_⟩
    rcases List.mem_append.mp hy with h | h
    · rcases List.mem_append.mp h with h | h
      · have := hPo' y (mem_sliceL h); omega
      · rw [List.mem_singleton.mp h]; show p.1.length ≤ 60; omega
    · have := hPo' y (mem_sliceL h); omega
  refine WSs.nil (seq_next ?_)
  refine WSs.cons ?_
  repeat wtm_at "e"
  refine if_eq (fun h2 => ?_) (fun h2 => ?_)
  · refine WSs.cons ?_
    repeat wtm_at "s"
    refine ⟨P.map prV, .inl ⟨b, rfl, hb⟩, by simp [sizeLine]; omega, fun D1 _ => ?_⟩
    repeat wtm_at "s"
    refine W2.itemM (l := P) (x := p) (by wtm_at "mem") g0 hp (by omega) ?_
    repeat wtm_at "s"
    intro D2 _
    rw [sliceL_map]
    refine W2.addL (xs := (sliceL none (some k) P).map prV) (ys := [p].map prV) (by wtm_at "mem") List.mem_cons_self (by simp [sizeLine, sliceL]; omega) fun D3 _ => ?_
    repeat wtm_at "s"
    refine ⟨P.map prV, .inl ⟨b, rfl, by wtm_at "mem"⟩, by simp [sizeLine]; omega, fun D4 _ => ?_⟩
    rw [sliceL_map]
    refine W2.addL (xs := (sliceL none (some k) P).map prV ++ [p].map prV) (ys := (sliceL (some k) none P).map prV) (by wtm_at "mem") (by wtm_at "mem") (by simp [sizeLine, sliceL]; omega) fun D5 _ => ?_
    rw [← List.map_append, ← List.map_append]
    repeat wtm_at "s"
    refine ⟨_, .cons_cons _ (.cons _ (.cons _ (.cons _ (.cons _ (.refl _))))), q D5 _ (by simp [sliceL]; omega) fun y hy => ?_⟩
    rcases List.mem_append.mp hy with h | h
    · rcases List.mem_append.mp h with h | h
      · have := hPo' y (mem_sliceL h); omega
      · rw [List.mem_singleton.mp h]; show p.1.length ≤ 60; omega
    · have := hPo' y (mem_sliceL h); omega
  refine WSs.nil (seq_next ?_)
  exact spoilt_c X hA' hP.2 hPo' ⟨p2, p3⟩ hm g0 hb q
end
set_option maxRecDepth 100000
set_option maxHeartbeats 4000000
open PySem PySem.W PySem.Calls PyProof.Rows
section
variable {C : Cx} {A : Around} {H : Hp} {n : Nat} {Q : MV → Hp → Prop}
theorem wrap_at {m s d : Int} (hs : 0 ≤ s) (hs' : s < m) (hd : 0 ≤ d) (hd' : d < m) : (s + d) % m = if s + d < m then s + d else s + d - m := by
  split
  · exact Int.emod_eq_of_lt (by omega) (by omega)
  · rw [← Int.sub_emod_right]
    exact Int.emod_eq_of_lt (by omega) (by omega)
theorem road_at_ok {m s d c : Int} (hs : 0 ≤ s) (hs' : s < m) (hd : 0 < d) (hd' : d < m) (hc : 0 ≤ c ∧ c < 10 ^ 40) : RdOk m (s, (s + d) % m, c) := by
  have e := wrap_at hs hs' (by omega : 0 ≤ d) hd'
  refine ⟨hs, hs', Int.emod_nonneg _ (by omega), Int.emod_lt_of_pos _ (by omega), ?_, hc.1, hc.2⟩
  show s ≠ (s + d) % m
  rw [e]
  split <;> omega
abbrev gsL : List Str := ["_law_cell_at", "_law_pairs", "max", "_law_borne", "min", "len", "_law_spoilt", "list", "are_prices", "isinstance", "bool", "_law_due"]
abbrev sgL (ns : List Int) (m root : Int) (b a : Addr) (cell start end' more cost handed found : Option MV) : Sg :=
  [("_law_script", some (.fl ns)), ("_law_many", some (.int m)), ("_law_root", some (.int root)), ("_law_prices", some (.ref b)), ("_law_roads", some (.ref a)), ("_law_cell", cell), ("_law_start", start), ("_law_end", end'), ("_law_more", more), ("_law_cost", cost), ("_law_handed", handed), ("_law_found", found)]
theorem sms_prs (P : List Pr) : Sms H 2 (P.map prV) (P.map prV) := by
  refine sms_self fun x hx => ?_
  obtain ⟨p, _, rfl⟩ := List.mem_map.mp hx
  refine .tup (.cons (.tup (sms_self fun y hy => ?_)) (.cons (.int _) .nil))
  obtain ⟨i, _, rfl⟩ := List.mem_map.mp hy
  exact .int _

theorem law_c (X : Fx C) {env : Env} (hA' : AOk (A.deeper env) (n + 5)) {ns : List Int} {m root : Int} {a b : Addr} {R : List Rd} {P : List Pr} {o1 o2 o3 o4 o5 : Option MV} (hm : 1 ≤ m ∧ m ≤ 12) (hroot : 0 ≤ root ∧ root < m) (hR : R.length ≤ 60) (hok : ∀ r ∈ R, RdOk m r) (hP : P.length ≤ 60) (hPl : ∀ p ∈ P, p.1.length ≤ 60) (ha : (a, MO.list (R.map rdV)) ∈ H) (hb : (b, MO.list (P.map prV)) ∈ H) :
    WSs C (A.deeper env) env gsL (sgL ns m root b a o1 o2 o3 o4 o5 none none) H ((dd 27).body.drop 7) (Ret fun v _ => v = .bool true) := by
  refine WSs.cons ?_
  repeat wtm_at "s"
  refine WE.callT (by wtm_at "mem") X.g_list ?_
  repeat wtm_at "e"
  refine WC.listL (xs := R.map rdV) ha (by simp [sizeLine]; omega) fun a2 _ => ?_
  repeat wtm_at "e"
  refine WE.callT (by wtm_at "mem") X.g_list ?_
  repeat wtm_at "e"
  refine WC.listL (xs := P.map prV) (by wtm_at "mem") (by simp [sizeLine]; omega) fun b2 _ => ?_
  repeat wtm_at "s"
  intro h _
  repeat wtm_at "s"
  refine WE.callF (by wtm_at "mem") X.p_are_prices ?_
  repeat wtm_at "s"
  refine W2.itemL (xs := [.ref a2, .ref b2]) (by wtm_at "mem") (by decide) rfl (by decide) ?_
  repeat wtm_at "s"
  refine W2.itemL (xs := [.ref a2, .ref b2]) (by wtm_at "mem") (by decide) rfl (by decide) ?_
  repeat wtm_at "s"
  refine sp_are_prices X hA' (R := R) (P := P) hm hroot hR hok hP hPl (by wtm_at "mem") (by wtm_at "mem") fun c1 hc1 => ?_
  repeat wtm_at "s"
  intro L _
  repeat wtm_at "s"
  refine W2.neSm hA' (k := 3) (xs := [.ref a2, .ref b2]) (ys := [.ref a, .ref b]) (by wtm_at "mem") (by wtm_at "mem") (.cons (.list (by wtm_at "mem") (by wtm_at "mem") ((sms_rds R).le (by omega))) (.cons (.list (by wtm_at "mem") (by wtm_at "mem") (sms_prs P)) .nil)) (by decide) ?_
  repeat wtm_at "s"
  refine WE.callF (by wtm_at "mem") X.f_due ?_
  repeat wtm_at "s"
  refine sp_due X (hA'.le (by omega : n + 2 ≤ n + 5)) (m := m) (root := root) (R := R) (P := P) hR hP hPl (by wtm_at "mem") (by wtm_at "mem") fun c2 hc2 => ?_
  have hcc : c1 = c2 := Bool.eq_iff_iff.mpr (hc1.trans ((and_congr fits_iff Iff.rfl).trans hc2.symm))
  subst hcc
  refine W2.eqD hA' (.bool _) (.bool _) rfl rfl ?_
  have ev : PyData.eqv (.bool c1) (.bool c1) = true := by cases c1 <;> rfl
  rw [ev]
  exact ⟨_, List.Sublist.refl _, rfl⟩

theorem law_b (X : Fx C) {env : Env} (hA' : AOk (A.deeper env) (n + 5)) {ns : List Int} {m root : Int} {a b : Addr} {R : List Rd} {P : List Pr} {o1 o2 o3 o4 o5 : Option MV} (hl : ns.length ≤ 63) (hm : 2 ≤ m ∧ m ≤ 12) (hroot : 0 ≤ root ∧ root < m) (hR : R.length ≤ 60) (hok : ∀ r ∈ R, RdOk m r) (hP : P.length ≤ 9) (hPo : ∀ p ∈ P, PrOk p) (ha : (a, MO.list (R.map rdV)) ∈ H) (hb : (b, MO.list (P.map prV)) ∈ H) :
    WSs C (A.deeper env) env gsL (sgL ns m root b a o1 o2 o3 o4 o5 none none) H ((dd 27).body.drop 6) (Ret fun v _ => v = .bool true) := by
  have hC : AOk (A.deeper env) (n + 4 + 1) := hA'
  have hPl : ∀ p ∈ P, p.1.length ≤ 60 := fun p hp => by have := (hPo p hp).2.2; omega
  refine WSs.cons ?_
  repeat wtm_at "e"
  refine WE.cellC X hC hl (by wtm_at "mem") (by wtm_at "at") (by decide) ?_
  repeat wtm_at "e"
  refine if_eq (fun h => ?_) (fun h => ?_)
  · repeat wtm_at "e"
    refine if_d (fun h4 => ?_) (fun h4 => ?_)
    · repeat wtm_at "e"
      refine WSs.cons ?_
      repeat wtm_at "e"
      refine WE.cellC X hC hl (by wtm_at "mem") (by wtm_at "at") (by decide) ?_
      repeat wtm_at "e"
      refine seq_next ?_
      refine WSs.cons ?_
      repeat wtm_at "e"
      refine WE.callF (by wtm_at "mem") X.f_spoilt ?_
      repeat wtm_at "e"
      refine sp_spoilt X hC (P := P) (by omega) hPo hm hb fun D P' e1 e2 => ?_
      repeat wtm_at "e"
      refine seq_next (WSs.nil (seq_next ?_))
      exact law_c X hA' (by omega) hroot hR hok (by omega) e2 (by wtm_at "mem") (by wtm_at "mem")
    · repeat wtm_at "e"
      refine seq_next ?_
      exact law_c X hA' (by omega) hroot hR hok (by omega) hPl ha hb
  · repeat wtm_at "e"
    refine seq_next ?_
    exact law_c X hA' (by omega) hroot hR hok (by omega) hPl ha hb

theorem law_a (X : Fx C) {env : Env} (hA' : AOk (A.deeper env) (n + 5)) {ns : List Int} {m root : Int} {b : Addr} {P : List Pr} (hl : ns.length ≤ 63) (hm : 2 ≤ m ∧ m ≤ 12) (hroot : 0 ≤ root ∧ root < m) (hP : P.length ≤ 9) (hPo : ∀ p ∈ P, PrOk p) (hb : (b, MO.list (P.map prV)) ∈ H) :
    WSs C (A.deeper env) env gsL [("_law_script", some (.fl ns)), ("_law_many", some (.int m)), ("_law_root", some (.int root)), ("_law_prices", some (.ref b)), ("_law_roads", none), ("_law_cell", none), ("_law_start", none), ("_law_end", none), ("_law_more", none), ("_law_cost", none), ("_law_handed", none), ("_law_found", none)] H ((dd 27).body.drop 4) (Ret fun v _ => v = .bool true) := by
  have hC : AOk (A.deeper env) (n + 4 + 1) := hA'
  refine WSs.cons ?_
  repeat wtm_at "s"
  intro a _
  repeat wtm_at "s"
  refine WS.for (WI.of ?_)
  repeat wtm_at "e"
  refine ⟨_, .inr ⟨ns, rfl, rfl⟩, by rw [List.length_map]; simp [sizeLine]; omega, fun D1 hD1 => ?_⟩
  rw [sliceL_map]
  have hsl : (sliceL (some 16) (some 28) ns).length ≤ 12 := by simp [sliceL]; omega
  generalize sliceL (some 16) (some 28) ns = cs at hsl
  refine ItOf.list hA' (by wtm_at "mem") ?_
  refine for_intro (fun (i : Nat) (S : Sg) (H' : Hp) => ∃ (o1 o2 o3 o4 o5 : Option MV) (R : List Rd), S = sgL ns m root b a o1 o2 o3 o4 o5 none none ∧ ((D1, MO.list (cs.map .int)) :: (a, MO.list (R.map rdV)) :: H).Sublist H' ∧ R.length ≤ i ∧ ∀ r ∈ R, RdOk m r) ⟨none, none, none, none, none, [], rfl, List.Sublist.refl _, by simp, by simp⟩ ?_ ?_ ?_
  · rintro i S H' ⟨o1, o2, o3, o4, o5, R, rfl, hs, _⟩
    exact hs.subset List.mem_cons_self
  · rintro i x S H' hx ⟨o1, o2, o3, o4, o5, R, rfl, hs, hRl, hRo⟩
    obtain ⟨c, hc, rfl⟩ := get_map hx
    have hci := get_lt hc
    have s0 := Int.emod_nonneg c (by omega : m ≠ 0)
    have s1 := Int.emod_lt_of_pos c (by omega : 0 < m)
    have d0 := Int.emod_nonneg (c / m) (by omega : m - 1 ≠ 0)
    have d1 := Int.emod_lt_of_pos (c / m) (by omega : 0 < m - 1)
    refine WA.name (by wtm_at "put") ?_
    refine WSs.sub ?_ hs
    refine WSs.cons ?_
    repeat wtm_at "s"
    intro L _
    repeat wtm_at "e"
    refine W2.itemInts (xs := [0, 0, 1, 3]) List.mem_cons_self (by omega) (by simp only [List.length_cons, List.length_nil]; omega) (by omega) fun more hmore => ?_
    have hmore0 : 0 ≤ more := by
      simp only [List.mem_cons, List.mem_nil_iff, or_false] at hmore
      omega
    have hrd : ∀ cost : Int, 0 ≤ cost → RdOk m (c % m, (c % m + 1 + c / m % (m - 1)) % m, min cost (10 ^ 40 - 1)) := fun cost h0 => by
      have := road_at_ok s0 s1 (d := 1 + c / m % (m - 1)) (c := min cost (10 ^ 40 - 1)) (by omega) (by omega) ⟨by omega, by omega⟩
      rw [← Int.add_assoc] at this
      exact this
    generalize (c % m + 1 + c / m % (m - 1)) % m = en at hrd
    generalize c % m = stt at hrd
    have bn := borne_nonneg (s := stt) (e := en) fun p hp => (hPo p hp).1
    repeat wtm_at "e"
    refine seq_next (WSs.sub ?_ (List.sublist_cons_self _ _))
    refine WSs.cons ?_
    repeat wtm_at "e"
    refine WE.cellC X hC hl (by wtm_at "mem") (by wtm_at "at") (by decide) ?_
    repeat wtm_at "e"
    refine if_eq (fun h => ?g1) (fun h => ?g2)
    case' g1 =>
      refine WSs.cons ?_
      repeat wtm_at "e"
      refine WE.callB (by wtm_at "mem") X.g_max ?_
      refine WEs.cons (WE.neg ?_)
      repeat wtm_at "e"
      refine WE.callF (by wtm_at "mem") X.f_borne ?_
      repeat wtm_at "e"
      refine sp_borne X hC (P := P) (by omega) (by wtm_at "mem") ?_
      repeat wtm_at "e"
      refine WC.max2 hA' ?_
      have hmore1 : 0 ≤ (borneF stt en P).sum + max (-1) (0 - (borneF stt en P).sum) := by omega
      generalize max (-1) (0 - (borneF stt en P).sum) = more2 at hmore1
      repeat wtm_at "s"
    case' g2 =>
      have hmore1 : 0 ≤ (borneF stt en P).sum + more := by omega
      repeat wtm_at "s"
    all_goals
      refine WE.callF (by wtm_at "mem") X.f_borne ?_
      repeat wtm_at "s"
      refine sp_borne X hC (P := P) (by omega) (by wtm_at "mem") ?_
      repeat wtm_at "s"
      refine WE.append ?_
      repeat wtm_at "s"
      refine ⟨a, _, rfl, by wtm_at "mem", ?_⟩
      repeat wtm_at "s"
      refine WE.callB (by wtm_at "mem") X.g_min ?_
      repeat wtm_at "s"
      refine W2.powL (r := 10 ^ 40) (by omega) (by decide) (by rfl) ?_
      repeat wtm_at "s"
      refine WC.min2 hA' ?_
      repeat wtm_at "s"
      refine ⟨_, _, by wtm_at "mem", by wtm_at "upd", by simp [sizeLine]; omega, rfl, ?_⟩
      have ok := hrd _ hmore1
      repeat wtm_at "s"
      refine ⟨_, _, _, _, _, R ++ [(stt, en, min ((borneF stt en P).sum + _) (10 ^ 40 - 1))], rfl, by rw [List.map_append]; exact List.Sublist.refl _, by simp; omega, fun r hr => ?_⟩
      rcases List.mem_append.mp hr with h1 | h1
      · exact hRo r h1
      · rw [List.mem_singleton.mp h1]; exact ok
  · rintro S H' ⟨o1, o2, o3, o4, o5, R, rfl, hs, hRl, hRo⟩
    rw [List.length_map] at hRl
    refine seq_next (WSs.sub ?_ hs)
    exact WSs.sub (law_b X hA' hl hm hroot (by omega) hRo hP hPo (by wtm_at "mem") (by wtm_at "mem")) (List.sublist_cons_self _ _)

theorem sp_law (X : Fx C) (hA : AOk A (n + 6)) {ns : List Int} (hl : ns.length ≤ 63) (hb : ∀ x ∈ ns, Bd x) : WF C A [] "law" [.fl ns] fun v _ => v = .bool true := by
  refine WF.intro X.f_law hA ["_law_script"] ["_law_many", "_law_root", "_law_prices", "_law_roads", "_law_cell", "_law_start", "_law_end", "_law_more", "_law_cost", "_law_handed", "_law_found"] gsL []
    [("_law_script", some (.fl ns)), ("_law_many", none), ("_law_root", none), ("_law_prices", none), ("_law_roads", none), ("_law_cell", none), ("_law_start", none), ("_law_end", none), ("_law_more", none), ("_law_cost", none), ("_law_handed", none), ("_law_found", none)] (by decide +kernel) rfl (by wtm_at "bind") rfl ?_
  intro env hA' K
  have hC : AOk (A.deeper env) (n + 4 + 1) := hA'
  have fin : ∀ m : Int, 2 ≤ m ∧ m ≤ 12 → WSs C (A.deeper env) env gsL [("_law_script", some (.fl ns)), ("_law_many", some (.int m)), ("_law_root", none), ("_law_prices", none), ("_law_roads", none), ("_law_cell", none), ("_law_start", none), ("_law_end", none), ("_law_more", none), ("_law_cost", none), ("_law_handed", none), ("_law_found", none)] [] ((dd 27).body.drop 2) (Ret fun v _ => v = .bool true) := by
    intro m hm
    have h0 := Int.emod_nonneg (cellF ns 1) (by omega : m ≠ 0)
    have h1 := Int.emod_lt_of_pos (cellF ns 1) (by omega : 0 < m)
    refine WSs.cons ?_
    repeat wtm_at "s"
    refine WE.cellC X hC hl (by wtm_at "mem") (by wtm_at "at") (by decide) ?_
    repeat wtm_at "s"
    generalize cellF ns 1 % m = root at h0 h1
    refine WE.callF (by wtm_at "mem") X.f_pairs ?_
    repeat wtm_at "s"
    refine sp_pairs X (hA'.le (by omega : n + 2 ≤ n + 5)) hl hb hm fun F P hP hPo => ?_
    repeat wtm_at "e"
    exact seq_next (law_a X hA' hl hm ⟨h0, h1⟩ hP hPo (by wtm_at "mem"))
  refine WSs.cons ?_
  repeat wtm_at "s"
  refine WE.cellC X hC hl (by wtm_at "mem") (by wtm_at "at") (by decide) ?_
  repeat wtm_at "s"
  refine WE.cellC X hC hl (by wtm_at "mem") (by wtm_at "at") (by decide) ?_
  repeat wtm_at "s"
  refine if_eq (fun h => ?_) (fun h => ?_)
  · refine WSs.cons ?_
    repeat wtm_at "e"
    refine WE.cellC X hC hl (by wtm_at "mem") (by wtm_at "at") (by decide) ?_
    repeat wtm_at "e"
    refine seq_next (WSs.nil (seq_next ?_))
    exact fin _ (by omega)
  · refine WSs.nil (seq_next ?_)
    exact fin _ (by omega)
end
theorem weight_mem : ∀ {ns : List Int} {x : Int}, x ∈ ns → Builtin.Int.intBits x ≤ PyData.weightAll (ns.map .int)
  | y :: ns, x, h => by
    simp only [List.map_cons, PyData.weightAll, PyData.weight]
    rcases List.mem_cons.mp h with rfl | h
    · show (if (x == 0) = true then 0 else _) ≤ _
      omega
    · have := weight_mem h
      omega
theorem bd_of_layable {ns : List Int} (h : (PyData.list (ns.map PyData.int)).layable0 = true) : ∀ x ∈ ns, Bd x := fun x hx => by
  have h1 := weight_mem hx
  have h2 : PyData.weight (.list (ns.map .int)) ≤ 2 ^ 20 := of_decide_eq_true (Bool.and_eq_true_iff.mp h).2
  simp only [PyData.weight] at h2
  unfold Bd
  omega
theorem len_of {ns : List Int} (h : ¬ ((63 : Nat) : Int) < (ns.length : Int)) : ns.length ≤ 63 := by omega
end Mine
open PySem PySem.W PyProof.Rows Mine
set_option maxRecDepth 100000 in
set_option maxHeartbeats 8000000 in
theorem PySem.Challenge.cw_uf050005_07_holds : PySem.Challenge.rw_uf050005_07.Holds := by
  w_on; o_law; z_head; (case hw => w_witness2)
  intro w s₀ s₁ mg mb G y fa o pm cd doc dV kV ho hd hcd hD hmg hg args vals as hLaid hpre hlay hrd hwl hlo
  clear hd hcd hD y hLaid
  refine Ground.open G ?_
  intro T B D TE TW
  wrow_args hpre hlay hrd hwl hlo
  refine law_end (T := T) (by assumption) (by assumption) hg hmg ?_
  refine sp_law (n := 0) ⟨fn_of T (d := dd 8) (List.mem_of_getElem? (i := 0) (by kernel_rfl)) (by decide +kernel),
    fn_of T (d := dd 9) (List.mem_of_getElem? (i := 1) (by kernel_rfl)) (by decide +kernel),
    fn_of T (d := dd 10) (List.mem_of_getElem? (i := 2) (by kernel_rfl)) (by decide +kernel),
    fn_of T (d := dd 11) (List.mem_of_getElem? (i := 3) (by kernel_rfl)) (by decide +kernel),
    fn_of T (d := dd 12) (List.mem_of_getElem? (i := 4) (by kernel_rfl)) (by decide +kernel),
    fn_of T (d := dd 14) (List.mem_of_getElem? (i := 5) (by kernel_rfl)) (by decide +kernel),
    fn_of T (d := dd 15) (List.mem_of_getElem? (i := 6) (by kernel_rfl)) (by decide +kernel),
    fn_of T (d := dd 16) (List.mem_of_getElem? (i := 7) (by kernel_rfl)) (by decide +kernel),
    fn_of T (d := dd 17) (List.mem_of_getElem? (i := 8) (by kernel_rfl)) (by decide +kernel),
    fn_of T (d := dd 19) (List.mem_of_getElem? (i := 9) (by kernel_rfl)) (by decide +kernel),
    fn_of T (d := dd 20) (List.mem_of_getElem? (i := 10) (by kernel_rfl)) (by decide +kernel),
    fn_of T (d := dd 21) (List.mem_of_getElem? (i := 11) (by kernel_rfl)) (by decide +kernel),
    fn_of T (d := dd 22) (List.mem_of_getElem? (i := 12) (by kernel_rfl)) (by decide +kernel),
    fn_of T (d := dd 23) (List.mem_of_getElem? (i := 13) (by kernel_rfl)) (by decide +kernel),
    fn_of T (d := dd 24) (List.mem_of_getElem? (i := 14) (by kernel_rfl)) (by decide +kernel),
    fn_of T (d := dd 25) (List.mem_of_getElem? (i := 15) (by kernel_rfl)) (by decide +kernel),
    fn_of T (d := dd 26) (List.mem_of_getElem? (i := 16) (by kernel_rfl)) (by decide +kernel),
    fn_of T (d := dd 27) (List.mem_of_getElem? (i := 17) (by kernel_rfl)) (by decide +kernel),
    const_of T (by kernel_rfl),
    const_of T (by kernel_rfl),
    const_of T (by kernel_rfl),
    gl_of T (by decide +kernel) (by kernel_rfl),
    gl_of T (by decide +kernel) (by kernel_rfl),
    gl_of T (by decide +kernel) (by kernel_rfl),
    gl_of T (by decide +kernel) (by kernel_rfl),
    gl_of T (by decide +kernel) (by kernel_rfl),
    gl_of T (by decide +kernel) (by kernel_rfl),
    gl_of T (by decide +kernel) (by kernel_rfl),
    gl_of T (by decide +kernel) (by kernel_rfl),
    gl_of T (by decide +kernel) (by kernel_rfl),
    gl_of T (by decide +kernel) (by kernel_rfl),
    gl_of T (by decide +kernel) (by kernel_rfl)⟩ (aok_caller.le (by decide)) (len_of (by assumption)) (bd_of_layable (by assumption))
