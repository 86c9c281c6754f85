import PyProof.Rows.All
import Wide.All
import OpenK.AllK
import Wide.FinOn
import HandS.ForMost
import HandS.ForExc
import HandS.CallSlots
import KE.KDictKeyed
import KE.KDictCopyH
import KE.DataEq
import KE.DataCmp
import KE.DataMinMax
import KE.SortData
import HandS.TupAny
import HandS.Style
import HandS.IsInst
import HandS.Codes
import HandS.TupMul
import HandS.ExcInit
import KE.GoesNew
import HandS.Walk
import HandS.WordsExc
import HandS.TryMany
import HandS.ExcField
import HandS.ExcIs
import HandS.ExcOwn
import KE.KExcIs
import HandS.Defaults
import HandS.Head0
import HandS.Head1
import HandS.Head2
import HandS.HeadEnd
import HandS.HeadHook1
import HandS.HeadHook2
import HandS.HeadHook3
import HandS.HeadHook4
import PySem.Challenge.RW_surepast_k72_tokens_of_texts
set_option Elab.async false
set_option linter.all false
set_option maxRecDepth 100000
set_option maxHeartbeats 1000000
/-! PpA: plain data, environments, arenas; what they stand for in the abstract heap of the hand layer; the judgments. -/
namespace Pp
open PySem PySem.Spec PyProof.Rows L2

/-! ### data -/
inductive Dt where
  | non | bl (b : Bool) | int (i : Int) | str (x : Str) | tup (l : List Dt) | lst (l : List Dt) | dct (l : List (Dt × Dt)) | obj (j : Nat) | rng (lo hi : Int)
  /-- a list of somebody else's (the script) -/
  | fz (l : List Dt)
instance : Inhabited Dt := ⟨.non⟩
/-- a slot: a value that nothing changes any more, or a list or dict that this slot alone holds -/
inductive Sl where
  | val (d : Dt) | lst (l : List Dt) | dct (l : List (Dt × Dt))
instance : Inhabited Sl := ⟨.val .non⟩
/-- an object with an identity: a list, a dict that is shared, an instance -/
inductive Ob where
  | box (l : List Dt) | bdc (l : List (Dt × Dt)) | ins (c : Str) (fs : List (Str × Dt))
instance : Inhabited Ob := ⟨.box []⟩
abbrev Ev := List (Option Sl)
abbrev Ar := List Ob
/-- an exception: its class's name, its fields -/
structure Ex where
  cls : Str
  fs : List (Str × Dt)
inductive Rs (α : Type) where
  | ok (a : α) (A : Ar) | er (e : Ex) (A : Ar) | bad
def Rs.bind {α β : Type} (r : Rs α) (f : α → Ar → Rs β) : Rs β := match r with
  | .ok a A => f a A
  | .er e A => .er e A
  | .bad => .bad
inductive Fl where
  | nx (r : Ev) (A : Ar) | rt (s : Sl) (A : Ar) | bk (r : Ev) (A : Ar) | cn (r : Ev) (A : Ar) | er (e : Ex) (r : Ev) (A : Ar) | bad
abbrev DM (α : Type) := Ev → Ar → Rs α
abbrev DS := Ev → Ar → Fl

/-- keys -/
def leafDt : Leaf → Dt
  | .none => .non
  | .num i => .int i
  | .text x => .str x
mutual
def keyOf : Dt → Option NestedKey
  | .non => some .none
  | .int i => some (.num i)
  | .str x => some (.text x)
  | .tup l => (keysOf l).map .tup
  | _ => none
def keysOf : List Dt → Option (List NestedKey)
  | [] => some []
  | d :: l => match keyOf d, keysOf l with
    | some k, some ks => some (k :: ks)
    | _, _ => none
end

/-- the program, the world, the written part, the module's names -/
structure Gx where
  P : Program
  w : World
  K : PySem.W.Frag
  mg : Str → Option Value
abbrev gx (X : Cx) : Gx := ⟨X.prog, X.w, X.K, X.mg⟩

/-! ### dicts in the abstract heap -/
def dLeaf (g : Gx) (a : Addr) (kvs : List (Leaf × Value)) : HO := .ext fun h => (a == sysModules) = false ∧ h.DictOf (leafKind g.P g.w) a kvs
def dNest (g : Gx) (a : Addr) (xs : List (NestedKey × Addr × Value)) : HO := .ext fun h => (a == sysModules) = false ∧ (xs.map (·.1)).Nodup ∧
  ∃ o es ep, h.get? a = some o ∧ o.ExactDict ∧ o.data = .dict es ep ∧ es.toList = xs.map (entryOfKey (nestedKind g.P g.w))

mutual
inductive Rep (g : Gx) (F : Hp) (mu : Nat → Option Addr) : V → Dt → Prop
  | non : Rep g F mu .non .non
  | bl {b} : Rep g F mu (.bl b) (.bl b)
  | int {i} : Rep g F mu (.int i) (.int i)
  | str {x} : Rep g F mu (.str x) (.str x)
  | tup {a vs l} : SqT g.K F a vs → RepL g F mu vs l → Rep g F mu (.ref a) (.tup l)
  | lst {a vs l} : F a = some (.lst vs) → RepL g F mu vs l → Rep g F mu (.ref a) (.lst l)
  | fz {a vs l} : SqL g.K F a vs → RepL g F mu vs l → Rep g F mu (.ref a) (.fz l)
  | dctL {a kvs l} : F a = some (dLeaf g a kvs) → RepK g F mu kvs l → Rep g F mu (.ref a) (.dct l)
  | dctN {a xs l} : F a = some (dNest g a xs) → RepN g F mu xs l → Rep g F mu (.ref a) (.dct l)
  | obj {a j} : mu j = some a → Rep g F mu (.ref a) (.obj j)
  | rng {a lo hi} : F a = some (.rng lo hi) → Rep g F mu (.ref a) (.rng lo hi)
inductive RepL (g : Gx) (F : Hp) (mu : Nat → Option Addr) : List V → List Dt → Prop
  | nil : RepL g F mu [] []
  | cons {v d vs l} : Rep g F mu v d → RepL g F mu vs l → RepL g F mu (v :: vs) (d :: l)
inductive RepK (g : Gx) (F : Hp) (mu : Nat → Option Addr) : List (Leaf × Value) → List (Dt × Dt) → Prop
  | nil : RepK g F mu [] []
  | cons {k u v d kvs l} : RelV v u → Rep g F mu v d → RepK g F mu kvs l → RepK g F mu ((k, u) :: kvs) ((leafDt k, d) :: l)
inductive RepN (g : Gx) (F : Hp) (mu : Nat → Option Addr) : List (NestedKey × Addr × Value) → List (Dt × Dt) → Prop
  | nil : RepN g F mu [] []
  | cons {k b u v kd d xs l} : Rep g F mu (.ref b) kd → keyOf kd = some k → RelV v u → Rep g F mu v d → RepN g F mu xs l → RepN g F mu ((k, b, u) :: xs) ((kd, d) :: l)
end

section
variable {g : Gx} {F F' : Hp} {mu mu' : Nat → Option Addr}
theorem SqT.mono (s : Same F F') {a : Addr} {vs : List V} (h : SqT g.K F a vs) : SqT g.K F' a vs := by
  rcases h with (h | ⟨o, h⟩) | h
  · exact .inl (.inl (s _ _ h))
  · exact .inl (.inr ⟨o, s _ _ h⟩)
  · exact .inr h
mutual
theorem Rep.mono (s : Same F F') (m : ∀ j a, mu j = some a → mu' j = some a) : ∀ {v : V} {d : Dt}, Rep g F mu v d → Rep g F' mu' v d
  | _, _, .non => .non
  | _, _, .bl => .bl
  | _, _, .int => .int
  | _, _, .str => .str
  | _, _, .tup h r => .tup (SqT.mono s h) (RepL.mono s m r)
  | _, _, .lst h r => .lst (s _ _ h) (RepL.mono s m r)
  | _, _, .fz h r => .fz (s.seq h) (RepL.mono s m r)
  | _, _, .dctL h r => .dctL (s _ _ h) (RepK.mono s m r)
  | _, _, .dctN h r => .dctN (s _ _ h) (RepN.mono s m r)
  | _, _, .obj h => .obj (m _ _ h)
  | _, _, .rng h => .rng (s _ _ h)
theorem RepL.mono (s : Same F F') (m : ∀ j a, mu j = some a → mu' j = some a) : ∀ {vs : List V} {l : List Dt}, RepL g F mu vs l → RepL g F' mu' vs l
  | _, _, .nil => .nil
  | _, _, .cons h r => .cons (Rep.mono s m h) (RepL.mono s m r)
theorem RepK.mono (s : Same F F') (m : ∀ j a, mu j = some a → mu' j = some a) : ∀ {kvs : List (Leaf × Value)} {l : List (Dt × Dt)}, RepK g F mu kvs l → RepK g F' mu' kvs l
  | _, _, .nil => .nil
  | _, _, .cons e h r => .cons e (Rep.mono s m h) (RepK.mono s m r)
theorem RepN.mono (s : Same F F') (m : ∀ j a, mu j = some a → mu' j = some a) : ∀ {xs : List (NestedKey × Addr × Value)} {l : List (Dt × Dt)}, RepN g F mu xs l → RepN g F' mu' xs l
  | _, _, .nil => .nil
  | _, _, .cons e k r1 h r => .cons (Rep.mono s m e) k r1 (Rep.mono s m h) (RepN.mono s m r)
end
theorem RepL.length : ∀ {vs : List V} {l : List Dt}, RepL g F mu vs l → vs.length = l.length
  | _, _, .nil => rfl
  | _, _, .cons _ r => by rw [List.length_cons, List.length_cons, r.length]
theorem RepL.get : ∀ {vs : List V} {l : List Dt} {i : Nat} {d : Dt}, RepL g F mu vs l → l[i]? = some d → ∃ v, vs[i]? = some v ∧ Rep g F mu v d
  | _, _, _, _, .nil, e => by simp at e
  | _, _, 0, _, .cons h _, e => by simp at e; subst e; exact ⟨_, rfl, h⟩
  | _, _, i + 1, _, .cons _ r, e => by
    obtain ⟨v, h1, h2⟩ := r.get (i := i) (by simpa using e)
    exact ⟨v, by simpa using h1, h2⟩
theorem RepL.append : ∀ {vs ws : List V} {l m : List Dt}, RepL g F mu vs l → RepL g F mu ws m → RepL g F mu (vs ++ ws) (l ++ m)
  | _, _, _, _, .nil, s => s
  | _, _, _, _, .cons h r, s => .cons h (r.append s)
theorem RepL.snoc {vs : List V} {l : List Dt} {v : V} {d : Dt} (r : RepL g F mu vs l) (h : Rep g F mu v d) : RepL g F mu (vs ++ [v]) (l ++ [d]) := r.append (.cons h .nil)
theorem RepL.take : ∀ {vs : List V} {l : List Dt} (n : Nat), RepL g F mu vs l → RepL g F mu (vs.take n) (l.take n)
  | _, _, 0, _ => .nil
  | _, _, _ + 1, .nil => .nil
  | _, _, n + 1, .cons h r => .cons h (r.take n)
theorem RepL.drop : ∀ {vs : List V} {l : List Dt} (n : Nat), RepL g F mu vs l → RepL g F mu (vs.drop n) (l.drop n)
  | _, _, 0, r => r
  | _, _, _ + 1, .nil => .nil
  | _, _, n + 1, .cons _ r => r.drop n
theorem RepL.set {v : V} {d : Dt} (h : Rep g F mu v d) : ∀ {vs : List V} {l : List Dt} (i : Nat), RepL g F mu vs l → RepL g F mu (vs.set i v) (l.set i d)
  | _, _, _, .nil => .nil
  | _, _, 0, .cons _ r => .cons h r
  | _, _, i + 1, .cons h' r => .cons h' (r.set h i)
theorem RepL.reverse {vs : List V} {l : List Dt} (r : RepL g F mu vs l) : RepL g F mu vs.reverse l.reverse := by
  induction vs generalizing l with
  | nil => cases r; exact .nil
  | cons v vs ih => cases r with
    | cons h r => rw [List.reverse_cons, List.reverse_cons]; exact (ih r).snoc h
theorem RepL.dropLast {vs : List V} {l : List Dt} (r : RepL g F mu vs l) : RepL g F mu vs.dropLast l.dropLast := by
  rw [List.dropLast_eq_take, List.dropLast_eq_take, r.length]; exact r.take _
theorem RepL.ints : ∀ {vs : List V} {ns : List Int}, RepL g F mu vs (ns.map .int) → vs = ns.map .int
  | _, [], .nil => rfl
  | _, _ :: _, .cons h r => by cases h; rw [r.ints]; rfl
theorem RepL.of_ints : ∀ (ns : List Int), RepL g F mu (ns.map V.int) (ns.map .int)
  | [] => .nil
  | _ :: ns => .cons .int (of_ints ns)
end

/-! ### configurations -/
/-- who holds an object: a slot, the arena -/
inductive Ow where
  | sl (i : Nat) | ob (j : Nat)
  deriving DecidableEq
structure Cf where
  r : Ev
  A : Ar
  F : Hp
  Pr : Hp
  loc : Ow → Option Addr
abbrev Cf.mu (c : Cf) : Nat → Option Addr := fun j => c.loc (.ob j)
abbrev Cf.rep (g : Gx) (c : Cf) : V → Dt → Prop := Rep g c.F c.mu
abbrev Cf.repL (g : Gx) (c : Cf) : List V → List Dt → Prop := RepL g c.F c.mu

def DctOk (g : Gx) (c : Cf) (o : HO) (a : Addr) (l : List (Dt × Dt)) : Prop :=
  (∃ kvs, o = dLeaf g a kvs ∧ RepK g c.F c.mu kvs l) ∨ ∃ xs, o = dNest g a xs ∧ RepN g c.F c.mu xs l
/-- the slot's value v at the owner w -/
def SlOk (g : Gx) (c : Cf) (H : Hp) (w : Ow) (v : V) : Sl → Prop
  | .val d => c.rep g v d
  | .lst l => ∃ a vs, v = .ref a ∧ c.loc w = some a ∧ H a = some (.lst vs) ∧ c.repL g vs l
  | .dct l => ∃ a o, v = .ref a ∧ c.loc w = some a ∧ H a = some o ∧ DctOk g c o a l
def FsOk (g : Gx) (c : Cf) : List (Str × Dt) → List (Str × V) → Prop
  | [], [] => True
  | (f, d) :: r, (f', v) :: r' => f' = f ∧ c.rep g v d ∧ FsOk g c r r'
  | _, _ => False
def ObOk (g : Gx) (c : Cf) (H : Hp) (j : Nat) : Ob → Prop
  | .box l => ∃ a vs, c.loc (.ob j) = some a ∧ H a = some (.lst vs) ∧ c.repL g vs l
  | .bdc l => ∃ a o, c.loc (.ob j) = some a ∧ H a = some o ∧ DctOk g c o a l
  | .ins x fs => ∃ a C dx fs', c.loc (.ob j) = some a ∧ g.mg x = some (.ref C) ∧ H a = some (.ins C dx fs') ∧ FsOk g c fs fs'
structure Ok (g : Gx) (c : Cf) (σ : L2.St) (H : Hp) : Prop where
  fz : Same c.F H
  pr : Same c.Pr H
  fp : ∀ a o, c.F a = some o → c.Pr a = none
  inj : ∀ w w' a, c.loc w = some a → c.loc w' = some a → w = w'
  own : ∀ w a, c.loc w = some a → c.F a = none ∧ c.Pr a = none ∧ ∃ o, H a = some o
  new : ∀ j, c.A.length ≤ j → c.loc (.ob j) = none
  len : σ.length = c.r.length
  slots : ∀ i s, c.r[i]? = some (some s) → ∃ v, σ[i]? = some (some v) ∧ SlOk g c H (.sl i) v s
  objs : ∀ j o, c.A[j]? = some o → ObOk g c H j o
structure Ext (c c' : Cf) : Prop where
  F : Same c.F c'.F
  P : c'.Pr = c.Pr
  mu : ∀ j a, c.loc (.ob j) = some a → c'.loc (.ob j) = some a
theorem Ext.refl (c : Cf) : Ext c c := ⟨Same.refl _, rfl, fun _ _ h => h⟩
theorem Ext.trans {c c1 c2 : Cf} (a : Ext c c1) (b : Ext c1 c2) : Ext c c2 := ⟨a.F.trans b.F, b.P.trans a.P, fun j x h => b.mu j x (a.mu j x h)⟩
theorem Ext.rep {g : Gx} {c c' : Cf} (e : Ext c c') {v : V} {d : Dt} (h : c.rep g v d) : c'.rep g v d := h.mono e.F e.mu
theorem Ext.repL {g : Gx} {c c' : Cf} (e : Ext c c') {vs : List V} {l : List Dt} (h : c.repL g vs l) : c'.repL g vs l := h.mono e.F e.mu

/-- a value just made, that nobody holds -/
def Fresh (g : Gx) (c : Cf) (H : Hp) (v : V) : Sl → Prop
  | .val d => c.rep g v d
  | .lst l => ∃ a vs, v = .ref a ∧ H a = some (.lst vs) ∧ c.repL g vs l ∧ c.F a = none ∧ c.Pr a = none ∧ ∀ w, c.loc w ≠ some a
  | .dct l => ∃ a o, v = .ref a ∧ H a = some o ∧ DctOk g c o a l ∧ c.F a = none ∧ c.Pr a = none ∧ ∀ w, c.loc w ≠ some a
/-- an exception on its way -/
def ExOk (g : Gx) (c : Cf) (e : Ex) (cls : Value) (d : Option Addr) : Prop :=
  ∃ C dd fs, g.mg e.cls = some (.ref C) ∧ cls = .ref C ∧ d = some dd ∧ c.F dd = some (.xd fs) ∧ ∀ f x, e.fs.lookup f = some x → ∃ v, fs.lookup f = some v ∧ c.rep g v x
theorem Ext.ex {g : Gx} {c c' : Cf} (x : Ext c c') {e : Ex} {cls : Value} {d : Option Addr} (h : ExOk g c e cls d) : ExOk g c' e cls d := by
  obtain ⟨C, dd, fs, h1, h2, h3, h4, h5⟩ := h
  exact ⟨C, dd, fs, h1, h2, h3, x.F _ _ h4, fun f y hy => let ⟨v, a, b⟩ := h5 f y hy; ⟨v, a, x.rep b⟩⟩

/-! ### what is wanted behind a denotation -/
section
variable {α β : Type}
def Post (g : Gx) (R : Cf → L2.St → Hp → β → α → Prop) (W : WX) (c : Cf) (σ : L2.St) (r : Rs α) (Q : β → Hp → Prop) : Prop := match r with
  | .ok a A => ∀ c' b H', Ext c c' → c'.r = c.r → c'.A = A → Ok g c' σ H' → R c' σ H' b a → Q b H'
  | .er e A => ∀ c' cls d H', Ext c c' → c'.r = c.r → c'.A = A → Ok g c' σ H' → ExOk g c' e cls d → W cls d σ H'
  | .bad => False
def tM (g : Gx) (R : Cf → L2.St → Hp → β → α → Prop) (W : WX) (m : DM α) : L2.St → Hp → (β → Hp → Prop) → Prop := fun σ H Q => ∃ c, Ok g c σ H ∧ Post g R W c σ (m c.r c.A) Q
end
/-- how a value, a test's answer, a list of values, a fresh value stand -/
abbrev RV (g : Gx) : Cf → L2.St → Hp → V → Dt → Prop := fun c _ _ v d => c.rep g v d
abbrev RT : Cf → L2.St → Hp → Bool → Bool → Prop := fun _ _ _ b b' => b = b'
abbrev RA (g : Gx) : Cf → L2.St → Hp → List V → List Dt → Prop := fun c _ _ vs l => c.repL g vs l
abbrev RS (g : Gx) : Cf → L2.St → Hp → V → Sl → Prop := fun c _ H v s => Fresh g c H v s
/-- a value that is only looked at: as it stands from now on, or the list or dict of a slot -/
def RP (g : Gx) (c : Cf) (σ : L2.St) (_ : Hp) (v : V) (d : Dt) : Prop := c.rep g v d ∨ (∃ (i : Nat) (l : List Dt), d = .lst l ∧ c.r[i]? = some (some (Sl.lst l)) ∧ σ[i]? = some (some v)) ∨ ∃ (i : Nat) (l : List (Dt × Dt)), d = .dct l ∧ c.r[i]? = some (some (Sl.dct l)) ∧ σ[i]? = some (some v)
/-- arguments that are only looked at -/
inductive RPs (g : Gx) (c : Cf) (σ : L2.St) (H : Hp) : List V → List Dt → Prop
  | nil : RPs g c σ H [] []
  | cons {v d vs l} : RP g c σ H v d → RPs g c σ H vs l → RPs g c σ H (v :: vs) (d :: l)
abbrev tE (g : Gx) (W : WX) (m : DM Dt) : TE := tM g (RV g) W m
abbrev tF (g : Gx) (W : WX) (m : DM Sl) : TE := tM g (RS g) W m
abbrev tT (g : Gx) (W : WX) (m : DM Bool) : TT := tM g RT W m
abbrev tA (g : Gx) (W : WX) (m : DM (List Dt)) : TA := tM g (RA g) W m
abbrev tP (g : Gx) (W : WX) (m : DM Dt) : TE := tM g (RP g) W m
abbrev tPs (g : Gx) (W : WX) (m : DM (List Dt)) : TA := tM g (RPs g) W m
/-- the judgments: an expression, one that makes a fresh value, a test, arguments -/
structure PD (X : Cx) (W : WX) (e : Expr) (m : DM Dt) : Prop where
  pe : PE X e (tE (gx X) W m)
structure PF (X : Cx) (W : WX) (e : Expr) (m : DM Sl) : Prop where
  pe : PE X e (tF (gx X) W m)
structure PB (X : Cx) (W : WX) (e : Expr) (m : DM Bool) : Prop where
  pt : PT X e (tT (gx X) W m)
/-- an expression that is only looked at; such arguments -/
structure PK (X : Cx) (W : WX) (e : Expr) (m : DM Dt) : Prop where
  pe : PE X e (tP (gx X) W m)
structure PKs (X : Cx) (W : WX) (es : List Expr) (m : DM (List Dt)) : Prop where
  pa : PA X es (tPs (gx X) W m)
structure PL (X : Cx) (W : WX) (es : List Expr) (m : DM (List Dt)) : Prop where
  pa : PA X es (tA (gx X) W m)
def PostS (g : Gx) (W : WX) (D : Ends) (c : Cf) (r : Fl) : Prop := match r with
  | .nx r A => ∀ c' σ H', Ext c c' → c'.r = r → c'.A = A → Ok g c' σ H' → D.nx σ H'
  | .bk r A => ∀ c' σ H', Ext c c' → c'.r = r → c'.A = A → Ok g c' σ H' → D.bk σ H'
  | .cn r A => ∀ c' σ H', Ext c c' → c'.r = r → c'.A = A → Ok g c' σ H' → D.ct σ H'
  | .rt s A => ∀ c' v H', Ext c c' → c'.r = [] → c'.A = A → Ok g c' [] H' → Fresh g c' H' v s → D.rt v H'
  | .er e r A => ∀ c' cls d σ H', Ext c c' → c'.r = r → c'.A = A → Ok g c' σ H' → ExOk g c' e cls d → W cls d σ H'
  | .bad => False
def tS (g : Gx) (W : WX) (m : DS) : TS := fun D σ H => ∃ c, Ok g c σ H ∧ PostS g W D c (m c.r c.A)
structure PS1 (X : Cx) (W : WX) (s : Stmt) (m : DS) : Prop where
  ps : PS X s (tS (gx X) W m)
structure PSL (X : Cx) (W : WX) (s : List Stmt) (m : DS) : Prop where
  pss : PSs X s (tS (gx X) W m)

/-! ### the calculus of Post -/
section
variable {α β α2 β2 : Type} {g : Gx} {R : Cf → L2.St → Hp → β → α → Prop} {R2 : Cf → L2.St → Hp → β2 → α2 → Prop} {W : WX} {c c' : Cf} {σ : L2.St}
theorem Post.ext {r : Rs α} {Q : β → Hp → Prop} (x : Ext c c') (hr : c'.r = c.r) (h : Post g R W c σ r Q) : Post g R W c' σ r Q := by
  cases r with
  | ok a A => exact fun c2 b H' e h1 h2 => h c2 b H' (x.trans e) (h1.trans hr) h2
  | er e A => exact fun c2 cls d H' e h1 h2 => h c2 cls d H' (x.trans e) (h1.trans hr) h2
  | bad => exact h
theorem Post.bind {r : Rs α} {f : α → Ar → Rs α2} {Q : β2 → Hp → Prop} (h : Post g R2 W c σ (r.bind f) Q) :
    Post g R W c σ r (fun b H' => ∃ c' a, Ext c c' ∧ c'.r = c.r ∧ Ok g c' σ H' ∧ R c' σ H' b a ∧ Post g R2 W c' σ (f a c'.A) Q) := by
  cases r with
  | ok a A =>
    intro c' b H' e h1 h2 ok rr
    refine ⟨c', a, e, h1, ok, rr, ?_⟩
    have h' : Post g R2 W c σ (f a A) Q := h
    rw [← h2] at h'
    exact h'.ext e h1
  | er e A => exact h
  | bad => exact h
theorem Post.mono {r : Rs α} {Q Q' : β → Hp → Prop} (h : Post g R W c σ r Q) (k : ∀ b H, Q b H → Q' b H) : Post g R W c σ r Q' := by
  cases r with
  | ok a A => exact fun c2 b H' e h1 h2 o r => k _ _ (h c2 b H' e h1 h2 o r)
  | er e A => exact h
  | bad => exact h
theorem Post.ok {a : α} {Q : β → Hp → Prop} {b : β} {H : Hp} (h : Post g R W c σ (.ok a c.A) Q) (o : Ok g c σ H) (r : R c σ H b a) : Q b H := h c b H (Ext.refl c) rfl rfl o r
end
section
variable {X : Cx} {t t' : TE}
theorem _root_.L2.PE.weak {e : Expr} (h : PE X e t) (w : ∀ σ H Q, t' σ H Q → t σ H Q) : PE X e t' := ⟨fun pins s σ H Q I q => h.run pins s σ H Q I (w _ _ _ q)⟩
theorem _root_.L2.PT.weak {e : Expr} {t t' : TT} (h : PT X e t) (w : ∀ σ H Q, t' σ H Q → t σ H Q) : PT X e t' := ⟨fun pins s σ H Q I q => h.run pins s σ H Q I (w _ _ _ q)⟩
theorem _root_.L2.PA.weak {es : List Expr} {t t' : TA} (h : PA X es t) (w : ∀ σ H Q, t' σ H Q → t σ H Q) : PA X es t' := ⟨fun pos pins s σ H Q I q => h.run pos pins s σ H Q I (w _ _ _ q)⟩
theorem _root_.L2.PS.weak {s : Stmt} {t t' : TS} (h : PS X s t) (w : ∀ D σ H, t' D σ H → t D σ H) : PS X s t' := ⟨fun pins s σ H D I q => h.run pins s σ H D I (w _ _ _ q)⟩
theorem _root_.L2.PSs.weak {s : List Stmt} {t t' : TS} (h : PSs X s t) (w : ∀ D σ H, t' D σ H → t D σ H) : PSs X s t' := ⟨fun pins s σ H D I q => h.run pins s σ H D I (w _ _ _ q)⟩
end

/-! ### changes of a configuration -/
section
variable {g : Gx} {c c' : Cf} {σ : L2.St} {H H' : Hp}
theorem SlOk.imp {w : Ow} {v : V} {s : Sl} (h : SlOk g c H w v s) (x : Ext c c') (hl : ∀ a, c.loc w = some a → c'.loc w = some a ∧ H' a = H a) : SlOk g c' H' w v s := by
  cases s with
  | val d => exact x.rep h
  | lst l =>
    obtain ⟨a, vs, h1, h2, h3, h4⟩ := h
    exact ⟨a, vs, h1, (hl a h2).1, by rw [(hl a h2).2]; exact h3, x.repL h4⟩
  | dct l =>
    obtain ⟨a, o, h1, h2, h3, h4⟩ := h
    refine ⟨a, o, h1, (hl a h2).1, by rw [(hl a h2).2]; exact h3, ?_⟩
    rcases h4 with ⟨kvs, e, r⟩ | ⟨xs, e, r⟩
    · exact .inl ⟨kvs, e, r.mono x.F x.mu⟩
    · exact .inr ⟨xs, e, r.mono x.F x.mu⟩
theorem FsOk.imp : ∀ {fs : List (Str × Dt)} {fs' : List (Str × V)}, FsOk g c fs fs' → Ext c c' → FsOk g c' fs fs'
  | [], [], _, _ => trivial
  | (f, s) :: r, (f', v) :: r', h, x => ⟨h.1, x.rep h.2.1, h.2.2.imp x⟩
  | [], _ :: _, h, _ => h.elim
  | _ :: _, [], h, _ => h.elim
theorem DctOk.imp {o : HO} {a : Addr} {l : List (Dt × Dt)} (h : DctOk g c o a l) (x : Ext c c') : DctOk g c' o a l := by
  rcases h with ⟨kvs, e, r⟩ | ⟨xs, e, r⟩
  · exact .inl ⟨kvs, e, r.mono x.F x.mu⟩
  · exact .inr ⟨xs, e, r.mono x.F x.mu⟩
theorem ObOk.imp {j : Nat} {o : Ob} (h : ObOk g c H j o) (x : Ext c c') (hl : ∀ a, c.loc (.ob j) = some a → c'.loc (.ob j) = some a ∧ H' a = H a) : ObOk g c' H' j o := by
  cases o with
  | box l =>
    obtain ⟨a, vs, h2, h3, h4⟩ := h
    exact ⟨a, vs, (hl a h2).1, by rw [(hl a h2).2]; exact h3, x.repL h4⟩
  | bdc l =>
    obtain ⟨a, o, h2, h3, h4⟩ := h
    exact ⟨a, o, (hl a h2).1, by rw [(hl a h2).2]; exact h3, h4.imp x⟩
  | ins y fs =>
    obtain ⟨a, C, dx, fs', h2, h3, h4, h5⟩ := h
    exact ⟨a, C, dx, fs', (hl a h2).1, h3, by rw [(hl a h2).2]; exact h4, h5.imp x⟩
/-- a new object is made and kept as it is -/
theorem Ok.laid {p : Addr} {o : HO} (h : Ok g c σ H) (hp : H p = none) : Ok g { c with F := upd c.F p o } σ (upd H p o) ∧ Ext c { c with F := upd c.F p o } := by
  have nf : c.F p = none := h.fz.free hp
  have np : c.Pr p = none := h.pr.free hp
  have nl : ∀ w a, c.loc w = some a → a ≠ p := fun w a e z => by
    obtain ⟨_, _, o, ho⟩ := h.own w a e
    rw [z, hp] at ho; cases ho
  have x : Ext c { c with F := upd c.F p o } := ⟨fun b u e => by
    show upd c.F p o b = some u
    rw [upd_ne (ne_of_none e nf)]; exact e, rfl, fun _ _ e => e⟩
  refine ⟨⟨fun b u e => ?_, fun b u e => ?_, fun b u e => ?_, h.inj, fun w a e => ?_, h.new, h.len, fun i s e => ?_, fun j ob e => ?_⟩, x⟩
  · by_cases hb : b = p
    · subst hb; have e' : upd c.F b o b = some u := e; rw [upd_same] at e'; rw [upd_same]; exact e'
    · have e' : upd c.F p o b = some u := e; rw [upd_ne hb] at e'; rw [upd_ne hb]; exact h.fz _ _ e'
  · rw [upd_ne (ne_of_none e np)]; exact h.pr _ _ e
  · by_cases hb : b = p
    · subst hb; exact np
    · have e' : upd c.F p o b = some u := e; rw [upd_ne hb] at e'; exact h.fp _ _ e'
  · obtain ⟨h1, h2, u, h3⟩ := h.own w a e
    refine ⟨?_, h2, u, by rw [upd_ne (nl w a e)]; exact h3⟩
    show upd c.F p o a = none
    rw [upd_ne (nl w a e)]; exact h1
  · obtain ⟨v, e1, e2⟩ := h.slots i s e
    exact ⟨v, e1, e2.imp x fun a ea => ⟨ea, upd_ne (nl _ a ea)⟩⟩
  · exact (h.objs j ob e).imp x fun a ea => ⟨ea, upd_ne (nl _ a ea)⟩
/-- a new object that nobody holds yet -/
theorem Ok.made {p : Addr} {o : HO} (h : Ok g c σ H) (hp : H p = none) : Ok g c σ (upd H p o) ∧ c.F p = none ∧ c.Pr p = none ∧ ∀ w, c.loc w ≠ some p := by
  have nf : c.F p = none := h.fz.free hp
  have np : c.Pr p = none := h.pr.free hp
  have nl : ∀ w a, c.loc w = some a → a ≠ p := fun w a e z => by
    obtain ⟨_, _, o, ho⟩ := h.own w a e
    rw [z, hp] at ho; cases ho
  refine ⟨⟨fun b u e => ?_, fun b u e => ?_, h.fp, h.inj, fun w a e => ?_, h.new, h.len, fun i s e => ?_, fun j ob e => ?_⟩, nf, np, fun w e => nl w p e rfl⟩
  · rw [upd_ne (ne_of_none e nf)]; exact h.fz _ _ e
  · rw [upd_ne (ne_of_none e np)]; exact h.pr _ _ e
  · obtain ⟨h1, h2, u, h3⟩ := h.own w a e
    exact ⟨h1, h2, u, by rw [upd_ne (nl w a e)]; exact h3⟩
  · obtain ⟨v, e1, e2⟩ := h.slots i s e
    exact ⟨v, e1, e2.imp (Ext.refl c) fun a ea => ⟨ea, upd_ne (nl _ a ea)⟩⟩
  · exact (h.objs j ob e).imp (Ext.refl c) fun a ea => ⟨ea, upd_ne (nl _ a ea)⟩
/-- what nobody holds is kept as it is from now on -/
theorem Ok.froze {p : Addr} {o : HO} (h : Ok g c σ H) (hp : H p = some o) (nf : c.F p = none) (np : c.Pr p = none) (nl : ∀ w, c.loc w ≠ some p) : Ok g { c with F := upd c.F p o } σ H ∧ Ext c { c with F := upd c.F p o } := by
  have x : Ext c { c with F := upd c.F p o } := ⟨fun b u e => by
    show upd c.F p o b = some u
    rw [upd_ne (ne_of_none e nf)]; exact e, rfl, fun _ _ e => e⟩
  have na : ∀ w a, c.loc w = some a → a ≠ p := fun w a e z => nl w (z ▸ e)
  refine ⟨⟨fun b u e => ?_, h.pr, fun b u e => ?_, h.inj, fun w a e => ?_, h.new, h.len, fun i s e => ?_, fun j ob e => ?_⟩, x⟩
  · by_cases hb : b = p
    · subst hb; have e' : upd c.F b o b = some u := e; rw [upd_same] at e'; rw [← e']; exact hp
    · have e' : upd c.F p o b = some u := e; rw [upd_ne hb] at e'; exact h.fz _ _ e'
  · by_cases hb : b = p
    · subst hb; exact np
    · have e' : upd c.F p o b = some u := e; rw [upd_ne hb] at e'; exact h.fp _ _ e'
  · obtain ⟨h1, h2, u, h3⟩ := h.own w a e
    refine ⟨?_, h2, u, h3⟩
    show upd c.F p o a = none
    rw [upd_ne (na w a e)]; exact h1
  · obtain ⟨v, e1, e2⟩ := h.slots i s e
    exact ⟨v, e1, e2.imp x fun a ea => ⟨ea, rfl⟩⟩
  · exact (h.objs j ob e).imp x fun a ea => ⟨ea, rfl⟩
end
end Pp

set_option Elab.async false
set_option linter.all false
set_option maxRecDepth 100000
set_option maxHeartbeats 1000000
/-! PpB: expressions without objects of their own: names, numbers, comparisons, truth, tuples, items, slices. -/
namespace Pp
open PySem PySem.Spec PyProof.Rows L2
open PySem.W (alike dataLt)

/-! ### data as the library's data -/
mutual
def Dt.py : Dt → PyData
  | .non => .none
  | .bl b => .bool b
  | .int i => .int i
  | .str x => .str x
  | .tup l => .tuple (pyAll l)
  | .lst l => .list (pyAll l)
  | _ => .none
def pyAll : List Dt → List PyData
  | [] => []
  | d :: l => d.py :: pyAll l
end
mutual
/-- no dict, no object, nothing foreign, at most so deep -/
def Dt.pl : Nat → Dt → Bool
  | _, .non => true
  | _, .bl _ => true
  | _, .int _ => true
  | _, .str _ => true
  | n + 1, .tup l => plAll n l
  | n + 1, .lst l => plAll n l
  | _, _ => false
def plAll : Nat → List Dt → Bool
  | _, [] => true
  | n, d :: l => d.pl n && plAll n l
end
/-- data that may be compared -/
def Dt.good (d : Dt) : Bool := d.pl 20
theorem pyAll_map : ∀ l : List Dt, pyAll l = l.map Dt.py
  | [] => rfl
  | d :: l => by rw [pyAll, pyAll_map l]; rfl
theorem plAll_all (n : Nat) : ∀ l : List Dt, plAll n l = l.all (Dt.pl n)
  | [] => rfl
  | d :: l => by rw [plAll, plAll_all n l]; rfl
mutual
theorem Dt.pl_plain : ∀ (n : Nat) (d : Dt), d.pl n = true → d.py.plain = true ∧ d.py.depth ≤ n
  | _, .non, _ => ⟨rfl, Nat.zero_le _⟩
  | _, .bl _, _ => ⟨rfl, Nat.zero_le _⟩
  | _, .int _, _ => ⟨rfl, Nat.zero_le _⟩
  | _, .str _, _ => ⟨rfl, Nat.zero_le _⟩
  | n + 1, .tup l, h => by
    have ih := plAll_plain n l (by simpa [Dt.pl] using h)
    simp only [Dt.py, PyData.plain, PyData.depth]
    exact ⟨ih.1, Nat.succ_le_succ ih.2⟩
  | n + 1, .lst l, h => by
    have ih := plAll_plain n l (by simpa [Dt.pl] using h)
    simp only [Dt.py, PyData.plain, PyData.depth]
    exact ⟨ih.1, Nat.succ_le_succ ih.2⟩
  | 0, .tup l, h => by simp [Dt.pl] at h
  | 0, .lst l, h => by simp [Dt.pl] at h
  | _, .dct _, h => by simp [Dt.pl] at h
  | _, .obj _, h => by simp [Dt.pl] at h
  | _, .rng _ _, h => by simp [Dt.pl] at h
  | _, .fz _, h => by simp [Dt.pl] at h
theorem plAll_plain : ∀ (n : Nat) (l : List Dt), plAll n l = true → PyData.plainAll (pyAll l) = true ∧ PyData.depthAll (pyAll l) ≤ n
  | _, [], _ => ⟨rfl, Nat.zero_le _⟩
  | n, d :: l, h => by
    rw [plAll, Bool.and_eq_true] at h
    have h1 := Dt.pl_plain n d h.1
    have h2 := plAll_plain n l h.2
    simp only [pyAll, PyData.plainAll, PyData.depthAll, Bool.and_eq_true]
    exact ⟨⟨h1.1, h2.1⟩, Nat.max_le.mpr ⟨h1.2, h2.2⟩⟩
end
section
variable {g : Gx} {F : Hp} {mu : Nat → Option Addr}
mutual
theorem Rep.dp : ∀ (n : Nat) (d : Dt) {v : V}, Rep g F mu v d → d.pl n = true → Dp g.K F v d.py
  | _, .non, _, .non, _ => .non
  | _, .bl _, _, .bl, _ => .bl _
  | _, .int _, _, .int, _ => .int _
  | _, .str _, _, .str, _ => .str _
  | n + 1, .tup l, _, .tup h r, e => by rw [Dt.py]; exact .tup h (RepL.dp n l r (by simpa [Dt.pl] using e))
  | n + 1, .lst l, _, .lst h r, e => by rw [Dt.py]; exact .lst (SqL.of h) (RepL.dp n l r (by simpa [Dt.pl] using e))
  | 0, .tup l, _, _, h => by simp [Dt.pl] at h
  | 0, .lst l, _, _, h => by simp [Dt.pl] at h
  | _, .dct _, _, _, h => by simp [Dt.pl] at h
  | _, .obj _, _, _, h => by simp [Dt.pl] at h
  | _, .rng _ _, _, _, h => by simp [Dt.pl] at h
  | _, .fz _, _, _, h => by simp [Dt.pl] at h
theorem RepL.dp : ∀ (n : Nat) (l : List Dt) {vs : List V}, RepL g F mu vs l → plAll n l = true → DpAll g.K F vs (pyAll l)
  | _, [], _, .nil, _ => .nil
  | n, d :: l, _, .cons h r, e => by
    rw [plAll, Bool.and_eq_true] at e
    exact .cons (Rep.dp n d h e.1) (RepL.dp n l r e.2)
end
mutual
theorem Dp.mono {K : PySem.W.Frag} {H H' : Hp} (s : Same H H') : ∀ {v : V} {d : PyData}, Dp K H v d → Dp K H' v d
  | _, _, .non => .non
  | _, _, .bl _ => .bl _
  | _, _, .int _ => .int _
  | _, _, .str _ => .str _
  | _, _, .lst h r => .lst (s.seq h) (DpAll.mono s r)
  | _, _, .tup h r => .tup (by
    rcases h with (h | ⟨o, h⟩) | h
    · exact .inl (.inl (s _ _ h))
    · exact .inl (.inr ⟨o, s _ _ h⟩)
    · exact .inr h) (DpAll.mono s r)
theorem DpAll.mono {K : PySem.W.Frag} {H H' : Hp} (s : Same H H') : ∀ {vs : List V} {ds : List PyData}, DpAll K H vs ds → DpAll K H' vs ds
  | _, _, .nil => .nil
  | _, _, .cons h r => .cons (Dp.mono s h) (DpAll.mono s r)
end
/-- data that stand read as the library's data -/
theorem Ok.reads {X : Cx} {pins : List (Addr × Obj)} {σ : L2.St} {H : Hp} {s : Shared} {c : Cf} {v : V} {d : Dt} {u : Value} (o : Ok (gx X) c σ H) (I : Inv X pins σ H s) (h : c.rep (gx X) v d) (e : d.good = true) (r : RelV v u) : ∃ as, Reads s.heap u d.py as :=
  Dp.reads I _ _ _ (Dp.mono o.fz (Rep.dp 20 d h e)) r
end

/-! ### denotations of two operands -/
def mBin (f : Dt → Dt → Ar → Rs Dt) (a b : DM Dt) : DM Dt := fun r A => (a r A).bind fun x A => (b r A).bind fun y A => f x y A
def mUn (f : Dt → Ar → Rs Dt) (a : DM Dt) : DM Dt := fun r A => (a r A).bind fun x A => f x A
def mCmp (f : Dt → Dt → Ar → Rs Bool) (a b : DM Dt) : DM Bool := fun r A => (a r A).bind fun x A => (b r A).bind fun y A => f x y A
def mOfB (m : DM Bool) : DM Dt := fun r A => (m r A).bind fun b A => .ok (.bl b) A
section
variable {X : Cx} {W : WX} {a b : Expr} {ma mb : DM Dt} {pos : Pos} {α β : Type}
theorem one_weak {R : Cf → L2.St → Hp → β → α → Prop} {t : V → Hp → (β → Hp → Prop) → Prop} {F : Dt → Ar → Rs α}
    (hr : ∀ c σ H x dx Q, Ok (gx X) c σ H → c.rep (gx X) x dx → Post (gx X) R W c σ (F dx c.A) Q → t x H Q) :
    ∀ σ H Q, tM (gx X) R W (fun r A => (ma r A).bind fun x A => F x A) σ H Q → tE (gx X) W ma σ H fun x H1 => t x H1 Q := by
  rintro σ H Q ⟨c, ok, h⟩
  refine ⟨c, ok, (Post.bind (R := RV (gx X)) h).mono fun x H1 ⟨c1, dx, e1, r1, ok1, rx, h1⟩ => ?_⟩
  exact hr c1 σ H1 x dx Q ok1 rx h1
theorem two_weak {R : Cf → L2.St → Hp → β → α → Prop} {t : V → V → Hp → (β → Hp → Prop) → Prop} {F : Dt → Dt → Ar → Rs α}
    (hr : ∀ c σ H x y dx dy Q, Ok (gx X) c σ H → c.rep (gx X) x dx → c.rep (gx X) y dy → Post (gx X) R W c σ (F dx dy c.A) Q → t x y H Q) :
    ∀ σ H Q, tM (gx X) R W (fun r A => (ma r A).bind fun x A => (mb r A).bind fun y A => F x y A) σ H Q → tE (gx X) W ma σ H fun x H1 => tE (gx X) W mb σ H1 fun y H2 => t x y H2 Q := by
  rintro σ H Q ⟨c, ok, h⟩
  refine ⟨c, ok, (Post.bind (R := RV (gx X)) h).mono fun x H1 ⟨c1, dx, e1, r1, ok1, rx, h1⟩ => ⟨c1, ok1, ?_⟩⟩
  rw [r1]
  refine (Post.bind (R := RV (gx X)) h1).mono fun y H2 ⟨c2, dy, e2, r2, ok2, ry, h2⟩ => ?_
  exact hr c2 σ H2 x y dx dy Q ok2 (e2.rep rx) ry h2

/-- what an operator's rule r must grant for the denotation F -/
abbrev Grants (X : Cx) (W : WX) (r : R2) (F : Dt → Dt → Ar → Rs Dt) : Prop := ∀ c σ H x y dx dy Q, Ok (gx X) c σ H → c.rep (gx X) x dx → c.rep (gx X) y dy → Post (gx X) (RV (gx X)) W c σ (F dx dy c.A) Q → r x y H Q
abbrev GrantsB (X : Cx) (W : WX) (r : R2) (F : Dt → Dt → Ar → Rs Bool) : Prop := ∀ c σ H x y dx dy (Q : Bool → Hp → Prop), Ok (gx X) c σ H → c.rep (gx X) x dx → c.rep (gx X) y dy → Post (gx X) RT W c σ (F dx dy c.A) Q → r x y H fun v H' => ∃ k, v = .bl k ∧ Q k H'
theorem pd_bin {op : Operator} {r : R2} {F : Dt → Dt → Ar → Rs Dt} (ho : OpR X (binaryOp op) r) (hg : Grants X W r F) (ha : PD X W a ma) (hb : PD X W b mb) : PD X W (.BinOp a op b pos) (mBin F ma mb) :=
  ⟨(pe_op ho ha.pe hb.pe).weak (two_weak hg)⟩
theorem pd_un {op : UnaryOp} {r : V → Hp → VK → Prop} {F : Dt → Ar → Rs Dt} (ho : UnR X (unaryOp op) r) (hg : ∀ c σ H x dx Q, Ok (gx X) c σ H → c.rep (gx X) x dx → Post (gx X) (RV (gx X)) W c σ (F dx c.A) Q → r x H Q) (ha : PD X W a ma) : PD X W (.UnaryOp op a pos) (mUn F ma) :=
  ⟨(pe_un ho ha.pe).weak (one_weak hg)⟩
theorem pb_cmp {op : CmpOp} {r : R2} {F : Dt → Dt → Ar → Rs Bool} (ho : OpR X (compareOp op) r) (hg : GrantsB X W r F) (ha : PD X W a ma) (hb : PD X W b mb) (hm : behindInMarks op b = false) : PB X W (.Compare a [op] [b] pos) (mCmp F ma mb) :=
  ⟨(pt_cmpR ho ha.pe hb.pe hm).weak (two_weak hg)⟩
theorem Post.ofB {c : Cf} {σ : L2.St} {r : Rs Bool} {Q : VK} (h : Post (gx X) (RV (gx X)) W c σ (r.bind fun b A => .ok (.bl b) A) Q) : Post (gx X) RT W c σ r fun k H => Q (.bl k) H :=
  (Post.bind (R := RT) h).mono fun k H' ⟨c', d, e, e2, ok, er, h2⟩ => by
    cases er
    exact h2.ok ok .bl
theorem pd_cmp {op : CmpOp} {r : R2} {F : Dt → Dt → Ar → Rs Bool} (ho : OpR X (compareOp op) r) (hg : GrantsB X W r F) (hq : ∀ x y H Q Q', (∀ v H', Q v H' → Q' v H') → r x y H Q → r x y H Q') (ha : PD X W a ma) (hb : PD X W b mb) (hm : behindInMarks op b = false) :
    PD X W (.Compare a [op] [b] pos) (mOfB (mCmp F ma mb)) :=
  ⟨(pe_cmpR ho ha.pe hb.pe hm).weak fun σ H Q h => two_weak (R := RT) (t := fun x y H Q => r x y H fun v H' => ∃ k, v = .bl k ∧ Q k H') hg σ H (fun k H => Q (.bl k) H) (let ⟨c, ok, h⟩ := h; ⟨c, ok, h.ofB⟩) |> fun q => by
    refine (?_ : tE (gx X) W ma σ H _)
    obtain ⟨c, ok, q⟩ := q
    refine ⟨c, ok, q.mono fun x H1 ⟨c1, ok1, q1⟩ => ⟨c1, ok1, q1.mono fun y H2 q2 => hq _ _ _ _ _ (fun v H' ⟨k, e, q3⟩ => ?_) q2⟩⟩
    subst e
    exact q3⟩
end

/-! ### names, constants -/
def mVar (i : Nat) : DM Dt := fun r A => match r[i]? with
  | some (some (.val d)) => .ok d A
  | _ => .bad
def mC (d : Dt) : DM Dt := fun _ A => .ok d A
section
variable {X : Cx} {W : WX} {a b : Expr} {ma mb : DM Dt} {pos : Pos}
theorem pd_var {i : Nat} {x : Str} (hN : X.N[i]? = some x := by rfl) (hv : Vis X.env.scope x := by first | exact Or.inl rfl | exact Or.inr (Or.inl rfl) | exact Or.inr (Or.inr rfl)) (hd : (x == ("__debug__" : Str)) = false := by decide)
    (hcd : (x == ("__classdict__" : Str)) = false := by decide) : PD X W (.Name x pos) (mVar i) := by
  refine ⟨(pe_var hN hv hd hcd).weak fun σ H Q h => ?_⟩
  obtain ⟨c, ok, h⟩ := h
  unfold mVar at h
  split at h
  · rename_i d e
    obtain ⟨v, h1, h2⟩ := ok.slots i _ e
    exact ⟨v, h1, h.ok ok h2⟩
  · exact h.elim
theorem pd_int {i j} : PD X W (.Constant (.int i) j pos) (mC (.int i)) := ⟨pe_int.weak fun σ H Q ⟨c, ok, h⟩ => h.ok ok .int⟩
theorem pd_bl {i j} : PD X W (.Constant (.bool i) j pos) (mC (.bl i)) := ⟨pe_bl.weak fun σ H Q ⟨c, ok, h⟩ => h.ok ok .bl⟩
theorem pd_non {j} : PD X W (.Constant .none j pos) (mC .non) := ⟨pe_non.weak fun σ H Q ⟨c, ok, h⟩ => h.ok ok .non⟩
theorem pd_str {i j} : PD X W (.Constant (.str i) j pos) (mC (.str i)) := ⟨pe_str.weak fun σ H Q ⟨c, ok, h⟩ => h.ok ok .str⟩
/-- a constant of the module -/
theorem pd_glob {x : Str} {v : V} {d : Dt} (hg : Gl X x) (hm : ∃ u, X.mg x = some u ∧ RelV v u) (hr : ∀ F mu, Rep (gx X) F mu v d) (hd : (x == ("__debug__" : Str)) = false := by decide) : PD X W (.Name x pos) (mC d) := by
  obtain ⟨u, hm, r⟩ := hm
  exact ⟨(pe_glob hg hm r hd).weak fun σ H Q ⟨c, ok, h⟩ => h.ok ok (hr _ _)⟩

/-! ### numbers -/
def dAdd (x y : Dt) (A : Ar) : Rs Dt := match x, y with
  | .int i, .int j => .ok (.int (i + j)) A
  | .str i, .str j => if i.length + j.length ≤ sizeLine then .ok (.str (i ++ j)) A else .bad
  | .tup l, .tup m => if l.length + m.length ≤ sizeLine then .ok (.tup (l ++ m)) A else .bad
  | _, _ => .bad
def dSub (x y : Dt) (A : Ar) : Rs Dt := match x, y with
  | .int i, .int j => .ok (.int (i - j)) A
  | _, _ => .bad
def dMul (x y : Dt) (A : Ar) : Rs Dt := match x, y with
  | .int i, .int j => if (-(2 ^ 64) < i ∧ i < 2 ^ 64) ∨ (-(2 ^ 64) < j ∧ j < 2 ^ 64) then .ok (.int (i * j)) A else .bad
  | _, _ => .bad
def dMod (x y : Dt) (A : Ar) : Rs Dt := match x, y with
  | .int i, .int j => if 0 < j then .ok (.int (i % j)) A else .bad
  | _, _ => .bad
def dFdiv (x y : Dt) (A : Ar) : Rs Dt := match x, y with
  | .int i, .int j => if 0 < j ∧ j < 1073741824 then .ok (.int (i / j)) A else .bad
  | _, _ => .bad
def dPow (x y : Dt) (A : Ar) : Rs Dt := match x, y with
  | .int i, .int j => if 0 ≤ j ∧ j ≤ 1000000 ∧ i.natAbs < 2 ^ 64 then .ok (.int (i ^ j.toNat)) A else .bad
  | _, _ => .bad
def dNeg (x : Dt) (A : Ar) : Rs Dt := match x with
  | .int i => .ok (.int (-i)) A
  | _ => .bad
theorem OpR.or2 {f : Value → Value → Sem Value} {r r' r'' : R2} (h : OpR X f r) (h' : OpR X f r') (h'' : OpR X f r'') : OpR X f (fun x y H Q => r x y H Q ∨ r' x y H Q ∨ r'' x y H Q) := by
  intro pins s σ H x y v u Q I rx ry q
  rcases q with q | q | q
  · exact h pins s σ H x y v u Q I rx ry q
  · exact h' pins s σ H x y v u Q I rx ry q
  · exact h'' pins s σ H x y v u Q I rx ry q
theorem pd_add (ha : PD X W a ma) (hb : PD X W b mb) : PD X W (.BinOp a .Add b pos) (mBin dAdd ma mb) := by
  refine pd_bin (OpR.or2 op_add op_add_str op_catA) (fun c σ H x y dx dy Q ok rx ry h => ?_) ha hb
  unfold dAdd at h
  split at h
  · cases rx; cases ry
    exact .inl ⟨_, _, rfl, rfl, h.ok ok .int⟩
  · cases rx; cases ry
    split at h
    · exact .inr (.inl ⟨_, _, rfl, rfl, by assumption, h.ok ok .str⟩)
    · exact h.elim
  · split at h
    · rename_i hz
      cases rx with
      | tup h1 r1 =>
      cases ry with
      | tup h2 r2 =>
      have t1 : SqT X.K H _ _ := SqT.mono (g := gx X) ok.fz h1
      have t2 : SqT X.K H _ _ := SqT.mono (g := gx X) ok.fz h2
      have l1 := r1.length
      have l2 := r2.length
      refine .inr (.inr ⟨_, _, _, _, rfl, rfl, t1, t2, by omega, fun e => ?_, fun e e2 => ?_, fun e e2 p hp => ?_⟩)
      · subst e
        cases r1
        exact h.ok ok (.tup h2 r2)
      · subst e2
        cases r2
        rw [List.append_nil] at h
        exact h.ok ok (.tup h1 r1)
      · obtain ⟨ok2, x2⟩ := ok.laid (o := .tup (_ ++ _)) hp
        exact h _ _ _ x2 rfl rfl ok2 (.tup (SqT.of upd_same) ((x2.repL r1).append (x2.repL r2)))
    · exact h.elim
  · exact h.elim
theorem pd_sub (ha : PD X W a ma) (hb : PD X W b mb) : PD X W (.BinOp a .Sub b pos) (mBin dSub ma mb) := by
  refine pd_bin op_sub (fun c σ H x y dx dy Q ok rx ry h => ?_) ha hb
  unfold dSub at h
  split at h
  · cases rx; cases ry
    exact ⟨_, _, rfl, rfl, h.ok ok .int⟩
  · exact h.elim
theorem pd_mul (ha : PD X W a ma) (hb : PD X W b mb) : PD X W (.BinOp a .Mult b pos) (mBin dMul ma mb) := by
  refine pd_bin op_mul (fun c σ H x y dx dy Q ok rx ry h => ?_) ha hb
  unfold dMul at h
  split at h
  · cases rx; cases ry
    split at h
    · exact ⟨_, _, rfl, rfl, by assumption, h.ok ok .int⟩
    · exact h.elim
  · exact h.elim
theorem pd_mod (ha : PD X W a ma) (hb : PD X W b mb) : PD X W (.BinOp a .Mod b pos) (mBin dMod ma mb) := by
  refine pd_bin op_mod (fun c σ H x y dx dy Q ok rx ry h => ?_) ha hb
  unfold dMod at h
  split at h
  · cases rx; cases ry
    split at h
    · exact ⟨_, _, rfl, rfl, by assumption, h.ok ok .int⟩
    · exact h.elim
  · exact h.elim
theorem pd_fdiv (ha : PD X W a ma) (hb : PD X W b mb) : PD X W (.BinOp a .FloorDiv b pos) (mBin dFdiv ma mb) := by
  refine pd_bin op_fdiv (fun c σ H x y dx dy Q ok rx ry h => ?_) ha hb
  unfold dFdiv at h
  split at h
  · cases rx; cases ry
    split at h
    · exact ⟨_, _, rfl, rfl, by assumption, h.ok ok .int⟩
    · exact h.elim
  · exact h.elim
theorem pd_pow (ha : PD X W a ma) (hb : PD X W b mb) : PD X W (.BinOp a .Pow b pos) (mBin dPow ma mb) := by
  refine pd_bin op_pow (fun c σ H x y dx dy Q ok rx ry h => ?_) ha hb
  unfold dPow at h
  split at h
  · cases rx; cases ry
    split at h
    · exact ⟨_, _, rfl, rfl, by assumption, h.ok ok .int⟩
    · exact h.elim
  · exact h.elim
theorem pd_neg (ha : PD X W a ma) : PD X W (.UnaryOp .USub a pos) (mUn dNeg ma) := by
  refine pd_un un_neg (fun c σ H x dx Q ok rx h => ?_) ha
  unfold dNeg at h
  split at h
  · cases rx
    exact ⟨_, rfl, h.ok ok .int⟩
  · exact h.elim

/-! ### comparisons -/
def isTup : Dt → Bool
  | .tup _ => true
  | _ => false
def dOrd (f : Int → Int → Bool) (g : PyData → PyData → Bool) (x y : Dt) (A : Ar) : Rs Bool := match x, y with
  | .int i, .int j => .ok (f i j) A
  | x, y => if x.good && y.good && alike x.py y.py && isTup x then .ok (g x.py y.py) A else .bad
def dLt := dOrd (fun i j => decide (i < j)) dataLt
def dGt := dOrd (fun i j => decide (j < i)) fun x y => dataLt y x
def dLe := dOrd (fun i j => decide (i ≤ j)) fun x y => !dataLt y x
def dGe := dOrd (fun i j => decide (j ≤ i)) fun x y => !dataLt x y
def dEq (x y : Dt) (A : Ar) : Rs Bool := if x.good && y.good then .ok (PyData.eqv x.py y.py) A else .bad
def dNe (x y : Dt) (A : Ar) : Rs Bool := if x.good && y.good then .ok (!PyData.eqv x.py y.py) A else .bad
/-- data compared by an operator's rule over what is read -/
def rPy (X : Cx) (f : PyData → PyData → Bool) (C : PyData → PyData → Prop) : R2 := fun x y H Q => ∃ d e, Dp X.K H x d ∧ Dp X.K H y e ∧ d.plain = true ∧ e.plain = true ∧ d.depth ≤ 20 ∧ e.depth ≤ 20 ∧ C d e ∧ Q (.bl (f d e)) H
theorem opPy {op : CmpOp} {f : PyData → PyData → Bool} {C : PyData → PyData → Prop} (hu : X.A.units + 64 < cLine)
    (rule : ∀ (s : Shared) (a b : Value) (da db : PyData) (as bs : List Addr) (Q : Value → Shared → Prop), Reads s.heap a da as → Reads s.heap b db bs → da.plain = true → db.plain = true → C da db → X.A.units + min da.depth db.depth < cLine → Q (.bool (f da db)) s → wpAny (model X.prog X.w) X.A (compareOp op a b) Q X.xe s) :
    OpR X (compareOp op) (rPy X f C) := by
  intro pins s σ H x y v u Q I rx ry h
  obtain ⟨d, e, hd, he, p1, p2, d1, d2, hc, q⟩ := h
  obtain ⟨as, r1⟩ := Dp.reads I d x v hd rx
  obtain ⟨bs, r2⟩ := Dp.reads I e y u he ry
  exact rule s v u d e as bs _ r1 r2 p1 p2 hc (by have := Nat.min_le_left d.depth e.depth; omega) ⟨.bl _, H, I, rfl, q⟩
theorem Ok.dp {g : Gx} {c : Cf} {σ : L2.St} {H : Hp} {v : V} {d : Dt} (o : Ok g c σ H) (h : c.rep g v d) (e : d.good = true) : Dp g.K H v d.py ∧ d.py.plain = true ∧ d.py.depth ≤ 20 :=
  ⟨Dp.mono o.fz (Rep.dp 20 d h e), Dt.pl_plain 20 d e⟩
theorem grants_py {f : PyData → PyData → Bool} {C : PyData → PyData → Prop} {F : Dt → Dt → Ar → Rs Bool}
    (hF : ∀ x y A, F x y A = .bad ∨ (x.good = true ∧ y.good = true ∧ C x.py y.py ∧ F x y A = .ok (f x.py y.py) A)) : GrantsB X W (rPy X f C) F := by
  intro c σ H x y dx dy Q ok rx ry h
  rcases hF dx dy c.A with e | ⟨g1, g2, hc, e⟩
  · rw [e] at h; exact h.elim
  · rw [e] at h
    obtain ⟨a1, a2, a3⟩ := ok.dp rx g1
    obtain ⟨b1, b2, b3⟩ := ok.dp ry g2
    exact ⟨_, _, a1, b1, a2, b2, a3, b3, hc, _, rfl, h.ok ok rfl⟩
theorem opEqP (hu : X.A.units + 64 < cLine) : OpR X (compareOp .Eq) (rPy X PyData.eqv fun _ _ => True) := opPy hu fun s a b da db as bs Q r1 r2 p1 p2 _ u q => PySem.SeqAt.eq_plain r1 r2 p1 p2 u q
theorem opNeP (hu : X.A.units + 64 < cLine) : OpR X (compareOp .NotEq) (rPy X (fun d e => !PyData.eqv d e) fun _ _ => True) := opPy hu fun s a b da db as bs Q r1 r2 p1 p2 _ u q => PySem.SeqAt.ne_plain r1 r2 p1 p2 u q
abbrev CLt : PyData → PyData → Prop := fun d e => alike d e = true ∧ d ≠ .none
theorem opLtP (hu : X.A.units + 64 < cLine) : OpR X (compareOp .Lt) (rPy X dataLt CLt) := opPy hu fun s a b da db as bs Q r1 r2 p1 p2 hc u q => PySem.W.lt_data r1 r2 hc.1 hc.2 u q
theorem opGtP (hu : X.A.units + 64 < cLine) : OpR X (compareOp .Gt) (rPy X (fun x y => dataLt y x) CLt) := opPy hu fun s a b da db as bs Q r1 r2 p1 p2 hc u q => PySem.W.gt_data r1 r2 hc.1 hc.2 u q
theorem opLeP (hu : X.A.units + 64 < cLine) : OpR X (compareOp .LtE) (rPy X (fun x y => !dataLt y x) CLt) := opPy hu fun s a b da db as bs Q r1 r2 p1 p2 hc u q => PySem.W.le_data r1 r2 hc.1 hc.2 u q
theorem opGeP (hu : X.A.units + 64 < cLine) : OpR X (compareOp .GtE) (rPy X (fun x y => !dataLt x y) CLt) := opPy hu fun s a b da db as bs Q r1 r2 p1 p2 hc u q => PySem.W.ge_data r1 r2 hc.1 hc.2 u q
theorem rPy_mono {f : PyData → PyData → Bool} {C : PyData → PyData → Prop} : ∀ x y H (Q Q' : VK), (∀ v H', Q v H' → Q' v H') → rPy X f C x y H Q → rPy X f C x y H Q' :=
  fun _ _ _ _ _ k ⟨d, e, h1, h2, h3, h4, h5, h6, h7, q⟩ => ⟨d, e, h1, h2, h3, h4, h5, h6, h7, k _ _ q⟩
theorem dOrd_ok {f : Int → Int → Bool} {g : PyData → PyData → Bool} (hfg : ∀ i j, g (.int i) (.int j) = f i j) : ∀ x y A, dOrd f g x y A = .bad ∨ (x.good = true ∧ y.good = true ∧ CLt x.py y.py ∧ dOrd f g x y A = .ok (g x.py y.py) A) := by
  intro x y A
  unfold dOrd
  split
  · refine .inr ⟨rfl, rfl, ⟨by simp [Dt.py, alike], by simp [Dt.py]⟩, ?_⟩
    simp only [Dt.py]
    rw [hfg]
  · split
    · rename_i h
      simp only [Bool.and_eq_true] at h
      obtain ⟨⟨⟨h1, h2⟩, h3⟩, h4⟩ := h
      refine .inr ⟨h1, h2, ⟨h3, ?_⟩, rfl⟩
      intro z
      cases x with
      | tup l => simp [Dt.py] at z
      | _ => simp [isTup] at h4
    · exact .inl rfl
theorem dEq_ok : ∀ x y A, dEq x y A = .bad ∨ (x.good = true ∧ y.good = true ∧ True ∧ dEq x y A = .ok (PyData.eqv x.py y.py) A) := by
  intro x y A
  unfold dEq
  split
  · rename_i h
    simp only [Bool.and_eq_true] at h
    exact .inr ⟨h.1, h.2, trivial, rfl⟩
  · exact .inl rfl
theorem dNe_ok : ∀ x y A, dNe x y A = .bad ∨ (x.good = true ∧ y.good = true ∧ True ∧ dNe x y A = .ok (!PyData.eqv x.py y.py) A) := by
  intro x y A
  unfold dNe
  split
  · rename_i h
    simp only [Bool.and_eq_true] at h
    exact .inr ⟨h.1, h.2, trivial, rfl⟩
  · exact .inl rfl
theorem lt_oo (i j : Int) : dataLt (.int i) (.int j) = decide (i < j) := PySem.W.dataLt_int i j
theorem le_oo (i j : Int) : (!dataLt (.int j) (.int i)) = decide (i ≤ j) := by rw [PySem.W.dataLt_int, PySem.W.not_lt_int]
theorem pb_lt (hu : X.A.units + 64 < cLine) (ha : PD X W a ma) (hb : PD X W b mb) : PB X W (.Compare a [.Lt] [b] pos) (mCmp dLt ma mb) := pb_cmp (opLtP hu) (grants_py (dOrd_ok lt_oo)) ha hb (nomark _)
theorem pb_gt (hu : X.A.units + 64 < cLine) (ha : PD X W a ma) (hb : PD X W b mb) : PB X W (.Compare a [.Gt] [b] pos) (mCmp dGt ma mb) := pb_cmp (opGtP hu) (grants_py (dOrd_ok fun i j => lt_oo j i)) ha hb (nomark _)
theorem pb_le (hu : X.A.units + 64 < cLine) (ha : PD X W a ma) (hb : PD X W b mb) : PB X W (.Compare a [.LtE] [b] pos) (mCmp dLe ma mb) := pb_cmp (opLeP hu) (grants_py (dOrd_ok le_oo)) ha hb (nomark _)
theorem pb_ge (hu : X.A.units + 64 < cLine) (ha : PD X W a ma) (hb : PD X W b mb) : PB X W (.Compare a [.GtE] [b] pos) (mCmp dGe ma mb) := pb_cmp (opGeP hu) (grants_py (dOrd_ok fun i j => le_oo j i)) ha hb (nomark _)
theorem pb_eq (hu : X.A.units + 64 < cLine) (ha : PD X W a ma) (hb : PD X W b mb) : PB X W (.Compare a [.Eq] [b] pos) (mCmp dEq ma mb) := pb_cmp (opEqP hu) (grants_py dEq_ok) ha hb (nomark _)
theorem pb_ne (hu : X.A.units + 64 < cLine) (ha : PD X W a ma) (hb : PD X W b mb) : PB X W (.Compare a [.NotEq] [b] pos) (mCmp dNe ma mb) := pb_cmp (opNeP hu) (grants_py dNe_ok) ha hb (nomark _)
theorem pd_lt (hu : X.A.units + 64 < cLine) (ha : PD X W a ma) (hb : PD X W b mb) : PD X W (.Compare a [.Lt] [b] pos) (mOfB (mCmp dLt ma mb)) := pd_cmp (opLtP hu) (grants_py (dOrd_ok lt_oo)) rPy_mono ha hb (nomark _)
theorem pd_gt (hu : X.A.units + 64 < cLine) (ha : PD X W a ma) (hb : PD X W b mb) : PD X W (.Compare a [.Gt] [b] pos) (mOfB (mCmp dGt ma mb)) := pd_cmp (opGtP hu) (grants_py (dOrd_ok fun i j => lt_oo j i)) rPy_mono ha hb (nomark _)
theorem pd_le (hu : X.A.units + 64 < cLine) (ha : PD X W a ma) (hb : PD X W b mb) : PD X W (.Compare a [.LtE] [b] pos) (mOfB (mCmp dLe ma mb)) := pd_cmp (opLeP hu) (grants_py (dOrd_ok le_oo)) rPy_mono ha hb (nomark _)
theorem pd_ge (hu : X.A.units + 64 < cLine) (ha : PD X W a ma) (hb : PD X W b mb) : PD X W (.Compare a [.GtE] [b] pos) (mOfB (mCmp dGe ma mb)) := pd_cmp (opGeP hu) (grants_py (dOrd_ok fun i j => le_oo j i)) rPy_mono ha hb (nomark _)
theorem pd_eq (hu : X.A.units + 64 < cLine) (ha : PD X W a ma) (hb : PD X W b mb) : PD X W (.Compare a [.Eq] [b] pos) (mOfB (mCmp dEq ma mb)) := pd_cmp (opEqP hu) (grants_py dEq_ok) rPy_mono ha hb (nomark _)
theorem pd_ne (hu : X.A.units + 64 < cLine) (ha : PD X W a ma) (hb : PD X W b mb) : PD X W (.Compare a [.NotEq] [b] pos) (mOfB (mCmp dNe ma mb)) := pd_cmp (opNeP hu) (grants_py dNe_ok) rPy_mono ha hb (nomark _)
end
end Pp

set_option Elab.async false
set_option linter.all false
set_option maxRecDepth 100000
set_option maxHeartbeats 1000000
/-! PpC: looks, truth, and / or / not, displays, items, slices, built-in calls. -/
namespace Pp
open PySem PySem.Spec PyProof.Rows L2
open PySem.W (alike dataLt)

section
variable {g : Gx} {c c' : Cf} {σ : L2.St} {H : Hp} {v : V} {d : Dt} {l : List Dt}
theorem RP.lst (o : Ok g c σ H) (h : RP g c σ H v (.lst l)) : ∃ a vs, v = .ref a ∧ H a = some (.lst vs) ∧ c.repL g vs l := by
  rcases h with h | ⟨i, l', e, e1, e2⟩ | ⟨i, l', e, _⟩
  · cases h with
    | lst h r => exact ⟨_, _, rfl, o.fz _ _ h, r⟩
  · cases e
    obtain ⟨v', e3, a, vs, rfl, _, h2, h3⟩ := o.slots i _ e1
    rw [e2] at e3
    cases e3
    exact ⟨a, vs, rfl, h2, h3⟩
  · cases e
theorem RP.dct {l : List (Dt × Dt)} (o : Ok g c σ H) (h : RP g c σ H v (.dct l)) : ∃ a u, v = .ref a ∧ H a = some u ∧ DctOk g c u a l := by
  rcases h with h | ⟨i, l', e, _⟩ | ⟨i, l', e, e1, e2⟩
  · cases h with
    | dctL h r => exact ⟨_, _, rfl, o.fz _ _ h, .inl ⟨_, rfl, r⟩⟩
    | dctN h r => exact ⟨_, _, rfl, o.fz _ _ h, .inr ⟨_, rfl, r⟩⟩
  · cases e
  · cases e
    obtain ⟨v', e3, a, u, rfl, _, h2, h3⟩ := o.slots i _ e1
    rw [e2] at e3
    cases e3
    exact ⟨a, u, rfl, h2, h3⟩
def isCol : Dt → Bool
  | .lst _ => true
  | .dct _ => true
  | _ => false
theorem RP.rep (h : RP g c σ H v d) (n : isCol d = false) : c.rep g v d := by
  rcases h with h | ⟨i, l', e, _⟩ | ⟨i, l', e, _⟩
  · exact h
  · subst e; cases n
  · subst e; cases n
theorem RP.ext {H' : Hp} (x : Ext c c') (hr : c'.r = c.r) (h : RP g c σ H v d) : RP g c' σ H' v d := by
  rcases h with h | ⟨i, l', e, e1, e2⟩ | ⟨i, l', e, e1, e2⟩
  · exact .inl (x.rep h)
  · exact .inr (.inl ⟨i, l', e, by rw [hr]; exact e1, e2⟩)
  · exact .inr (.inr ⟨i, l', e, by rw [hr]; exact e1, e2⟩)
theorem RPs.ext {H' : Hp} {vs : List V} (x : Ext c c') (hr : c'.r = c.r) (h : RPs g c σ H vs l) : RPs g c' σ H' vs l := by
  induction h with
  | nil => exact .nil
  | cons h _ ih => exact .cons (h.ext x hr) ih
end

/-! ### from one judgment to another -/
def Sl.dt : Sl → Dt
  | .val d => d
  | .lst l => .lst l
  | .dct l => .dct l
def mVal (m : DM Sl) : DM Dt := fun r A => (m r A).bind fun s A => .ok s.dt A
def mSl (m : DM Dt) : DM Sl := fun r A => (m r A).bind fun d A => .ok (.val d) A
def mPeek (i : Nat) : DM Dt := fun r A => match r[i]? with
  | some (some s) => .ok s.dt A
  | _ => .bad
section
variable {X : Cx} {W : WX} {e a b : Expr} {es : List Expr} {m ma mb : DM Dt} {pos : Pos}
/-- a fresh value is kept as it is -/
theorem Fresh.keep {g : Gx} {c : Cf} {σ : L2.St} {H : Hp} {v : V} {s : Sl} (o : Ok g c σ H) (f : Fresh g c H v s) : ∃ c', Ext c c' ∧ c'.r = c.r ∧ c'.A = c.A ∧ Ok g c' σ H ∧ c'.rep g v s.dt := by
  cases s with
  | val d => exact ⟨c, Ext.refl c, rfl, rfl, o, f⟩
  | lst l =>
    obtain ⟨a, vs, rfl, h2, h3, h4, h5, h6⟩ := f
    obtain ⟨o', x⟩ := o.froze h2 h4 h5 h6
    exact ⟨_, x, rfl, rfl, o', .lst (by show upd c.F a _ a = _; exact upd_same) (x.repL h3)⟩
  | dct l =>
    obtain ⟨a, u, rfl, h2, h3, h4, h5, h6⟩ := f
    obtain ⟨o', x⟩ := o.froze h2 h4 h5 h6
    refine ⟨_, x, rfl, rfl, o', ?_⟩
    rcases h3.imp x with ⟨kvs, e, r⟩ | ⟨xs, e, r⟩
    · exact .dctL (by show upd c.F a _ a = _; rw [upd_same, e]) r
    · exact .dctN (by show upd c.F a _ a = _; rw [upd_same, e]) r
theorem pd_of {m : DM Sl} (h : PF X W e m) : PD X W e (mVal m) := by
  refine ⟨h.pe.weak fun σ H Q ⟨c, ok, q⟩ => ⟨c, ok, ?_⟩⟩
  refine (Post.bind (R := RS (gx X)) q).mono fun v H1 ⟨c1, s, x1, r1, ok1, f, q1⟩ => ?_
  obtain ⟨c2, x2, r2, a2, ok2, h2⟩ := f.keep ok1
  exact q1 c2 v H1 x2 r2 a2 ok2 h2
theorem pf_of (h : PD X W e m) : PF X W e (mSl m) := by
  refine ⟨h.pe.weak fun σ H Q ⟨c, ok, q⟩ => ⟨c, ok, ?_⟩⟩
  exact (Post.bind (R := RV (gx X)) q).mono fun v H1 ⟨c1, s, x1, r1, ok1, f, q1⟩ => q1.ok ok1 f
theorem Post.toRP {g : Gx} {W : WX} {c : Cf} {σ : L2.St} {r : Rs Dt} {Q : VK} (h : Post g (RP g) W c σ r Q) : Post g (RV g) W c σ r Q := by
  cases r with
  | ok a A => exact fun c' b H' x h1 h2 o rr => h c' b H' x h1 h2 o (.inl rr)
  | er e A => exact h
  | bad => exact h
theorem pk_of (h : PD X W e m) : PK X W e m := ⟨h.pe.weak fun σ H Q ⟨c, ok, q⟩ => ⟨c, ok, q.toRP⟩⟩
theorem pk_slot {i : Nat} {x : Str} (hN : X.N[i]? = some x := by rfl) (hv : Vis X.env.scope x := by first | exact Or.inl rfl | exact Or.inr (Or.inl rfl) | exact Or.inr (Or.inr rfl)) (hd : (x == ("__debug__" : Str)) = false := by decide)
    (hcd : (x == ("__classdict__" : Str)) = false := by decide) : PK X W (.Name x pos) (mPeek i) := by
  refine ⟨(pe_var hN hv hd hcd).weak fun σ H Q h => ?_⟩
  obtain ⟨c, ok, h⟩ := h
  unfold mPeek at h
  split at h
  · rename_i s e
    obtain ⟨v, h1, h2⟩ := ok.slots i _ e
    refine ⟨v, h1, h.ok ok ?_⟩
    cases s with
    | val d => exact .inl h2
    | lst l => exact .inr (.inl ⟨i, l, rfl, e, h1⟩)
    | dct l => exact .inr (.inr ⟨i, l, rfl, e, h1⟩)
  · exact h.elim

/-! ### arguments -/
def mNil : DM (List Dt) := fun _ A => .ok [] A
def mCons (m : DM Dt) (ms : DM (List Dt)) : DM (List Dt) := fun r A => (m r A).bind fun d A => (ms r A).bind fun l A => .ok (d :: l) A
theorem pl_nil : PL X W [] mNil := ⟨pa_nil.weak fun σ H Q ⟨c, ok, q⟩ => q.ok ok .nil⟩
theorem pl_cons {ms : DM (List Dt)} (h : PD X W e m) (hs : PL X W es ms) (he : starEach (e :: es) X.env = (false, eval e X.env) :: starEach es X.env := by rfl) : PL X W (e :: es) (mCons m ms) := by
  refine ⟨(pa_cons h.pe hs.pa he).weak fun σ H Q ⟨c, ok, q⟩ => ⟨c, ok, ?_⟩⟩
  refine (Post.bind (R := RV (gx X)) q).mono fun v H1 ⟨c1, d, x1, r1, ok1, f1, q1⟩ => ⟨c1, ok1, ?_⟩
  rw [r1]
  exact (Post.bind (R := RA (gx X)) q1).mono fun vs H2 ⟨c2, l, x2, r2, ok2, f2, q2⟩ => q2.ok ok2 (.cons (x2.rep f1) f2)
theorem pks_nil : PKs X W [] mNil := ⟨pa_nil.weak fun σ H Q ⟨c, ok, q⟩ => q.ok ok .nil⟩
theorem pks_cons {ms : DM (List Dt)} (h : PK X W e m) (hs : PKs X W es ms) (he : starEach (e :: es) X.env = (false, eval e X.env) :: starEach es X.env := by rfl) : PKs X W (e :: es) (mCons m ms) := by
  refine ⟨(pa_cons h.pe hs.pa he).weak fun σ H Q ⟨c, ok, q⟩ => ⟨c, ok, ?_⟩⟩
  refine (Post.bind (R := RP (gx X)) q).mono fun v H1 ⟨c1, d, x1, r1, ok1, f1, q1⟩ => ⟨c1, ok1, ?_⟩
  rw [r1]
  exact (Post.bind (R := RPs (gx X)) q1).mono fun vs H2 ⟨c2, l, x2, r2, ok2, f2, q2⟩ => q2.ok ok2 (.cons (f1.ext x2 r2) f2)

/-! ### tests -/
structure PBW (X : Cx) (W : WX) (e : Expr) (m : DM Bool) : Prop where
  pw : PW X e (tT (gx X) W m)
theorem _root_.L2.PW.weak {t t' : TT} (h : PW X e t) (w : ∀ σ H Q, t' σ H Q → t σ H Q) : PW X e t' := ⟨fun wh pins s σ H Q I q => h.run wh pins s σ H Q I (w _ _ _ q)⟩
def mAndB (a b : DM Bool) : DM Bool := fun r A => (a r A).bind fun k A => if k then b r A else .ok false A
def mOrB (a b : DM Bool) : DM Bool := fun r A => (a r A).bind fun k A => if k then .ok true A else b r A
def mNotB (a : DM Bool) : DM Bool := fun r A => (a r A).bind fun k A => .ok (!k) A
theorem bool_weak {α β : Type} {R : Cf → L2.St → Hp → β → α → Prop} {mt : DM Bool} {F : Bool → DM α} {t : Bool → L2.St → Hp → (β → Hp → Prop) → Prop}
    (hr : ∀ k σ H Q, tM (gx X) R W (F k) σ H Q → t k σ H Q) : ∀ σ H Q, tM (gx X) R W (fun r A => (mt r A).bind fun k A => F k r A) σ H Q → tT (gx X) W mt σ H fun k H1 => t k σ H1 Q := by
  rintro σ H Q ⟨c, ok, h⟩
  refine ⟨c, ok, (Post.bind (R := RT) h).mono fun k H1 ⟨c1, k', x1, r1, ok1, e, h1⟩ => ?_⟩
  cases e
  exact hr k σ H1 Q ⟨c1, ok1, by rw [r1]; exact h1⟩
theorem pbw_and1 {ma : DM Bool} (ha : PB X W a ma) : PBW X W (.BoolOp .And [a] pos) ma := ⟨pw_and1 ha.pt⟩
theorem pbw_or1 {ma : DM Bool} (ha : PB X W a ma) : PBW X W (.BoolOp .Or [a] pos) ma := ⟨pw_or1 ha.pt⟩
theorem pbw_and {ma mb : DM Bool} {rest : List Expr} (ha : PB X W a ma) (hb : PBW X W (.BoolOp .And (b :: rest) pos) mb) : PBW X W (.BoolOp .And (a :: b :: rest) pos) (mAndB ma mb) :=
  ⟨(pw_and ha.pt hb.pw).weak (bool_weak (F := fun k r A => if k then mb r A else .ok false A) (t := fun k σ H1 Q => if k = true then tT (gx X) W mb σ H1 Q else Q false H1) fun k σ H Q ⟨c, ok, h⟩ => by
    cases k with
    | true => exact ⟨c, ok, h⟩
    | false => exact h.ok ok rfl)⟩
theorem pbw_or {ma mb : DM Bool} {rest : List Expr} (ha : PB X W a ma) (hb : PBW X W (.BoolOp .Or (b :: rest) pos) mb) : PBW X W (.BoolOp .Or (a :: b :: rest) pos) (mOrB ma mb) :=
  ⟨(pw_or ha.pt hb.pw).weak (bool_weak (F := fun k r A => if k then .ok true A else mb r A) (t := fun k σ H1 Q => if k = true then Q true H1 else tT (gx X) W mb σ H1 Q) fun k σ H Q ⟨c, ok, h⟩ => by
    cases k with
    | false => exact ⟨c, ok, h⟩
    | true => exact h.ok ok rfl)⟩
theorem pb_w {m : DM Bool} (h : PBW X W e m) : PB X W e m := ⟨h.pw.pt⟩
theorem pb_not {ma : DM Bool} (ha : PB X W a ma) : PB X W (.UnaryOp .Not a pos) (mNotB ma) :=
  ⟨(pt_not ha.pt).weak (bool_weak (F := fun k _ A => .ok (!k) A) (t := fun k σ H1 Q => Q (!k) H1) fun k σ H Q ⟨c, ok, h⟩ => h.ok ok rfl)⟩
/-- a value's truth -/
def dTru (x : Dt) (A : Ar) : Rs Bool := match x with
  | .non => .ok false A
  | .bl b => .ok b A
  | .int i => .ok (i != 0) A
  | .str s => if s.length ≤ sizeLine then .ok ((s.length : Int) != 0) A else .bad
  | .tup l => .ok (!l.isEmpty) A
  | .lst l => .ok (!l.isEmpty) A
  | _ => .bad
def mTru (m : DM Dt) : DM Bool := fun r A => (m r A).bind fun d A => dTru d A
theorem RepL.empty {g : Gx} {F : Hp} {mu : Nat → Option Addr} {vs : List V} {l : List Dt} (r : RepL g F mu vs l) : vs.isEmpty = l.isEmpty := by cases r <;> rfl
theorem pb_tru (ha : PK X W a ma) (he : ∀ whole, isTrue a X.env whole = (do let v ← whole; standAt a.pos; holding [v] (truthy v)) := by intro _; rfl) : PB X W a (mTru ma) := by
  refine ⟨(pt_truth ha.pe he).weak fun σ H Q ⟨c, ok, h⟩ => ⟨c, ok, (Post.bind (R := RP (gx X)) h).mono fun v H1 ⟨c1, d, x1, r1, ok1, f, h1⟩ => ?_⟩⟩
  unfold dTru at h1
  split at h1
  · cases f.rep rfl; exact ⟨_, rfl, h1.ok ok1 rfl⟩
  · cases f.rep rfl; exact ⟨_, rfl, h1.ok ok1 rfl⟩
  · cases f.rep rfl; exact ⟨_, rfl, h1.ok ok1 rfl⟩
  · cases f.rep rfl
    split at h1
    · exact ⟨_, ⟨by assumption, rfl⟩, h1.ok ok1 rfl⟩
    · exact h1.elim
  · cases f.rep rfl with
    | tup hs r => exact ⟨_, .inr (.inl ⟨_, SqT.mono (g := gx X) ok1.fz hs, rfl⟩), h1.ok ok1 (by rw [r.empty])⟩
  · obtain ⟨p, vs, rfl, hp, r⟩ := RP.lst ok1 f
    exact ⟨_, .inl ⟨_, SqL.of hp, rfl⟩, h1.ok ok1 (by rw [r.empty])⟩
  · exact h1.elim
/-- and, or, not as values: all but the last True or False -/
def mAndV (a b : DM Dt) : DM Dt := fun r A => (a r A).bind fun x A => match x with
  | .bl true => b r A
  | .bl false => .ok (.bl false) A
  | _ => .bad
def mOrV (a b : DM Dt) : DM Dt := fun r A => (a r A).bind fun x A => match x with
  | .bl false => b r A
  | .bl true => .ok (.bl true) A
  | _ => .bad
def mNotV (a : DM Dt) : DM Dt := fun r A => (a r A).bind fun x A => match x with
  | .bl k => .ok (.bl (!k)) A
  | _ => .bad
theorem pd_one {op : BoolOp} (ha : PD X W a ma) : PD X W (.BoolOp op [a] pos) ma := ⟨pe_one ha.pe⟩
theorem pd_and {rest : List Expr} (ha : PD X W a ma) (hb : PD X W (.BoolOp .And (b :: rest) pos) mb) : PD X W (.BoolOp .And (a :: b :: rest) pos) (mAndV ma mb) := by
  refine ⟨(pe_and ha.pe hb.pe).weak fun σ H Q ⟨c, ok, h⟩ => ⟨c, ok, (Post.bind (R := RV (gx X)) h).mono fun v H1 ⟨c1, d, x1, r1, ok1, f, h1⟩ => ?_⟩⟩
  split at h1
  · cases f; exact ⟨true, rfl, c1, ok1, by rw [r1]; exact h1⟩
  · cases f; exact ⟨false, rfl, h1.ok ok1 .bl⟩
  · exact h1.elim
theorem pd_or {rest : List Expr} (ha : PD X W a ma) (hb : PD X W (.BoolOp .Or (b :: rest) pos) mb) : PD X W (.BoolOp .Or (a :: b :: rest) pos) (mOrV ma mb) := by
  refine ⟨(pe_or ha.pe hb.pe).weak fun σ H Q ⟨c, ok, h⟩ => ⟨c, ok, (Post.bind (R := RV (gx X)) h).mono fun v H1 ⟨c1, d, x1, r1, ok1, f, h1⟩ => ?_⟩⟩
  split at h1
  · cases f; exact ⟨false, rfl, c1, ok1, by rw [r1]; exact h1⟩
  · cases f; exact ⟨true, rfl, h1.ok ok1 .bl⟩
  · exact h1.elim
theorem pd_not (ha : PD X W a ma) : PD X W (.UnaryOp .Not a pos) (mNotV ma) := by
  refine ⟨(pe_not ha.pe).weak fun σ H Q ⟨c, ok, h⟩ => ⟨c, ok, (Post.bind (R := RV (gx X)) h).mono fun v H1 ⟨c1, d, x1, r1, ok1, f, h1⟩ => ?_⟩⟩
  split at h1
  · cases f; exact ⟨_, rfl, h1.ok ok1 .bl⟩
  · exact h1.elim
def mIf {α : Type} (t : DM Bool) (a b : DM α) : DM α := fun r A => (t r A).bind fun k A => if k then a r A else b r A
theorem pd_if {cnd : Expr} {mt : DM Bool} (ht : PB X W cnd mt) (ha : PD X W a ma) (hb : PD X W b mb) : PD X W (.IfExp cnd a b pos) (mIf mt ma mb) :=
  ⟨(pe_ifExp ht.pt ha.pe hb.pe).weak (bool_weak (F := fun k r A => if k then ma r A else mb r A) (t := fun k σ H1 Q => if k = true then tE (gx X) W ma σ H1 Q else tE (gx X) W mb σ H1 Q) fun k σ H Q ⟨c, ok, h⟩ => by
    cases k with
    | true => exact ⟨c, ok, h⟩
    | false => exact ⟨c, ok, h⟩)⟩
theorem pf_if {cnd : Expr} {mt : DM Bool} {ma mb : DM Sl} (ht : PB X W cnd mt) (ha : PF X W a ma) (hb : PF X W b mb) : PF X W (.IfExp cnd a b pos) (mIf mt ma mb) :=
  ⟨(pe_ifExp ht.pt ha.pe hb.pe).weak (bool_weak (F := fun k r A => if k then ma r A else mb r A) (t := fun k σ H1 Q => if k = true then tF (gx X) W ma σ H1 Q else tF (gx X) W mb σ H1 Q) fun k σ H Q ⟨c, ok, h⟩ => by
    cases k with
    | true => exact ⟨c, ok, h⟩
    | false => exact ⟨c, ok, h⟩)⟩
/-- a <= b <= c -/
def mChain (f f' : Dt → Dt → Ar → Rs Bool) (a b c : DM Dt) : DM Bool := fun r A => (a r A).bind fun x A => (b r A).bind fun y A => (f x y A).bind fun k A => if k then (c r A).bind fun z A => f' y z A else .ok false A
theorem chain_weak {op op' : CmpOp} {f f' : PyData → PyData → Bool} {C C' : PyData → PyData → Prop} {F F' : Dt → Dt → Ar → Rs Bool} {mc : DM Dt}
    (hF : ∀ x y A, F x y A = .bad ∨ (x.good = true ∧ y.good = true ∧ C x.py y.py ∧ F x y A = .ok (f x.py y.py) A))
    (hF' : ∀ x y A, F' x y A = .bad ∨ (x.good = true ∧ y.good = true ∧ C' x.py y.py ∧ F' x y A = .ok (f' x.py y.py) A)) :
    ∀ σ H (Q : Bool → Hp → Prop), tT (gx X) W (mChain F F' ma mb mc) σ H Q → tChain (rPy X f C) (rPy X f' C') (tE (gx X) W ma) (tE (gx X) W mb) (tE (gx X) W mc) σ H fun v H' => ∃ k, v = .bl k ∧ Q k H' := by
  rintro σ H Q ⟨c, ok, h⟩
  refine ⟨c, ok, (Post.bind (R := RV (gx X)) h).mono fun x H1 ⟨c1, dx, x1, r1, ok1, f1, h1⟩ => ⟨c1, ok1, ?_⟩⟩
  rw [r1]
  refine (Post.bind (R := RV (gx X)) h1).mono fun y H2 ⟨c2, dy, x2, r2, ok2, f2, h2⟩ => ?_
  rcases hF dx dy c2.A with e | ⟨g1, g2, hc, e⟩
  · rw [e] at h2; exact h2.elim
  · rw [e] at h2
    obtain ⟨a1, a2, a3⟩ := ok2.dp (x2.rep f1) g1
    obtain ⟨b1, b2, b3⟩ := ok2.dp f2 g2
    refine ⟨_, _, a1, b1, a2, b2, a3, b3, hc, f dx.py dy.py, rfl, ?_⟩
    have h3 : Post (gx X) RT W c2 σ (if f dx.py dy.py then (mc c2.r c2.A).bind fun z A => F' dy z A else .ok false c2.A) Q := by rw [r2, r1]; exact h2
    by_cases hk : f dx.py dy.py = true
    · rw [if_pos hk] at h3 ⊢
      refine ⟨c2, ok2, (Post.bind (R := RV (gx X)) h3).mono fun z H3 ⟨c3, dz, x3, r3, ok3, f3, h4⟩ => ?_⟩
      rcases hF' dy dz c3.A with e' | ⟨g3, g4, hc', e'⟩
      · rw [e'] at h4; exact h4.elim
      · rw [e'] at h4
        obtain ⟨p1, p2, p3⟩ := ok3.dp (x3.rep f2) g3
        obtain ⟨q1, q2, q3⟩ := ok3.dp f3 g4
        exact ⟨_, _, p1, q1, p2, q2, p3, q3, hc', _, rfl, h4.ok ok3 rfl⟩
    · rw [if_neg hk] at h3 ⊢
      exact ⟨false, rfl, h3.ok ok2 rfl⟩
theorem tChain_mono {f f' : PyData → PyData → Bool} {C C' : PyData → PyData → Prop} {mc : DM Dt} {σ : L2.St} {H : Hp} {Q Q' : VK} (k : ∀ v H', Q v H' → Q' v H')
    (h : tChain (rPy X f C) (rPy X f' C') (tE (gx X) W ma) (tE (gx X) W mb) (tE (gx X) W mc) σ H Q) : tChain (rPy X f C) (rPy X f' C') (tE (gx X) W ma) (tE (gx X) W mb) (tE (gx X) W mc) σ H Q' := by
  obtain ⟨c, ok, h⟩ := h
  refine ⟨c, ok, h.mono fun x H1 ⟨c1, ok1, h1⟩ => ⟨c1, ok1, h1.mono fun y H2 h2 => ?_⟩⟩
  refine rPy_mono _ _ _ _ _ (fun v H3 ⟨b, e, q⟩ => ⟨b, e, ?_⟩) h2
  by_cases hb : b = true
  · rw [if_pos hb] at q ⊢
    obtain ⟨c3, ok3, q3⟩ := q
    exact ⟨c3, ok3, q3.mono fun z H4 q4 => rPy_mono _ _ _ _ _ k q4⟩
  · rw [if_neg hb] at q ⊢
    exact k _ _ q
theorem pb_lele {cE : Expr} {mc : DM Dt} (hu : X.A.units + 64 < cLine) (ha : PD X W a ma) (hb : PD X W b mb) (hc : PD X W cE mc) (hm : lastMarks [.LtE, .LtE] [b, cE] = false := by with_unfolding_all rfl) : PB X W (.Compare a [.LtE, .LtE] [b, cE] pos) (mChain dLe dLe ma mb mc) :=
  ⟨(pt_chain (opLeP hu) (opLeP hu) ha.pe hb.pe hc.pe hm).weak (chain_weak (op := .LtE) (op' := .LtE) (dOrd_ok le_oo) (dOrd_ok le_oo))⟩
theorem pd_lele {cE : Expr} {mc : DM Dt} (hu : X.A.units + 64 < cLine) (ha : PD X W a ma) (hb : PD X W b mb) (hc : PD X W cE mc) (hm : lastMarks [.LtE, .LtE] [b, cE] = false := by with_unfolding_all rfl) : PD X W (.Compare a [.LtE, .LtE] [b, cE] pos) (mOfB (mChain dLe dLe ma mb mc)) :=
  ⟨(pe_chain (opLeP hu) (opLeP hu) ha.pe hb.pe hc.pe hm).weak fun σ H Q ⟨c, ok, h⟩ => tChain_mono (fun v H' ⟨k, e, q⟩ => by subst e; exact q) (chain_weak (op := .LtE) (op' := .LtE) (dOrd_ok le_oo) (dOrd_ok le_oo) σ H (fun k H => Q (.bl k) H) ⟨c, ok, h.ofB⟩)⟩
theorem pb_lelt {cE : Expr} {mc : DM Dt} (hu : X.A.units + 64 < cLine) (ha : PD X W a ma) (hb : PD X W b mb) (hc : PD X W cE mc) (hm : lastMarks [.LtE, .Lt] [b, cE] = false := by with_unfolding_all rfl) : PB X W (.Compare a [.LtE, .Lt] [b, cE] pos) (mChain dLe dLt ma mb mc) :=
  ⟨(pt_chain (opLeP hu) (opLtP hu) ha.pe hb.pe hc.pe hm).weak (chain_weak (op := .LtE) (op' := .Lt) (dOrd_ok le_oo) (dOrd_ok lt_oo))⟩
/-- is None, is not None; is True, is False -/
def dIsN (x : Dt) (A : Ar) : Rs Bool := .ok (x matches .non) A
def isNon : Dt → Bool
  | .non => true
  | _ => false
theorem rep_non {g : Gx} {c : Cf} {v : V} {d : Dt} (h : c.rep g v d) : decide (v = .non) = isNon d := by cases h <;> rfl
def mIsN (m : DM Dt) : DM Bool := fun r A => (m r A).bind fun d A => .ok (isNon d) A
def mNotN (m : DM Dt) : DM Bool := fun r A => (m r A).bind fun d A => .ok (!isNon d) A
theorem isN_weak (neg : Bool) : ∀ σ H (Q : Bool → Hp → Prop), tT (gx X) W (fun r A => (ma r A).bind fun d A => .ok (xor neg (isNon d)) A) σ H Q → tE (gx X) W ma σ H fun x H1 => Q (xor neg (decide (x = .non))) H1 := by
  rintro σ H Q ⟨c, ok, h⟩
  exact ⟨c, ok, (Post.bind (R := RV (gx X)) h).mono fun x H1 ⟨c1, dx, x1, r1, ok1, f1, h1⟩ => by rw [rep_non f1]; exact h1.ok ok1 rfl⟩
theorem pb_isN {j p2} (ha : PD X W a ma) : PB X W (.Compare a [.Is] [.Constant .none j p2] pos) (mIsN ma) :=
  ⟨(pt_cmp (pc_isN ha.pe)).weak fun σ H Q h => by
    obtain ⟨c, ok, q⟩ := isN_weak (ma := ma) (W := W) false σ H Q (by simp only [Bool.false_xor]; exact h)
    exact ⟨c, ok, q.mono fun x H1 q1 => ⟨_, rfl, by simpa using q1⟩⟩⟩
theorem pb_notN {j p2} (ha : PD X W a ma) : PB X W (.Compare a [.IsNot] [.Constant .none j p2] pos) (mNotN ma) :=
  ⟨(pt_cmp (pc_notN ha.pe)).weak fun σ H Q h => by
    obtain ⟨c, ok, q⟩ := isN_weak (ma := ma) (W := W) true σ H Q (by simp only [Bool.true_xor]; exact h)
    exact ⟨c, ok, q.mono fun x H1 q1 => ⟨_, rfl, by simpa using q1⟩⟩⟩
theorem pd_isN {j p2} (ha : PD X W a ma) : PD X W (.Compare a [.Is] [.Constant .none j p2] pos) (mOfB (mIsN ma)) :=
  ⟨(pe_cmp (pc_isN ha.pe)).weak fun σ H Q ⟨c0, ok0, h⟩ => by
    obtain ⟨c, ok, q⟩ := isN_weak (ma := ma) (W := W) false σ H (fun k H => Q (.bl k) H) ⟨c0, ok0, by simpa [mIsN] using h.ofB⟩
    exact ⟨c, ok, q.mono fun x H1 q1 => by simpa using q1⟩⟩
theorem pd_notN {j p2} (ha : PD X W a ma) : PD X W (.Compare a [.IsNot] [.Constant .none j p2] pos) (mOfB (mNotN ma)) :=
  ⟨(pe_cmp (pc_notN ha.pe)).weak fun σ H Q ⟨c0, ok0, h⟩ => by
    obtain ⟨c, ok, q⟩ := isN_weak (ma := ma) (W := W) true σ H (fun k H => Q (.bl k) H) ⟨c0, ok0, by simpa [mNotN] using h.ofB⟩
    exact ⟨c, ok, q.mono fun x H1 q1 => by simpa using q1⟩⟩
def dIsB (x y : Dt) (A : Ar) : Rs Bool := match x, y with
  | .bl a, .bl b => .ok (decide (a = b)) A
  | _, _ => .bad
def dNotB (x y : Dt) (A : Ar) : Rs Bool := match x, y with
  | .bl a, .bl b => .ok (!decide (a = b)) A
  | _, _ => .bad
theorem grants_isB : GrantsB X W rIsB dIsB := by
  intro c σ H x y dx dy Q ok rx ry h
  unfold dIsB at h
  split at h
  · cases rx; cases ry; exact ⟨_, _, rfl, rfl, _, rfl, h.ok ok rfl⟩
  · exact h.elim
theorem grants_notB : GrantsB X W rNotB dNotB := by
  intro c σ H x y dx dy Q ok rx ry h
  unfold dNotB at h
  split at h
  · cases rx; cases ry; exact ⟨_, _, rfl, rfl, _, rfl, h.ok ok rfl⟩
  · exact h.elim
theorem pb_isB (ha : PD X W a ma) (hb : PD X W b mb) : PB X W (.Compare a [.Is] [b] pos) (mCmp dIsB ma mb) := pb_cmp op_isBl grants_isB ha hb (nomark _)
theorem pd_isB (ha : PD X W a ma) (hb : PD X W b mb) : PD X W (.Compare a [.Is] [b] pos) (mOfB (mCmp dIsB ma mb)) := pd_cmp op_isBl grants_isB (fun _ _ _ _ _ k ⟨p, q, h1, h2, h3⟩ => ⟨p, q, h1, h2, k _ _ h3⟩) ha hb (nomark _)
theorem pb_notB (ha : PD X W a ma) (hb : PD X W b mb) : PB X W (.Compare a [.IsNot] [b] pos) (mCmp dNotB ma mb) := pb_cmp op_notBl grants_notB ha hb (nomark _)
end
end Pp

set_option Elab.async false
set_option linter.all false
set_option maxRecDepth 100000
set_option maxHeartbeats 1000000
/-! PpD: displays, items, slices, built-in calls. -/
namespace Pp
open PySem PySem.Spec PyProof.Rows L2
open PySem.W (alike dataLt)

section
variable {X : Cx} {W : WX} {e a b : Expr} {es : List Expr} {m ma mb : DM Dt} {ms : DM (List Dt)} {pos : Pos}
/-! ### displays -/
def mTup (m : DM (List Dt)) : DM Dt := fun r A => (m r A).bind fun l A => if l.length ≤ 1000 then .ok (.tup l) A else .bad
def mLst (m : DM (List Dt)) : DM Sl := fun r A => (m r A).bind fun l A => if l.length ≤ 1000 then .ok (.lst l) A else .bad
theorem le1000 {n : Nat} (h : n ≤ 1000) : n ≤ sizeLine := Nat.le_trans h (by decide)
theorem pd_tup {x1} (h : PL X W es ms) : PD X W (.Tuple es x1 pos) (mTup ms) := by
  refine ⟨(pe_tup h.pa).weak fun σ H Q ⟨c, ok, q⟩ => ⟨c, ok, (Post.bind (R := RA (gx X)) q).mono fun vs H1 ⟨c1, l, x1, r1, ok1, f, q1⟩ => ?_⟩⟩
  split at q1
  · rename_i hl
    refine ⟨le1000 (by rw [f.length]; exact hl), fun p hp => ?_⟩
    obtain ⟨ok2, x2⟩ := ok1.laid (o := .tup vs) hp
    exact q1 _ _ _ x2 rfl rfl ok2 (.tup (SqT.of upd_same) (x2.repL f))
  · exact q1.elim
theorem pf_lst (h : PL X W es ms) : PF X W (.List es pos) (mLst ms) := by
  refine ⟨(pe_lst h.pa).weak fun σ H Q ⟨c, ok, q⟩ => ⟨c, ok, (Post.bind (R := RA (gx X)) q).mono fun vs H1 ⟨c1, l, x1, r1, ok1, f, q1⟩ => ?_⟩⟩
  split at q1
  · rename_i hl
    refine ⟨le1000 (by rw [f.length]; exact hl), fun p hp => ?_⟩
    obtain ⟨ok2, n1, n2, n3⟩ := ok1.made (o := .lst vs) hp
    exact q1 _ _ _ (Ext.refl _) rfl rfl ok2 ⟨p, vs, rfl, upd_same, f, n1, n2, n3⟩
  · exact q1.elim

/-! ### items -/
theorem atI_rep {g : Gx} {F : Hp} {mu : Nat → Option Addr} {vs : List V} {l : List Dt} {i : Int} {d : Dt} (r : RepL g F mu vs l) (h : atI l i = some d) : ∃ v, atI vs i = some v ∧ Rep g F mu v d := by
  unfold atI at h ⊢
  rw [r.length]
  cases e : ixN l.length i with
  | none => rw [e] at h; cases h
  | some j =>
    rw [e] at h
    exact r.get h
def dIdx (x y : Dt) (A : Ar) : Rs Dt := match x, y with
  | .tup l, .int i => match atI l i with
    | some d => .ok d A
    | none => .bad
  | .lst l, .int i => match atI l i with
    | some d => .ok d A
    | none => .bad
  | .fz l, .int i => match atI l i with
    | some d => .ok d A
    | none => .bad
  | .str s, .int i => if s.length ≤ sizeLine then match atI s.cps.toList i with
    | some c => .ok (.str ⟨#[c]⟩) A
    | none => .bad
    else .bad
  | .obj j, .int i => match A[j]? with
    | some (.box l) => match atI l i with
      | some d => .ok d A
      | none => .bad
    | _ => .bad
  | _, _ => .bad
theorem look_weak {α β : Type} {R : Cf → L2.St → Hp → β → α → Prop} {t : V → V → Hp → (β → Hp → Prop) → Prop} {F : Dt → Dt → Ar → Rs α}
    (hr : ∀ c σ H x y dx dy Q, Ok (gx X) c σ H → RP (gx X) c σ H x dx → c.rep (gx X) y dy → Post (gx X) R W c σ (F dx dy c.A) Q → t x y H Q) :
    ∀ σ H Q, tM (gx X) R W (fun r A => (ma r A).bind fun x A => (mb r A).bind fun y A => F x y A) σ H Q → tP (gx X) W ma σ H fun x H1 => tE (gx X) W mb σ H1 fun y H2 => t x y H2 Q := by
  rintro σ H Q ⟨c, ok, h⟩
  refine ⟨c, ok, (Post.bind (R := RP (gx X)) h).mono fun x H1 ⟨c1, dx, e1, r1, ok1, rx, h1⟩ => ⟨c1, ok1, ?_⟩⟩
  rw [r1]
  refine (Post.bind (R := RV (gx X)) h1).mono fun y H2 ⟨c2, dy, e2, r2, ok2, ry, h2⟩ => ?_
  exact hr c2 σ H2 x y dx dy Q ok2 (rx.ext e2 r2) ry h2
theorem pd_idx (ha : PK X W a ma) (hb : PD X W b mb) (hs : PlainIx b := by intro _ _; rfl) : PD X W (.Subscript a b pos) (mBin dIdx ma mb) := by
  refine ⟨(pe_ix ix_seq ha.pe hb.pe hs).weak (look_weak fun c σ H x y dx dy Q ok rx ry h => ?_)⟩
  unfold dIdx at h
  split at h
  · cases ry
    split at h
    · rename_i e
      cases rx.rep rfl with
      | tup ht r =>
        obtain ⟨v, ev, rv⟩ := atI_rep r e
        exact .inr (.inl ⟨_, _, _, _, rfl, rfl, SqT.mono (g := gx X) ok.fz ht, ev, h.ok ok rv⟩)
    · exact h.elim
  · cases ry
    split at h
    · rename_i e
      obtain ⟨p, vs, rfl, hp, r⟩ := RP.lst ok rx
      obtain ⟨v, ev, rv⟩ := atI_rep r e
      exact .inl ⟨_, _, _, _, rfl, rfl, SqL.of hp, ev, h.ok ok rv⟩
    · exact h.elim
  · cases ry
    split at h
    · rename_i e
      cases rx.rep rfl with
      | fz ht r =>
        obtain ⟨v, ev, rv⟩ := atI_rep r e
        exact .inl ⟨_, _, _, _, rfl, rfl, ok.fz.seq ht, ev, h.ok ok rv⟩
    · exact h.elim
  · cases ry
    cases rx.rep rfl
    split at h
    · split at h
      · rename_i e
        exact .inr (.inr ⟨_, _, _, rfl, rfl, by assumption, e, h.ok ok .str⟩)
      · exact h.elim
    · exact h.elim
  · cases ry
    split at h
    · rename_i j i l ej
      split at h
      · rename_i e
        cases rx.rep rfl with
        | obj hj =>
          obtain ⟨p, vs, h1, h2, r⟩ := ok.objs _ _ ej
          have e2 := h1.symm.trans hj
          cases e2
          obtain ⟨v, ev, rv⟩ := atI_rep r e
          exact .inl ⟨_, _, _, _, rfl, rfl, SqL.of h2, ev, h.ok ok rv⟩
      · exact h.elim
    · exact h.elim
  · exact h.elim

/-! ### slices -/
def cutL {α : Type} (xs : List α) (lo hi : Option Int) : List α := (xs.drop (HT.sIx xs.length 0 lo)).take (HT.sIx xs.length xs.length hi - HT.sIx xs.length 0 lo)
theorem cut_rep {g : Gx} {F : Hp} {mu : Nat → Option Addr} {vs : List V} {l : List Dt} (r : RepL g F mu vs l) (lo hi : Option Int) : RepL g F mu (cutV vs lo hi) (cutL l lo hi) := by
  unfold cutV cutL
  rw [r.length]
  exact (r.drop _).take _
theorem cut_whole {l : List Dt} {lo hi : Option Int} (h : HT.sIx l.length 0 lo = 0 ∧ HT.sIx l.length l.length hi = l.length) : cutL l lo hi = l := by
  unfold cutL
  rw [h.1, h.2, List.drop_zero, Nat.sub_zero, List.take_length]
abbrev DO := DM (Option Int)
abbrev RO : Cf → L2.St → Hp → Option Int → Option Int → Prop := fun _ _ _ o o' => o = o'
structure PQ (X : Cx) (W : WX) (e : Option Expr) (m : DO) : Prop where
  po : PO X e (tM (gx X) RO W m)
def mNone : DO := fun _ A => .ok none A
def mSome (m : DM Dt) : DO := fun r A => (m r A).bind fun d A => match d with
  | .int i => .ok (some i) A
  | _ => .bad
theorem _root_.L2.PO.weak {e : Option Expr} {t t' : TO} (h : PO X e t) (w : ∀ σ H Q, t' σ H Q → t σ H Q) : PO X e t' := ⟨fun pins s σ H Q I q => h.run pins s σ H Q I (w _ _ _ q)⟩
theorem pq_none : PQ X W none mNone := ⟨po_none.weak fun σ H Q ⟨c, ok, h⟩ => h.ok ok rfl⟩
theorem pq_some (ha : PD X W a ma) : PQ X W (some a) (mSome ma) := by
  refine ⟨(po_some ha.pe).weak fun σ H Q ⟨c, ok, h⟩ => ⟨c, ok, (Post.bind (R := RV (gx X)) h).mono fun x H1 ⟨c1, dx, x1, r1, ok1, f, h1⟩ => ?_⟩⟩
  split at h1
  · cases f; exact ⟨_, rfl, h1.ok ok1 rfl⟩
  · exact h1.elim
def dCut (x : Dt) (lo hi : Option Int) (A : Ar) : Rs Sl := match x with
  | .tup l => .ok (.val (.tup (cutL l lo hi))) A
  | .str s => if s.length ≤ sizeLine then .ok (.val (.str (cutS s lo hi))) A else .bad
  | .lst l => .ok (.lst (cutL l lo hi)) A
  | .fz l => .ok (.lst (cutL l lo hi)) A
  | _ => .bad
def mCut (m : DM Dt) (lo hi : DO) : DM Sl := fun r A => (m r A).bind fun x A => (lo r A).bind fun i A => (hi r A).bind fun j A => dCut x i j A
theorem slices : SlR X (fun x lo hi H Q => rSlA X.K x lo hi H Q ∨ rSlL X.K x lo hi H Q ∨ rSlS x lo hi H Q) := sl_tupA.or (sl_list.or sl_str)
theorem pf_cut {lo hi : Option Expr} {ml mh : DO} {p2 : Pos} (ha : PK X W a ma) (hl : PQ X W lo ml) (hh : PQ X W hi mh) : PF X W (.Subscript a (.Slice lo hi none p2) pos) (mCut ma ml mh) := by
  refine ⟨(pe_slice slices ha.pe hl.po hh.po).weak fun σ H Q ⟨c, ok, h⟩ => ⟨c, ok, (Post.bind (R := RP (gx X)) h).mono fun x H1 ⟨c1, dx, x1, r1, ok1, f, h1⟩ => ⟨c1, ok1, ?_⟩⟩⟩
  rw [r1]
  refine (Post.bind (R := RO) h1).mono fun lo' H2 ⟨c2, i, x2, r2, ok2, e2, h2⟩ => ⟨c2, ok2, ?_⟩
  cases e2
  rw [r2, r1]
  refine (Post.bind (R := RO) h2).mono fun hi' H3 ⟨c3, j, x3, r3, ok3, e3, h3⟩ => ?_
  cases e3
  have f3 : RP (gx X) c3 σ H3 x dx := (f.ext (H' := H2) x2 r2).ext x3 r3
  unfold dCut at h3
  split at h3
  · cases f3.rep rfl with
    | tup ht r =>
      refine .inl ⟨_, _, rfl, SqT.mono (g := gx X) ok3.fz ht, fun hw => ?_, fun hw p hp => ?_⟩
      · rw [r.length] at hw
        rw [cut_whole hw] at h3
        exact h3.ok ok3 (.tup ht r)
      · obtain ⟨ok4, x4⟩ := ok3.laid (o := .tup (cutV _ lo' hi')) hp
        exact h3 _ _ _ x4 rfl rfl ok4 (.tup (SqT.of upd_same) (x4.repL (cut_rep r _ _)))
  · cases f3.rep rfl
    split at h3
    · exact .inr (.inr ⟨_, rfl, by assumption, h3.ok ok3 .str⟩)
    · exact h3.elim
  · obtain ⟨p, vs, rfl, hp, r⟩ := RP.lst ok3 f3
    refine .inr (.inl ⟨_, _, rfl, SqL.of hp, fun q hq => ?_⟩)
    obtain ⟨ok4, n1, n2, n3⟩ := ok3.made (o := .lst (cutV vs lo' hi')) hq
    exact h3 _ _ _ (Ext.refl _) rfl rfl ok4 ⟨q, _, rfl, upd_same, cut_rep r _ _, n1, n2, n3⟩
  · cases f3.rep rfl with
    | fz ht r =>
      refine .inr (.inl ⟨_, _, rfl, ok3.fz.seq ht, fun q hq => ?_⟩)
      obtain ⟨ok4, n1, n2, n3⟩ := ok3.made (o := .lst (cutV _ lo' hi')) hq
      exact h3 _ _ _ (Ext.refl _) rfl rfl ok4 ⟨q, _, rfl, upd_same, cut_rep r _ _, n1, n2, n3⟩
  · exact h3.elim

/-! ### built-in calls -/
theorem args_weak {α β : Type} {R : Cf → L2.St → Hp → β → α → Prop} {t : List V → Hp → (β → Hp → Prop) → Prop} {F : List Dt → Ar → Rs α}
    (hr : ∀ c σ H vs l Q, Ok (gx X) c σ H → RPs (gx X) c σ H vs l → Post (gx X) R W c σ (F l c.A) Q → t vs H Q) :
    ∀ σ H Q, tM (gx X) R W (fun r A => (ms r A).bind fun l A => F l A) σ H Q → tPs (gx X) W ms σ H fun vs H1 => t vs H1 Q := by
  rintro σ H Q ⟨c, ok, h⟩
  exact ⟨c, ok, (Post.bind (R := RPs (gx X)) h).mono fun vs H1 ⟨c1, l, x1, r1, ok1, f, h1⟩ => hr c1 σ H1 vs l Q ok1 f h1⟩
def mCall {α : Type} (F : List Dt → Ar → Rs α) (ms : DM (List Dt)) : DM α := fun r A => (ms r A).bind fun l A => F l A
variable {id : String} {x : Str} {p : Pos} {r : List V → Hp → VK → Prop}
theorem pd_callB {F : List Dt → Ar → Rs Dt} (hc : CallR X (.builtin id) r) (hr : ∀ c σ H vs l Q, Ok (gx X) c σ H → RPs (gx X) c σ H vs l → Post (gx X) (RV (gx X)) W c σ (F l c.A) Q → r vs H Q)
    (ha : PKs X W (e :: es) ms) (hg : Gl X x) (hm : X.mg x = none) (hv : bootBuiltins x = some (.builtin id)) (hn : x ≠ "__name__" := by decide) (hd : (x == ("__debug__" : Str)) = false := by decide)
    (he : starEach (e :: es) X.env = (false, eval e X.env) :: starEach es X.env := by rfl) (hpl : (backTo pos (starEach es X.env)).any (·.1) = false := by rfl) : PD X W (.Call (.Name x p) (e :: es) [] pos) (mCall F ms) :=
  ⟨(pe_callB hc hg hm hv ha.pa hn hd he hpl).weak (args_weak hr)⟩
theorem pf_callB {F : List Dt → Ar → Rs Sl} (hc : CallR X (.builtin id) r) (hr : ∀ c σ H vs l Q, Ok (gx X) c σ H → RPs (gx X) c σ H vs l → Post (gx X) (RS (gx X)) W c σ (F l c.A) Q → r vs H Q)
    (ha : PKs X W (e :: es) ms) (hg : Gl X x) (hm : X.mg x = none) (hv : bootBuiltins x = some (.builtin id)) (hn : x ≠ "__name__" := by decide) (hd : (x == ("__debug__" : Str)) = false := by decide)
    (he : starEach (e :: es) X.env = (false, eval e X.env) :: starEach es X.env := by rfl) (hpl : (backTo pos (starEach es X.env)).any (·.1) = false := by rfl) : PF X W (.Call (.Name x p) (e :: es) [] pos) (mCall F ms) :=
  ⟨(pe_callB hc hg hm hv ha.pa hn hd he hpl).weak (args_weak hr)⟩
theorem pd_callTy {F : List Dt → Ar → Rs Dt} (hc : CallR X (.type id) r) (hr : ∀ c σ H vs l Q, Ok (gx X) c σ H → RPs (gx X) c σ H vs l → Post (gx X) (RV (gx X)) W c σ (F l c.A) Q → r vs H Q)
    (ha : PKs X W (e :: es) ms) (hg : Gl X x) (hm : X.mg x = none) (hv : bootBuiltins x = some (.type id)) (hn : x ≠ "__name__" := by decide) (hd : (x == ("__debug__" : Str)) = false := by decide)
    (he : starEach (e :: es) X.env = (false, eval e X.env) :: starEach es X.env := by rfl) (hpl : (backTo pos (starEach es X.env)).any (·.1) = false := by rfl) : PD X W (.Call (.Name x p) (e :: es) [] pos) (mCall F ms) :=
  ⟨(pe_callTy hc hg hm hv ha.pa hn hd he hpl).weak (args_weak hr)⟩
theorem pf_callTy {F : List Dt → Ar → Rs Sl} (hc : CallR X (.type id) r) (hr : ∀ c σ H vs l Q, Ok (gx X) c σ H → RPs (gx X) c σ H vs l → Post (gx X) (RS (gx X)) W c σ (F l c.A) Q → r vs H Q)
    (ha : PKs X W (e :: es) ms) (hg : Gl X x) (hm : X.mg x = none) (hv : bootBuiltins x = some (.type id)) (hn : x ≠ "__name__" := by decide) (hd : (x == ("__debug__" : Str)) = false := by decide)
    (he : starEach (e :: es) X.env = (false, eval e X.env) :: starEach es X.env := by rfl) (hpl : (backTo pos (starEach es X.env)).any (·.1) = false := by rfl) : PF X W (.Call (.Name x p) (e :: es) [] pos) (mCall F ms) :=
  ⟨(pe_callTy hc hg hm hv ha.pa hn hd he hpl).weak (args_weak hr)⟩
end
end Pp

set_option Elab.async false
set_option linter.all false
set_option maxRecDepth 100000
set_option maxHeartbeats 1000000
/-! PpE: the built-ins, one by one. -/
namespace Pp
open PySem PySem.Spec PyProof.Rows L2
open PySem.W (alike dataLt)

section
variable {X : Cx} {W : WX} {e a b : Expr} {es : List Expr} {m ma mb : DM Dt} {ms : DM (List Dt)} {pos p : Pos}
theorem RPs.one {g : Gx} {c : Cf} {σ : L2.St} {H : Hp} {vs : List V} {d : Dt} (h : RPs g c σ H vs [d]) : ∃ v, vs = [v] ∧ RP g c σ H v d := by
  cases h with
  | cons h t => cases t; exact ⟨_, rfl, h⟩
theorem RPs.two {g : Gx} {c : Cf} {σ : L2.St} {H : Hp} {vs : List V} {d d' : Dt} (h : RPs g c σ H vs [d, d']) : ∃ v v', vs = [v, v'] ∧ RP g c σ H v d ∧ RP g c σ H v' d' := by
  cases h with
  | cons h t => cases t with
    | cons h' t => cases t; exact ⟨_, _, rfl, h, h'⟩
/-! ### len -/
def dLen (l : List Dt) (A : Ar) : Rs Dt := match l with
  | [.str s] => if s.length ≤ sizeLine then .ok (.int (s.length : Nat)) A else .bad
  | [.tup l] => .ok (.int (l.length : Nat)) A
  | [.lst l] => .ok (.int (l.length : Nat)) A
  | [.fz l] => .ok (.int (l.length : Nat)) A
  | [.obj j] => match A[j]? with
    | some (.box l) => .ok (.int (l.length : Nat)) A
    | _ => .bad
  | _ => .bad
theorem pd_len (ha : PK X W a ma) (hg : Gl X "len" := by rfl) (hm : X.mg "len" = none) (he : starEach [a] X.env = (false, eval a X.env) :: starEach [] X.env := by rfl) (hpl : (backTo pos (starEach [] X.env)).any (·.1) = false := by rfl) :
    PD X W (.Call (.Name "len" p) [a] [] pos) (mCall dLen (mCons ma mNil)) := by
  refine pd_callB call_len (fun c σ H vs l Q ok r h => ?_) (pks_cons ha pks_nil he) hg hm PySem.boot_len (he := he) (hpl := hpl)
  unfold dLen at h
  split at h
  · obtain ⟨v, rfl, f⟩ := r.one
    cases f.rep rfl
    split at h
    · exact ⟨_, _, rfl, ⟨by assumption, rfl⟩, h.ok ok .int⟩
    · exact h.elim
  · obtain ⟨v, rfl, f⟩ := r.one
    cases f.rep rfl with
    | tup ht r => exact ⟨_, _, rfl, .inr ⟨_, SqT.mono (g := gx X) ok.fz ht, rfl⟩, h.ok ok (by rw [r.length]; exact .int)⟩
  · obtain ⟨v, rfl, f⟩ := r.one
    obtain ⟨q, ws, rfl, hq, r⟩ := RP.lst ok f
    exact ⟨_, _, rfl, .inl ⟨_, SqL.of hq, rfl⟩, h.ok ok (by rw [r.length]; exact .int)⟩
  · obtain ⟨v, rfl, f⟩ := r.one
    cases f.rep rfl with
    | fz ht r => exact ⟨_, _, rfl, .inl ⟨_, ok.fz.seq ht, rfl⟩, h.ok ok (by rw [r.length]; exact .int)⟩
  · obtain ⟨v, rfl, f⟩ := r.one
    split at h
    · rename_i j l ej
      cases f.rep rfl with
      | obj hj =>
        obtain ⟨q, ws, h1, h2, r⟩ := ok.objs _ _ ej
        have e2 := h1.symm.trans hj
        cases e2
        exact ⟨_, _, rfl, .inl ⟨_, SqL.of h2, rfl⟩, h.ok ok (by rw [r.length]; exact .int)⟩
    · exact h.elim
  · exact h.elim
/-! ### abs, max, min of two ints, int -/
def dAbs (l : List Dt) (A : Ar) : Rs Dt := match l with
  | [.int i] => .ok (.int (if i < 0 then -i else i)) A
  | _ => .bad
theorem pd_abs (ha : PK X W a ma) (hg : Gl X "abs" := by rfl) (hm : X.mg "abs" = none) (he : starEach [a] X.env = (false, eval a X.env) :: starEach [] X.env := by rfl) (hpl : (backTo pos (starEach [] X.env)).any (·.1) = false := by rfl) :
    PD X W (.Call (.Name "abs" p) [a] [] pos) (mCall dAbs (mCons ma mNil)) := by
  refine pd_callB call_abs (fun c σ H vs l Q ok r h => ?_) (pks_cons ha pks_nil he) hg hm (by decide +kernel) (he := he) (hpl := hpl)
  unfold dAbs at h
  split at h
  · obtain ⟨v, rfl, f⟩ := r.one
    cases f.rep rfl
    exact ⟨_, rfl, h.ok ok .int⟩
  · exact h.elim
def dMax2 (l : List Dt) (A : Ar) : Rs Dt := match l with
  | [.int i, .int j] => .ok (.int (if j > i then j else i)) A
  | _ => .bad
def dMin2 (l : List Dt) (A : Ar) : Rs Dt := match l with
  | [.int i, .int j] => .ok (.int (if j < i then j else i)) A
  | _ => .bad
theorem pd_max2 (hc : X.calm = true) (ha : PK X W a ma) (hb : PK X W b mb) (hg : Gl X "max" := by rfl) (hm : X.mg "max" = none) (he2 : starEach [b] X.env = (false, eval b X.env) :: starEach [] X.env := by rfl) (he : starEach [a, b] X.env = (false, eval a X.env) :: starEach [b] X.env := by rfl)
    (hpl : (backTo pos (starEach [b] X.env)).any (·.1) = false := by rfl) : PD X W (.Call (.Name "max" p) [a, b] [] pos) (mCall dMax2 (mCons ma (mCons mb mNil))) := by
  refine pd_callB (call_max2 hc) (fun c σ H vs l Q ok r h => ?_) (pks_cons ha (pks_cons hb pks_nil he2) he) hg hm (by decide +kernel) (he := he) (hpl := hpl)
  unfold dMax2 at h
  split at h
  · obtain ⟨v, v', rfl, f, f'⟩ := r.two
    cases f.rep rfl
    cases f'.rep rfl
    exact ⟨_, _, rfl, h.ok ok .int⟩
  · exact h.elim
theorem pd_min2 (hc : X.calm = true) (ha : PK X W a ma) (hb : PK X W b mb) (hg : Gl X "min" := by rfl) (hm : X.mg "min" = none) (he2 : starEach [b] X.env = (false, eval b X.env) :: starEach [] X.env := by rfl) (he : starEach [a, b] X.env = (false, eval a X.env) :: starEach [b] X.env := by rfl)
    (hpl : (backTo pos (starEach [b] X.env)).any (·.1) = false := by rfl) : PD X W (.Call (.Name "min" p) [a, b] [] pos) (mCall dMin2 (mCons ma (mCons mb mNil))) := by
  refine pd_callB (call_min2 hc) (fun c σ H vs l Q ok r h => ?_) (pks_cons ha (pks_cons hb pks_nil he2) he) hg hm (by decide +kernel) (he := he) (hpl := hpl)
  unfold dMin2 at h
  split at h
  · obtain ⟨v, v', rfl, f, f'⟩ := r.two
    cases f.rep rfl
    cases f'.rep rfl
    exact ⟨_, _, rfl, h.ok ok .int⟩
  · exact h.elim
def dInt (l : List Dt) (A : Ar) : Rs Dt := match l with
  | [.int i] => .ok (.int i) A
  | [.bl k] => .ok (.int (if k then 1 else 0)) A
  | _ => .bad
theorem pd_intc (ha : PK X W a ma) (hg : Gl X "int" := by rfl) (hm : X.mg "int" = none) (he : starEach [a] X.env = (false, eval a X.env) :: starEach [] X.env := by rfl) (hpl : (backTo pos (starEach [] X.env)).any (·.1) = false := by rfl) :
    PD X W (.Call (.Name "int" p) [a] [] pos) (mCall dInt (mCons ma mNil)) := by
  refine pd_callTy call_int1 (fun c σ H vs l Q ok r h => ?_) (pks_cons ha pks_nil he) hg hm (by decide +kernel) (he := he) (hpl := hpl)
  unfold dInt at h
  split at h
  · obtain ⟨v, rfl, f⟩ := r.one
    cases f.rep rfl
    exact .inl ⟨_, rfl, h.ok ok .int⟩
  · obtain ⟨v, rfl, f⟩ := r.one
    cases f.rep rfl
    exact .inr ⟨_, rfl, h.ok ok .int⟩
  · exact h.elim
def dStr (l : List Dt) (A : Ar) : Rs Dt := match l with
  | [.int i] => if i.natAbs.log2 < 1920 then .ok (.str (toString i)) A else .bad
  | _ => .bad
theorem pd_strc (ha : PK X W a ma) (hg : Gl X "str" := by rfl) (hm : X.mg "str" = none) (he : starEach [a] X.env = (false, eval a X.env) :: starEach [] X.env := by rfl) (hpl : (backTo pos (starEach [] X.env)).any (·.1) = false := by rfl) :
    PD X W (.Call (.Name "str" p) [a] [] pos) (mCall dStr (mCons ma mNil)) := by
  refine pd_callTy call_str_int (fun c σ H vs l Q ok r h => ?_) (pks_cons ha pks_nil he) hg hm (by decide +kernel) (he := he) (hpl := hpl)
  unfold dStr at h
  split at h
  · obtain ⟨v, rfl, f⟩ := r.one
    cases f.rep rfl
    split at h
    · exact ⟨_, rfl, by assumption, h.ok ok .str⟩
    · exact h.elim
  · exact h.elim
/-! ### list(x), tuple(x) -/
def dList (l : List Dt) (A : Ar) : Rs Sl := match l with
  | [.tup l] => .ok (.lst l) A
  | [.lst l] => .ok (.lst l) A
  | [.fz l] => .ok (.lst l) A
  | _ => .bad
theorem pf_list (ha : PK X W a ma) (hg : Gl X "list" := by rfl) (hm : X.mg "list" = none) (he : starEach [a] X.env = (false, eval a X.env) :: starEach [] X.env := by rfl) (hpl : (backTo pos (starEach [] X.env)).any (·.1) = false := by rfl) :
    PF X W (.Call (.Name "list" p) [a] [] pos) (mCall dList (mCons ma mNil)) := by
  refine pf_callTy call_list_of (fun c σ H vs l Q ok r h => ?_) (pks_cons ha pks_nil he) hg hm (by decide +kernel) (he := he) (hpl := hpl)
  unfold dList at h
  split at h
  · obtain ⟨v, rfl, f⟩ := r.one
    cases f.rep rfl with
    | tup ht r =>
      refine ⟨_, _, rfl, .inr (SqT.mono (g := gx X) ok.fz ht), fun q hq => ?_⟩
      obtain ⟨ok4, n1, n2, n3⟩ := ok.made (o := .lst _) hq
      exact h _ _ _ (Ext.refl _) rfl rfl ok4 ⟨q, _, rfl, upd_same, r, n1, n2, n3⟩
  · obtain ⟨v, rfl, f⟩ := r.one
    obtain ⟨q, ws, rfl, hq, r⟩ := RP.lst ok f
    refine ⟨_, _, rfl, .inl (SqL.of hq), fun q hq => ?_⟩
    obtain ⟨ok4, n1, n2, n3⟩ := ok.made (o := .lst _) hq
    exact h _ _ _ (Ext.refl _) rfl rfl ok4 ⟨q, _, rfl, upd_same, r, n1, n2, n3⟩
  · obtain ⟨v, rfl, f⟩ := r.one
    cases f.rep rfl with
    | fz ht r =>
      refine ⟨_, _, rfl, .inl (ok.fz.seq ht), fun q hq => ?_⟩
      obtain ⟨ok4, n1, n2, n3⟩ := ok.made (o := .lst _) hq
      exact h _ _ _ (Ext.refl _) rfl rfl ok4 ⟨q, _, rfl, upd_same, r, n1, n2, n3⟩
  · exact h.elim
def dTupc (l : List Dt) (A : Ar) : Rs Dt := match l with
  | [.tup l] => .ok (.tup l) A
  | [.lst l] => .ok (.tup l) A
  | _ => .bad
theorem pd_tupc (ha : PK X W a ma) (hg : Gl X "tuple" := by rfl) (hm : X.mg "tuple" = none) (he : starEach [a] X.env = (false, eval a X.env) :: starEach [] X.env := by rfl) (hpl : (backTo pos (starEach [] X.env)).any (·.1) = false := by rfl) :
    PD X W (.Call (.Name "tuple" p) [a] [] pos) (mCall dTupc (mCons ma mNil)) := by
  refine pd_callTy call_tuple_of (fun c σ H vs l Q ok r h => ?_) (pks_cons ha pks_nil he) hg hm (by decide +kernel) (he := he) (hpl := hpl)
  unfold dTupc at h
  split at h
  · obtain ⟨v, rfl, f⟩ := r.one
    cases f.rep rfl with
    | tup ht r => exact ⟨_, _, rfl, .inr ⟨SqT.mono (g := gx X) ok.fz ht, h.ok ok (.tup ht r)⟩⟩
  · obtain ⟨v, rfl, f⟩ := r.one
    obtain ⟨q, ws, rfl, hq, r⟩ := RP.lst ok f
    refine ⟨_, _, rfl, .inl ⟨SqL.of hq, fun p hp => ?_⟩⟩
    obtain ⟨ok2, x2⟩ := ok.laid (o := .tup ws) hp
    exact h _ _ _ x2 rfl rfl ok2 (.tup (SqT.of upd_same) (x2.repL r))
  · exact h.elim
/-! ### all, any, sum -/
def blOf : Dt → Bool
  | .bl b => b
  | _ => false
def isBl : Dt → Bool
  | .bl _ => true
  | _ => false
def intOf : Dt → Int
  | .int i => i
  | _ => 0
def isInt : Dt → Bool
  | .int _ => true
  | _ => false
theorem reps_bl {g : Gx} {F : Hp} {mu : Nat → Option Addr} : ∀ {vs : List V} {l : List Dt}, RepL g F mu vs l → l.all isBl = true → vs = (l.map blOf).map V.bl
  | _, [], .nil, _ => rfl
  | _, d :: l, .cons h r, e => by
    rw [List.all_cons, Bool.and_eq_true] at e
    cases h <;> first | (rw [reps_bl r e.2]; rfl) | (have := e.1; cases this)
theorem reps_int {g : Gx} {F : Hp} {mu : Nat → Option Addr} : ∀ {vs : List V} {l : List Dt}, RepL g F mu vs l → l.all isInt = true → vs = (l.map intOf).map V.int
  | _, [], .nil, _ => rfl
  | _, d :: l, .cons h r, e => by
    rw [List.all_cons, Bool.and_eq_true] at e
    cases h <;> first | (rw [reps_int r e.2]; rfl) | (have := e.1; cases this)
def dAll (l : List Dt) (A : Ar) : Rs Dt := match l with
  | [.lst l] => if l.all isBl then .ok (.bl (l.all blOf)) A else .bad
  | _ => .bad
def dAny (l : List Dt) (A : Ar) : Rs Dt := match l with
  | [.lst l] => if l.all isBl then .ok (.bl (l.any blOf)) A else .bad
  | _ => .bad
def dSum (l : List Dt) (A : Ar) : Rs Dt := match l with
  | [.lst l] => if l.all isInt then .ok (.int (l.map intOf).sum) A else .bad
  | _ => .bad
theorem pd_all (hc : X.calm = true) (ha : PK X W a ma) (hg : Gl X "all" := by rfl) (hm : X.mg "all" = none) (he : starEach [a] X.env = (false, eval a X.env) :: starEach [] X.env := by rfl) (hpl : (backTo pos (starEach [] X.env)).any (·.1) = false := by rfl) :
    PD X W (.Call (.Name "all" p) [a] [] pos) (mCall dAll (mCons ma mNil)) := by
  refine pd_callB (cr_all hc) (fun c σ H vs l Q ok r h => ?_) (pks_cons ha pks_nil he) hg hm (by decide +kernel) (he := he) (hpl := hpl)
  unfold dAll at h
  split at h
  · obtain ⟨v, rfl, f⟩ := r.one
    split at h
    · obtain ⟨q, ws, rfl, hq, r⟩ := RP.lst ok f
      refine ⟨q, _, rfl, SqL.of (by rw [hq, reps_bl r (by assumption)]), h.ok ok ?_⟩
      rw [List.all_map]
      exact .bl
    · exact h.elim
  · exact h.elim
theorem pd_any (hc : X.calm = true) (ha : PK X W a ma) (hg : Gl X "any" := by rfl) (hm : X.mg "any" = none) (he : starEach [a] X.env = (false, eval a X.env) :: starEach [] X.env := by rfl) (hpl : (backTo pos (starEach [] X.env)).any (·.1) = false := by rfl) :
    PD X W (.Call (.Name "any" p) [a] [] pos) (mCall dAny (mCons ma mNil)) := by
  refine pd_callB (cr_any hc) (fun c σ H vs l Q ok r h => ?_) (pks_cons ha pks_nil he) hg hm (by decide +kernel) (he := he) (hpl := hpl)
  unfold dAny at h
  split at h
  · obtain ⟨v, rfl, f⟩ := r.one
    split at h
    · obtain ⟨q, ws, rfl, hq, r⟩ := RP.lst ok f
      refine ⟨q, _, rfl, SqL.of (by rw [hq, reps_bl r (by assumption)]), h.ok ok ?_⟩
      rw [List.any_map]
      exact .bl
    · exact h.elim
  · exact h.elim
theorem pd_sum (hc : X.calm = true) (ha : PK X W a ma) (hg : Gl X "sum" := by rfl) (hm : X.mg "sum" = none) (he : starEach [a] X.env = (false, eval a X.env) :: starEach [] X.env := by rfl) (hpl : (backTo pos (starEach [] X.env)).any (·.1) = false := by rfl) :
    PD X W (.Call (.Name "sum" p) [a] [] pos) (mCall dSum (mCons ma mNil)) := by
  refine pd_callB (cr_sum hc) (fun c σ H vs l Q ok r h => ?_) (pks_cons ha pks_nil he) hg hm (by decide +kernel) (he := he) (hpl := hpl)
  unfold dSum at h
  split at h
  · obtain ⟨v, rfl, f⟩ := r.one
    split at h
    · obtain ⟨q, ws, rfl, hq, r⟩ := RP.lst ok f
      exact ⟨q, _, rfl, SqL.of (by rw [hq, reps_int r (by assumption)]), h.ok ok .int⟩
    · exact h.elim
  · exact h.elim
/-! ### isinstance with a built-in class -/
def tyOf (A : Ar) : Dt → Option String
  | .obj j => match A[j]? with
    | some (.box _) => some "list"
    | _ => none
  | .non => some "NoneType"
  | .bl _ => some "bool"
  | .int _ => some "int"
  | .str _ => some "str"
  | .tup _ => some "tuple"
  | .lst _ => some "list"
  | _ => none
def dIsi (T : String) (x : Dt) (A : Ar) : Rs Dt := match tyOf A x with
  | some S => match kitB S T with
    | some b => .ok (.bl b) A
    | none => .bad
  | none => .bad
theorem RP.tyX {c : Cf} {σ : L2.St} {H : Hp} {v : V} {d : Dt} {S : String} (ok : Ok (gx X) c σ H) (h : RP (gx X) c σ H v d) (e : tyOf c.A d = some S) : TyX X.K H v (.type S) := by
  cases d with
  | obj j =>
    have e' : (match c.A[j]? with | some (.box _) => some "list" | _ => none) = some S := e
    split at e'
    · rename_i l ej
      cases e'
      cases h.rep rfl with
      | obj hj =>
        obtain ⟨q, ws, h1, h2, r⟩ := ok.objs _ _ ej
        have e2 := h1.symm.trans hj
        cases e2
        exact .base (.lst h2)
    · cases e'
  | non => cases h.rep rfl; cases e; exact .base .non
  | bl b => cases h.rep rfl; cases e; exact .base (.bl b)
  | int i => cases h.rep rfl; cases e; exact .base (.int i)
  | str i => cases h.rep rfl; cases e; exact .base (.str i)
  | tup l =>
    cases e
    cases h.rep rfl with
    | tup ht r =>
      rcases ht with (ht | ⟨o, ht⟩) | ⟨o, its, n, hk, hc, _⟩
      · exact .base (.tup (ok.fz _ _ ht))
      · exact .fTuple (ok.fz _ _ ht)
      · exact .kTuple hk hc
  | lst l =>
    cases e
    obtain ⟨q, ws, rfl, hq, r⟩ := RP.lst ok h
    exact .base (.lst hq)
  | _ => cases e
theorem pe_isi {T : String} {x : Str} {p1 p2 : Pos} {ta : TE} (ha : PE X a ta) (hg : Gl X "isinstance") (hm : X.mg "isinstance" = none) (hT : Gl X x) (hmT : X.mg x = none) (hb : bootBuiltins x = some (.type T)) (hn : x ≠ "__name__" := by decide) (hd : (x == ("__debug__" : Str)) = false := by decide)
    (he2 : starEach [.Name x p2] X.env = (false, eval (.Name x p2) X.env) :: starEach [] X.env := by rfl) (he : starEach [a, .Name x p2] X.env = (false, eval a X.env) :: starEach [.Name x p2] X.env := by rfl) (hpl : (backTo pos (starEach [.Name x p2] X.env)).any (·.1) = false := by rfl) :
    PE X (.Call (.Name "isinstance" p1) [a, .Name x p2] [] pos) (tCB (rIsi X.K) (tCons ta (tCons (tC (.ty T)) tNil))) :=
  pe_callB call_isi hg hm (by decide +kernel) (pa_cons ha (pa_cons (pe_bltn (v := .ty T) hT hmT hb rfl hn hd) pa_nil he2) he) (he := he) (hpl := hpl)
theorem pd_isi {T : String} {x : Str} {p1 p2 : Pos} (ha : PK X W a ma) (hg : Gl X "isinstance" := by rfl) (hm : X.mg "isinstance" = none) (hT : Gl X x := by rfl) (hmT : X.mg x = none) (hb : bootBuiltins x = some (.type T) := by decide +kernel) (hn : x ≠ "__name__" := by decide) (hd : (x == ("__debug__" : Str)) = false := by decide)
    (he2 : starEach [.Name x p2] X.env = (false, eval (.Name x p2) X.env) :: starEach [] X.env := by rfl) (he : starEach [a, .Name x p2] X.env = (false, eval a X.env) :: starEach [.Name x p2] X.env := by rfl) (hpl : (backTo pos (starEach [.Name x p2] X.env)).any (·.1) = false := by rfl) :
    PD X W (.Call (.Name "isinstance" p1) [a, .Name x p2] [] pos) (mUn (dIsi T) ma) := by
  refine ⟨(pe_isi ha.pe hg hm hT hmT hb hn hd he2 he hpl).weak fun σ H Q ⟨c, ok, h⟩ => ⟨c, ok, (Post.bind (R := RP (gx X)) h).mono fun v H1 ⟨c1, d, x1, r1, ok1, f, h1⟩ => ?_⟩⟩
  unfold dIsi at h1
  split at h1
  · rename_i S e
    split at h1
    · rename_i b eb
      exact ⟨_, _, _, _, b, rfl, .ty T, RP.tyX ok1 f e, kit_ty eb, h1.ok ok1 .bl⟩
    · exact h1.elim
  · exact h1.elim
/-! ### in -/
def dInS (x y : Dt) (A : Ar) : Rs Bool := match x, y with
  | .str i, .str j => .ok (!(Builtin.Str.occurrences j i 0 j.length 1).isEmpty) A
  | _, _ => .bad
def dNinS (x y : Dt) (A : Ar) : Rs Bool := match x, y with
  | .str i, .str j => .ok (!(!(Builtin.Str.occurrences j i 0 j.length 1).isEmpty)) A
  | _, _ => .bad
theorem pb_inS (ha : PD X W a ma) (hb : PD X W b mb) (hm : behindInMarks .In b = false := by rfl) : PB X W (.Compare a [.In] [b] pos) (mCmp dInS ma mb) := by
  refine pb_cmp op_in_str (fun c σ H x y dx dy Q ok rx ry h => ?_) ha hb hm
  unfold dInS at h
  split at h
  · cases rx; cases ry; exact ⟨_, _, rfl, rfl, _, rfl, h.ok ok rfl⟩
  · exact h.elim
theorem pd_inS (ha : PD X W a ma) (hb : PD X W b mb) (hm : behindInMarks .In b = false := by rfl) : PD X W (.Compare a [.In] [b] pos) (mOfB (mCmp dInS ma mb)) := by
  refine pd_cmp op_in_str (fun c σ H x y dx dy Q ok rx ry h => ?_) (fun _ _ _ _ _ k ⟨p, q, h1, h2, h3⟩ => ⟨p, q, h1, h2, k _ _ h3⟩) ha hb hm
  unfold dInS at h
  split at h
  · cases rx; cases ry; exact ⟨_, _, rfl, rfl, _, rfl, h.ok ok rfl⟩
  · exact h.elim
theorem pb_ninS (ha : PD X W a ma) (hb : PD X W b mb) (hm : behindInMarks .NotIn b = false := by rfl) : PB X W (.Compare a [.NotIn] [b] pos) (mCmp dNinS ma mb) := by
  refine pb_cmp op_notIn_str (fun c σ H x y dx dy Q ok rx ry h => ?_) ha hb hm
  unfold dNinS at h
  split at h
  · cases rx; cases ry; exact ⟨_, _, rfl, rfl, _, rfl, h.ok ok rfl⟩
  · exact h.elim
end
end Pp

set_option Elab.async false
set_option linter.all false
set_option maxRecDepth 100000
set_option maxHeartbeats 1000000
/-! PpF: calls of the program's own defs, statements, a def from its body, raise. -/
namespace Pp
open PySem PySem.Spec PyProof.Rows L2
open PySem.W (alike dataLt)

/-! ### a def's promise -/
/-- what a def does: the arguments, the arena -/
abbrev Fn := List Dt → Ar → Rs Sl
def PostF (g : Gx) (c : Cf) (r : Rs Sl) (Q : VK) (E : XK) : Prop := match r with
  | .ok s A => ∀ c' v H', Ext c c' → c'.r = [] → c'.A = A → Ok g c' [] H' → Fresh g c' H' v s → Q v H'
  | .er e A => ∀ c' cls d H', Ext c c' → c'.r = [] → c'.A = A → Ok g c' [] H' → ExOk g c' e cls d → E cls d H'
  | .bad => False
def spD (g : Gx) (n : Nat) (m : Fn) : Sp := fun vs H Q E => vs.length = n ∧ ∃ c ds, c.r = [] ∧ Ok g c [] H ∧ c.repL g vs ds ∧ PostF g c (m ds c.A) Q E

/-! ### the callee's configuration, and back -/
open Classical in
noncomputable def Cf.cal (c : Cf) (H : Hp) : Cf where
  r := []
  A := c.A
  F := c.F
  Pr := fun a => if ∃ i, c.loc (.sl i) = some a then H a else c.Pr a
  loc := fun | .sl _ => none | .ob j => c.loc (.ob j)
def Cf.back (c c' : Cf) : Cf where
  r := c.r
  A := c'.A
  F := c'.F
  Pr := c.Pr
  loc := fun | .sl i => c.loc (.sl i) | .ob j => c'.loc (.ob j)
section
variable {g : Gx} {c c' : Cf} {σ : L2.St} {H H' : Hp}
theorem Cf.cal_pr (a : Addr) : ((∃ i, c.loc (.sl i) = some a) ∧ (c.cal H).Pr a = H a) ∨ ((∀ i, c.loc (.sl i) ≠ some a) ∧ (c.cal H).Pr a = c.Pr a) := by
  by_cases h : ∃ i, c.loc (.sl i) = some a
  · exact .inl ⟨h, if_pos h⟩
  · exact .inr ⟨fun i e => h ⟨i, e⟩, if_neg h⟩
theorem Ok.cal (o : Ok g c σ H) : Ok g (c.cal H) [] H := by
  have x : Ext c { c with Pr := (c.cal H).Pr } → True := fun _ => trivial
  refine ⟨o.fz, fun a u e => ?_, fun a u e => ?_, fun w w' a e e' => ?_, fun w a e => ?_, o.new, rfl, fun i s e => by simp [Cf.cal] at e, fun j ob e => ?_⟩
  · rcases c.cal_pr (H := H) a with ⟨_, h⟩ | ⟨_, h⟩
    · rw [h] at e; exact e
    · rw [h] at e; exact o.pr _ _ e
  · rcases c.cal_pr (H := H) a with ⟨⟨i, hi⟩, h⟩ | ⟨_, h⟩
    · have z := (o.own _ _ hi).1
      have e' : c.F a = some u := e
      rw [z] at e'; cases e'
    · rw [h]; exact o.fp _ _ e
  · cases w with
    | sl i => cases e
    | ob j => cases w' with
      | sl i => cases e'
      | ob j' => exact o.inj _ _ _ e e'
  · cases w with
    | sl i => cases e
    | ob j =>
      obtain ⟨h1, h2, h3⟩ := o.own (.ob j) a e
      refine ⟨h1, ?_, h3⟩
      rcases c.cal_pr (H := H) a with ⟨⟨i, hi⟩, h⟩ | ⟨_, h⟩
      · cases o.inj _ _ _ hi e
      · rw [h]; exact h2
  · have h := o.objs j ob e
    cases ob with
    | box l => exact h
    | bdc l => exact h
    | ins y fs =>
      obtain ⟨a, C, dx, fs', h1, h2, h3, h4⟩ := h
      refine ⟨a, C, dx, fs', h1, h2, h3, ?_⟩
      clear h1 h2 h3 e
      induction fs generalizing fs' with
      | nil =>
        cases fs' with
        | nil => trivial
        | cons q fs' => exact h4.elim
      | cons p fs ih =>
        cases fs' with
        | nil => exact h4.elim
        | cons q fs' => exact ⟨h4.1, h4.2.1, ih fs' h4.2.2⟩
theorem Ok.back (o : Ok g c σ H) (x : Ext (c.cal H) c') (r : c'.r = []) (o' : Ok g c' [] H') : Ok g (c.back c') σ H' ∧ Ext c (c.back c') := by
  have ex : Ext c (c.back c') := ⟨x.F, rfl, fun j a e => x.mu j a e⟩
  have own : ∀ i a, c.loc (.sl i) = some a → c'.Pr a = H a ∧ H' a = H a ∧ c'.F a = none := fun i a e => by
    have e1 : c'.Pr a = H a := by
      rw [x.P]
      rcases c.cal_pr (H := H) a with ⟨_, h⟩ | ⟨n, _⟩
      · exact h
      · exact absurd e (n i)
    obtain ⟨_, _, u, hu⟩ := o.own _ _ e
    have e2 : H' a = H a := by
      rw [hu] at e1 ⊢
      exact o'.pr _ _ e1
    refine ⟨e1, e2, ?_⟩
    cases q : c'.F a with
    | none => rfl
    | some v =>
      have z := o'.fp _ _ q
      rw [e1, hu] at z; cases z
  refine ⟨⟨o'.fz, fun a u e => ?_, fun a u e => ?_, fun w w' a e e' => ?_, fun w a e => ?_, o'.new, o.len, fun i s e => ?_, fun j ob e => ?_⟩, ex⟩
  · have e1 : c'.Pr a = some u := by
      rw [x.P]
      rcases c.cal_pr (H := H) a with ⟨⟨i, hi⟩, h⟩ | ⟨_, h⟩
      · have z := (o.own _ _ hi).2.1
        have e' : c.Pr a = some u := e
        rw [z] at e'; cases e'
      · rw [h]; exact e
    exact o'.pr _ _ e1
  · have z := o'.fp _ _ (show c'.F a = some u from e)
    rw [x.P] at z
    rcases c.cal_pr (H := H) a with ⟨⟨i, hi⟩, h⟩ | ⟨_, h⟩
    · exact (o.own _ _ hi).2.1
    · rw [h] at z; exact z
  · cases w with
    | sl i => cases w' with
      | sl j => exact congrArg _ (Ow.sl.inj (o.inj _ _ _ e e'))
      | ob j =>
        obtain ⟨h1, h2, h3⟩ := own i a e
        have z := (o'.own (.ob j) a e').2.1
        obtain ⟨_, _, u, hu⟩ := o.own _ _ e
        rw [h1, hu] at z; cases z
    | ob i => cases w' with
      | sl j =>
        obtain ⟨h1, h2, h3⟩ := own j a e'
        have z := (o'.own (.ob i) a e).2.1
        obtain ⟨_, _, u, hu⟩ := o.own _ _ e'
        rw [h1, hu] at z; cases z
      | ob j => exact o'.inj _ _ _ e e'
  · cases w with
    | sl i =>
      obtain ⟨h1, h2, h3⟩ := own i a e
      obtain ⟨_, k2, u, hu⟩ := o.own (.sl i) a e
      exact ⟨h3, k2, u, by rw [h2]; exact hu⟩
    | ob j =>
      obtain ⟨h1, h2, h3⟩ := o'.own (.ob j) a e
      refine ⟨h1, ?_, h3⟩
      rw [x.P] at h2
      rcases c.cal_pr (H := H) a with ⟨⟨i, hi⟩, h⟩ | ⟨_, h⟩
      · exact (o.own _ _ hi).2.1
      · rw [h] at h2; exact h2
  · obtain ⟨v, e1, e2⟩ := o.slots i s e
    exact ⟨v, e1, e2.imp ex fun a ea => ⟨ea, (own i a ea).2.1⟩⟩
  · have h := o'.objs j ob e
    cases ob with
    | box l => exact h
    | bdc l => exact h
    | ins y fs =>
      obtain ⟨a, C, dx, fs', h1, h2, h3, h4⟩ := h
      refine ⟨a, C, dx, fs', h1, h2, h3, ?_⟩
      clear h1 h2 h3 e
      induction fs generalizing fs' with
      | nil =>
        cases fs' with
        | nil => trivial
        | cons q fs' => exact h4.elim
      | cons p fs ih =>
        cases fs' with
        | nil => exact h4.elim
        | cons q fs' => exact ⟨h4.1, h4.2.1, ih fs' h4.2.2⟩
theorem Fresh.back {v : V} {s : Sl} (o : Ok g c σ H) (x : Ext (c.cal H) c') (o' : Ok g c' [] H') (f : Fresh g c' H' v s) : Fresh g (c.back c') H' v s := by
  have nl : ∀ a, c'.Pr a = none → (∀ w, c'.loc w ≠ some a) → c.Pr a = none ∧ ∀ w, (c.back c').loc w ≠ some a := fun a z n => by
    rw [x.P] at z
    rcases c.cal_pr (H := H) a with ⟨⟨i, hi⟩, h⟩ | ⟨m, h⟩
    · obtain ⟨_, _, u, hu⟩ := o.own _ _ hi
      rw [h, hu] at z; cases z
    · refine ⟨by rw [h] at z; exact z, fun w => ?_⟩
      cases w with
      | sl i => exact m i
      | ob j => exact n (.ob j)
  cases s with
  | val d => exact f
  | lst l =>
    obtain ⟨a, vs, h1, h2, h3, h4, h5, h6⟩ := f
    obtain ⟨k1, k2⟩ := nl a h5 h6
    exact ⟨a, vs, h1, h2, h3, h4, k1, k2⟩
  | dct l =>
    obtain ⟨a, u, h1, h2, h3, h4, h5, h6⟩ := f
    obtain ⟨k1, k2⟩ := nl a h5 h6
    exact ⟨a, u, h1, h2, h3, h4, k1, k2⟩
theorem ExOk.back {e : Ex} {cls : Value} {d : Option Addr} (h : ExOk g c' e cls d) : ExOk g (c.back c') e cls d := h
/-- a def is called -/
theorem spD.call {n : Nat} {m : Fn} {W : WX} {vs : List V} {ds : List Dt} {Q : VK} (o : Ok g c σ H) (hn : vs.length = n) (r : c.repL g vs ds) (h : Post g (RS g) W c σ (m ds c.A) Q) : spD g n m vs H Q (fun cls d H' => W cls d σ H') := by
  refine ⟨hn, c.cal H, ds, rfl, o.cal, r, ?_⟩
  show PostF g (c.cal H) (m ds c.A) Q _
  cases e : m ds c.A with
  | ok s A =>
    rw [e] at h
    intro c' v H' x h1 h2 o' f
    obtain ⟨o2, x2⟩ := o.back x h1 o'
    exact h (c.back c') v H' x2 rfl h2 o2 (f.back o x o')
  | er ex A =>
    rw [e] at h
    intro c' cls d H' x h1 h2 o' f
    obtain ⟨o2, x2⟩ := o.back x h1 o'
    exact h (c.back c') cls d H' x2 rfl h2 o2 f.back
  | bad => rw [e] at h; exact h
end
section
variable {X : Cx} {W : WX} {e a b : Expr} {es : List Expr} {m ma mb : DM Dt} {ms : DM (List Dt)} {pos p : Pos}
theorem RepL.len {g : Gx} {F : Hp} {mu : Nat → Option Addr} {vs : List V} {l : List Dt} (r : RepL g F mu vs l) : vs.length = l.length := r.length
/-- f(e, ..), f a def of the module -/
def mFn (n : Nat) (f : Fn) (ms : DM (List Dt)) : DM Sl := fun r A => (ms r A).bind fun l A => if l.length = n then f l A else .bad
theorem pf_call {k n : Nat} {f : Addr} {fd : FuncData} {ps : List Str} {x : Str} {F : Fn} (G : FnOk X.prog X.w X.K X.mg X.base (L2.CX X.prog X.w) k f fd ps (spD (gx X) n F)) (hr : Room k X.A) (tk : Takes X W) (hm : X.mg x = some (.ref f)) (hk : PySem.W.keepIn X.K (.ref f) = true) (hb : Binds X.K fd ps [])
    (ha : PL X W (e :: es) ms) (hg : Gl X x := by rfl) (hdb : (x == ("__debug__" : Str)) = false := by decide) (he : starEach (e :: es) X.env = (false, eval e X.env) :: starEach es X.env := by rfl) (hpl : (backTo pos (starEach es X.env)).any (·.1) = false := by rfl) :
    PF X W (.Call (.Name x p) (e :: es) [] pos) (mFn n F ms) := by
  refine ⟨(pe_callS G hr hg hm hk hb (E := WE W) (passAt tk) ha.pa hdb he hpl).weak fun σ H Q ⟨c, ok, h⟩ => ⟨c, ok, (Post.bind (R := RA (gx X)) h).mono fun vs H1 ⟨c1, l, x1, r1, ok1, f1, h1⟩ => ?_⟩⟩
  split at h1
  · rename_i hl
    exact spD.call ok1 (by rw [f1.length]; exact hl) f1 h1
  · exact h1.elim

/-! ### statements -/
def Fl.bind (r : Fl) (m : DS) : Fl := match r with
  | .nx r A => m r A
  | f => f
def sSeq (a b : DS) : DS := fun r A => (a r A).bind b
def sSkip : DS := fun r A => .nx r A
theorem PostS.ext {g : Gx} {D : Ends} {c c' : Cf} {r : Fl} (x : Ext c c') (h : PostS g W D c r) : PostS g W D c' r := by
  cases r with
  | nx r A => exact fun c2 σ H e => h c2 σ H (x.trans e)
  | bk r A => exact fun c2 σ H e => h c2 σ H (x.trans e)
  | cn r A => exact fun c2 σ H e => h c2 σ H (x.trans e)
  | rt s A => exact fun c2 v H e => h c2 v H (x.trans e)
  | er e r A => exact fun c2 cls d σ H e => h c2 cls d σ H (x.trans e)
  | bad => exact h
theorem psl_nil : PSL X W [] sSkip := ⟨pss_nil.weak fun D σ H ⟨c, ok, h⟩ => h c σ H (Ext.refl c) rfl rfl ok⟩
theorem seq_weak {a b : DS} : ∀ D σ H, tS (gx X) W (sSeq a b) D σ H → tSeq (tS (gx X) W a) (tS (gx X) W b) D σ H := by
  rintro D σ H ⟨c, ok, h⟩
  refine ⟨c, ok, ?_⟩
  have h' : PostS (gx X) W D c ((a c.r c.A).bind b) := h
  cases e : a c.r c.A with
  | nx r A =>
    rw [e] at h'
    intro c' σ' H' x h1 h2 o
    exact ⟨c', o, by rw [h1, h2]; exact PostS.ext x h'⟩
  | bk r A => rw [e] at h'; exact h'
  | cn r A => rw [e] at h'; exact h'
  | rt s A => rw [e] at h'; exact h'
  | er ex r A => rw [e] at h'; exact h'
  | bad => rw [e] at h'; exact h'
theorem psl_cons {s : Stmt} {rest : List Stmt} {a b : DS} (h1 : PS1 X W s a) (h2 : PSL X W rest b) : PSL X W (s :: rest) (sSeq a b) := ⟨(pss_cons h1.ps h2.pss).weak seq_weak⟩
theorem psl_one {s : Stmt} {a : DS} (h1 : PS1 X W s a) : PSL X W [s] a := ⟨pss_one h1.ps⟩
theorem ps_passD : PS1 X W (.Pass pos) sSkip := ⟨ps_pass.weak fun D σ H ⟨c, ok, h⟩ => h c σ H (Ext.refl c) rfl rfl ok⟩
def sBreak : DS := fun r A => .bk r A
def sCont : DS := fun r A => .cn r A
theorem ps_breakD : PS1 X W (.Break pos) sBreak := ⟨ps_break.weak fun D σ H ⟨c, ok, h⟩ => h c σ H (Ext.refl c) rfl rfl ok⟩
theorem ps_contD : PS1 X W (.Continue pos) sCont := ⟨ps_continue.weak fun D σ H ⟨c, ok, h⟩ => h c σ H (Ext.refl c) rfl rfl ok⟩
theorem ps_docD {x j pos'} : PS1 X W (.Expr (.Constant (.str x) j pos) pos') sSkip := ⟨ps_doc.weak fun D σ H ⟨c, ok, h⟩ => h c σ H (Ext.refl c) rfl rfl ok⟩
/-- behind an expression: the statement's end -/
def sThen {α : Type} (m : DM α) (k : α → DS) : DS := fun r A => match m r A with
  | .ok a A => k a r A
  | .er e A => .er e r A
  | .bad => .bad
theorem then_weak {α β : Type} {R : Cf → L2.St → Hp → β → α → Prop} {m : DM α} {k : α → DS} {t : β → TS}
    (hk : ∀ c σ H D b a, Ok (gx X) c σ H → R c σ H b a → PostS (gx X) W D c (k a c.r c.A) → t b D σ H) : ∀ D σ H, tS (gx X) W (sThen m k) D σ H → tM (gx X) R W m σ H fun b H1 => t b D σ H1 := by
  rintro D σ H ⟨c, ok, h⟩
  refine ⟨c, ok, ?_⟩
  have h' : PostS (gx X) W D c (match m c.r c.A with | .ok a A => k a c.r A | .er e A => .er e c.r A | .bad => .bad) := h
  cases e : m c.r c.A with
  | ok a A =>
    rw [e] at h'
    intro c' b H' x h1 h2 o r
    refine hk c' σ H' D b a o r ?_
    rw [h1, h2]
    exact PostS.ext x h'
  | er ex A =>
    rw [e] at h'
    intro c' cls d H' x h1 h2 o r
    exact h' c' cls d σ H' x h1 h2 o r
  | bad => rw [e] at h'; exact h'
/-- a slot is stored -/
theorem Ok.store {g : Gx} {c : Cf} {σ : L2.St} {H : Hp} {v : V} {s : Sl} (o : Ok g c σ H) (f : Fresh g c H v s) (i : Nat) : ∃ c', Ext c c' ∧ c'.r = c.r.set i (some s) ∧ c'.A = c.A ∧ Ok g c' (σ.set i (some v)) H := by
  have gen : ∀ (loc' : Ow → Option Addr), (∀ w, w ≠ .sl i → loc' w = c.loc w) → (∀ a, loc' (.sl i) = some a → c.loc (.sl i) = some a ∨ (c.F a = none ∧ c.Pr a = none ∧ (∃ o, H a = some o) ∧ ∀ w, c.loc w ≠ some a)) →
      (∀ c', Ext c c' → c'.loc = loc' → c'.F = c.F → SlOk g c' H (.sl i) v s) → ∃ c', Ext c c' ∧ c'.r = c.r.set i (some s) ∧ c'.A = c.A ∧ Ok g c' (σ.set i (some v)) H := fun loc' hl hs hv => by
    have x : Ext c { c with r := c.r.set i (some s), loc := loc' } := ⟨Same.refl _, rfl, fun j a e => (hl (.ob j) (by intro z; cases z)).trans e⟩
    refine ⟨_, x, rfl, rfl, o.fz, o.pr, o.fp, fun w w' a e e' => ?_, fun w a e => ?_, fun j hj => (hl (.ob j) (by intro z; cases z)).trans (o.new j hj), ?_, fun k t e => ?_, fun j ob e => ?_⟩
    · by_cases h1 : w = .sl i
      · by_cases h2 : w' = .sl i
        · rw [h1, h2]
        · subst h1
          have e2 : c.loc w' = some a := (hl w' h2).symm.trans e'
          rcases hs a e with z | ⟨_, _, _, z⟩
          · exact o.inj _ _ _ z e2
          · exact absurd e2 (z w')
      · by_cases h2 : w' = .sl i
        · subst h2
          have e2 : c.loc w = some a := (hl w h1).symm.trans e
          rcases hs a e' with z | ⟨_, _, _, z⟩
          · exact o.inj _ _ _ e2 z
          · exact absurd e2 (z w)
        · exact o.inj _ _ _ ((hl w h1).symm.trans e) ((hl w' h2).symm.trans e')
    · by_cases h1 : w = .sl i
      · subst h1
        rcases hs a e with z | ⟨z1, z2, z3, _⟩
        · exact o.own _ _ z
        · exact ⟨z1, z2, z3⟩
      · exact o.own w a ((hl w h1).symm.trans e)
    · show (σ.set i (some v)).length = (c.r.set i (some s)).length
      rw [List.length_set, List.length_set, o.len]
    · have e' : (c.r.set i (some s))[k]? = some (some t) := e
      by_cases hk : i = k
      · subst hk
        have hlt : i < c.r.length := by
          have z := (List.getElem?_eq_some_iff.mp e').1
          rwa [List.length_set] at z
        rw [List.getElem?_set_self hlt] at e'
        cases e'
        exact ⟨v, by rw [List.getElem?_set_self (by rw [o.len]; exact hlt)], hv _ x rfl rfl⟩
      · rw [List.getElem?_set_ne hk] at e'
        obtain ⟨u, e1, e2⟩ := o.slots k t e'
        refine ⟨u, by rw [List.getElem?_set_ne hk]; exact e1, e2.imp x fun a ea => ⟨(hl (.sl k) (by intro z; cases z; exact hk rfl)).trans ea, rfl⟩⟩
    · exact (o.objs j ob e).imp x fun a ea => ⟨(hl (.ob j) (by intro z; cases z)).trans ea, rfl⟩
  cases s with
  | val d => exact gen c.loc (fun _ _ => rfl) (fun a e => .inl e) fun c' x e1 e2 => x.rep f
  | lst l =>
    obtain ⟨a, vs, rfl, h2, h3, h4, h5, h6⟩ := f
    refine gen (fun w => if w = .sl i then some a else c.loc w) (fun w hw => if_neg hw) (fun b e => .inr ?_) fun c' x e1 e2 => ⟨a, vs, rfl, by rw [e1]; exact if_pos rfl, h2, x.repL h3⟩
    have e' : some a = some b := (if_pos rfl).symm.trans e
    cases e'
    exact ⟨h4, h5, ⟨_, h2⟩, h6⟩
  | dct l =>
    obtain ⟨a, u, rfl, h2, h3, h4, h5, h6⟩ := f
    refine gen (fun w => if w = .sl i then some a else c.loc w) (fun w hw => if_neg hw) (fun b e => .inr ?_) fun c' x e1 e2 => ⟨a, u, rfl, by rw [e1]; exact if_pos rfl, h2, h3.imp x⟩
    have e' : some a = some b := (if_pos rfl).symm.trans e
    cases e'
    exact ⟨h4, h5, ⟨_, h2⟩, h6⟩
def sSet (i : Nat) (m : DM Sl) : DS := sThen m fun s r A => .nx (r.set i (some s)) A
theorem ps_setD {i : Nat} {x : Str} {m : DM Sl} {pos' : Pos} (hN : X.N.Nodup) (he : PF X W e m) (hi : X.N[i]? = some x := by rfl) (hx : Loc X.env.scope x := by first | exact .inl rfl | exact .inr rfl) (hs : swapsWith e (some (.Name x pos')) pos.line X.env = pure false := by rfl)
    (hf : X.fn x = true ∨ X.env.scope.names.lookup x = some .local := by first | exact .inl rfl | exact .inr rfl) : PS1 X W (.Assign [.Name x pos'] e pos) (sSet i m) :=
  ⟨(ps_set hN hi hx he.pe hs hf).weak (then_weak (R := RS (gx X)) (t := fun v D σ H => D.nx (σ.set i (some v)) H) fun c σ H D v s ok f h => by
    obtain ⟨c', x, r', a', o'⟩ := ok.store f i
    exact h c' _ H x r' a' o')⟩
def sDrop {α : Type} (m : DM α) : DS := sThen m fun _ r A => .nx r A
theorem ps_exprD {m : DM Sl} (he : PF X W e m) (hs : swapsWith e none pos.line X.env = pure false := by rfl) : PS1 X W (.Expr e pos) (sDrop m) :=
  ⟨(ps_expr he.pe hs).weak (then_weak (R := RS (gx X)) (t := fun v D σ H => D.nx σ H) fun c σ H D v s ok f h => h c σ H (Ext.refl c) rfl rfl ok)⟩
/-- the slots are let go -/
theorem Ok.leave {g : Gx} {c : Cf} {σ : L2.St} {H : Hp} (o : Ok g c σ H) : Ok g { c with r := [], loc := fun | .sl _ => none | .ob j => c.loc (.ob j) } [] H ∧ Ext c { c with r := [], loc := fun | .sl _ => none | .ob j => c.loc (.ob j) } := by
  have x : Ext c { c with r := [], loc := fun | .sl _ => none | .ob j => c.loc (.ob j) } := ⟨Same.refl _, rfl, fun _ _ e => e⟩
  refine ⟨⟨o.fz, o.pr, o.fp, fun w w' a e e' => ?_, fun w a e => ?_, o.new, rfl, fun i s e => by simp at e, fun j ob e => (o.objs j ob e).imp x fun a ea => ⟨ea, rfl⟩⟩, x⟩
  · cases w with
    | sl i => cases e
    | ob j => cases w' with
      | sl i => cases e'
      | ob j' => exact o.inj _ _ _ e e'
  · cases w with
    | sl i => cases e
    | ob j => exact o.own (.ob j) a e
theorem Fresh.leave {g : Gx} {c : Cf} {H : Hp} {v : V} {s : Sl} (f : Fresh g c H v s) : Fresh g { c with r := [], loc := fun | .sl _ => none | .ob j => c.loc (.ob j) } H v s := by
  have nl : ∀ a, (∀ w, c.loc w ≠ some a) → ∀ w, (fun | .sl _ => none | .ob j => c.loc (.ob j) : Ow → Option Addr) w ≠ some a := fun a n w => by
    cases w with
    | sl i => intro z; cases z
    | ob j => exact n (.ob j)
  cases s with
  | val d => exact f
  | lst l =>
    obtain ⟨a, vs, h1, h2, h3, h4, h5, h6⟩ := f
    exact ⟨a, vs, h1, h2, h3, h4, h5, nl a h6⟩
  | dct l =>
    obtain ⟨a, u, h1, h2, h3, h4, h5, h6⟩ := f
    exact ⟨a, u, h1, h2, h3, h4, h5, nl a h6⟩
def sRet (m : DM Sl) : DS := sThen m fun s _ A => .rt s A
theorem ps_retD {m : DM Sl} (he : PF X W e m) : PS1 X W (.Return (some e) pos) (sRet m) :=
  ⟨(ps_ret he.pe).weak (then_weak (R := RS (gx X)) (t := fun v D σ H => D.rt v H) fun c σ H D v s ok f h => by
    obtain ⟨o', x⟩ := ok.leave
    exact h _ v H x rfl rfl o' f.leave)⟩
def sRetN : DS := fun _ A => .rt (.val .non) A
theorem ps_retND : PS1 X W (.Return none pos) sRetN := ⟨ps_retN.weak fun D σ H ⟨c, ok, h⟩ => by
  obtain ⟨o', x⟩ := ok.leave
  exact h _ _ H x rfl rfl o' .non⟩
/-- return x, x's list or dict goes out -/
def sRetV (i : Nat) : DS := fun r A => match r[i]? with
  | some (some s) => .rt s A
  | _ => .bad
theorem ps_retV {i : Nat} {x : Str} {p' : Pos} (hN : X.N[i]? = some x := by rfl) (hv : Vis X.env.scope x := by first | exact Or.inl rfl | exact Or.inr (Or.inl rfl) | exact Or.inr (Or.inr rfl)) (hd : (x == ("__debug__" : Str)) = false := by decide)
    (hcd : (x == ("__classdict__" : Str)) = false := by decide) : PS1 X W (.Return (some (.Name x p')) pos) (sRetV i) := by
  refine ⟨(ps_ret (pe_var hN hv hd hcd)).weak fun D σ H ⟨c, ok, h⟩ => ?_⟩
  unfold sRetV at h
  split at h
  · rename_i s e
    obtain ⟨v, e1, e2⟩ := ok.slots i s e
    obtain ⟨o', x⟩ := ok.leave
    refine ⟨v, e1, h _ v H x rfl rfl o' ?_⟩
    have nl : ∀ a, c.loc (.sl i) = some a → ∀ w, (fun | .sl _ => none | .ob j => c.loc (.ob j) : Ow → Option Addr) w ≠ some a := fun a ea w => by
      cases w with
      | sl i => intro z; cases z
      | ob j => intro z; cases ok.inj _ _ _ ea z
    cases s with
    | val d => exact x.rep e2
    | lst l =>
      obtain ⟨a, vs, h1, h2, h3, h4⟩ := e2
      obtain ⟨k1, k2, _⟩ := ok.own _ _ h2
      exact ⟨a, vs, h1, h3, x.repL h4, k1, k2, nl a h2⟩
    | dct l =>
      obtain ⟨a, u, h1, h2, h3, h4⟩ := e2
      obtain ⟨k1, k2, _⟩ := ok.own _ _ h2
      exact ⟨a, u, h1, h3, h4.imp x, k1, k2, nl a h2⟩
  · exact h.elim
def sIf (t : DM Bool) (a b : DS) : DS := sThen t fun k => if k then a else b
theorem ps_ifD {cnd : Expr} {xs ys : List Stmt} {t : DM Bool} {a b : DS} (ht : PB X W cnd t) (ha : PSL X W xs a) (hb : PSL X W ys b) : PS1 X W (.If cnd xs ys pos) (sIf t a b) :=
  ⟨(ps_if ht.pt ha.pss hb.pss).weak (then_weak (R := RT) (t := fun k D σ H => if k = true then tS (gx X) W a D σ H else tS (gx X) W b D σ H) fun c σ H D k k' ok e h => by
    cases e
    cases k with
    | true => exact ⟨c, ok, h⟩
    | false => exact ⟨c, ok, h⟩)⟩
/-- a slot's list or dict stays as it is from now on (nothing of the program) -/
def sKeep (i : Nat) : DS := fun r A => match r[i]? with
  | some (some s) => .nx (r.set i (some (.val s.dt))) A
  | _ => .bad
theorem Ok.keep {g : Gx} {c : Cf} {σ : L2.St} {H : Hp} {i : Nat} {s : Sl} (o : Ok g c σ H) (e : c.r[i]? = some (some s)) : ∃ c', Ext c c' ∧ c'.r = c.r.set i (some (.val s.dt)) ∧ c'.A = c.A ∧ Ok g c' σ H := by
  obtain ⟨v, e1, e2⟩ := o.slots i s e
  have hset : σ.set i (some v) = σ := by
    apply List.ext_getElem?
    intro k
    by_cases hk : i = k
    · subst hk
      rw [List.getElem?_set_self (List.getElem?_eq_some_iff.mp e1).1, e1]
    · rw [List.getElem?_set_ne hk]
  -- the object leaves the slot
  let c1 : Cf := { c with r := c.r.set i none, loc := fun w => if w = .sl i then none else c.loc w }
  have x1 : Ext c c1 := ⟨Same.refl _, rfl, fun j a ea => by
    show (if Ow.ob j = .sl i then none else c.loc (.ob j)) = some a
    rw [if_neg (by intro z; cases z)]; exact ea⟩
  have same : ∀ w, w ≠ .sl i → c1.loc w = c.loc w := fun w hw => if_neg hw
  have gone : ∀ {w a}, c1.loc w = some a → w ≠ .sl i ∧ c.loc w = some a := fun {w a} h => by
    by_cases hw : w = .sl i
    · have : (if w = .sl i then none else c.loc w) = some a := h
      rw [if_pos hw] at this; cases this
    · exact ⟨hw, (if_neg hw).symm.trans h⟩
  have o1 : Ok g c1 σ H := by
    refine ⟨o.fz, o.pr, o.fp, fun w w' a h h' => o.inj _ _ _ (gone h).2 (gone h').2, fun w a h => o.own w a (gone h).2, fun j hj => (same (.ob j) (by intro z; cases z)).trans (o.new j hj), ?_, fun k t h => ?_, fun j ob h => (o.objs j ob h).imp x1 fun a ea => ⟨(same (.ob j) (by intro z; cases z)).trans ea, rfl⟩⟩
    · show σ.length = (c.r.set i none).length
      rw [List.length_set, o.len]
    · have h' : (c.r.set i none)[k]? = some (some t) := h
      by_cases hk : i = k
      · subst hk
        rw [List.getElem?_set_self (List.getElem?_eq_some_iff.mp e).1] at h'
        cases h'
      · rw [List.getElem?_set_ne hk] at h'
        obtain ⟨u, k1, k2⟩ := o.slots k t h'
        exact ⟨u, k1, k2.imp x1 fun a ea => ⟨(same (.sl k) (by intro z; cases z; exact hk rfl)).trans ea, rfl⟩⟩
  have f : Fresh g c1 H v s := by
    have nl : ∀ a, c.loc (.sl i) = some a → ∀ w, c1.loc w ≠ some a := fun a ea w h => (gone h).1 (o.inj _ _ _ (gone h).2 ea)
    cases s with
    | val d => exact x1.rep e2
    | lst l =>
      obtain ⟨a, vs, h1, h2, h3, h4⟩ := e2
      obtain ⟨k1, k2, _⟩ := o.own _ _ h2
      exact ⟨a, vs, h1, h3, x1.repL h4, k1, k2, nl a h2⟩
    | dct l =>
      obtain ⟨a, u, h1, h2, h3, h4⟩ := e2
      obtain ⟨k1, k2, _⟩ := o.own _ _ h2
      exact ⟨a, u, h1, h3, h4.imp x1, k1, k2, nl a h2⟩
  obtain ⟨c2, x2, r2, a2, o2, h2⟩ := f.keep o1
  obtain ⟨c3, x3, r3, a3, o3⟩ := o2.store (s := .val s.dt) h2 i
  rw [hset] at o3
  refine ⟨c3, (x1.trans x2).trans x3, ?_, a3.trans a2, o3⟩
  rw [r3, r2]
  exact List.set_set ..
theorem psl_keep {rest : List Stmt} {i : Nat} {b : DS} (h : PSL X W rest b) : PSL X W rest (sSeq (sKeep i) b) := by
  refine ⟨h.pss.weak fun D σ H ⟨c, ok, q⟩ => ?_⟩
  have q' : PostS (gx X) W D c ((sKeep i c.r c.A).bind b) := q
  unfold sKeep at q'
  split at q'
  · rename_i s e
    obtain ⟨c', x, r', a', o'⟩ := ok.keep e
    refine ⟨c', o', PostS.ext x ?_⟩
    rw [r', a']
    exact q'
  · exact q'.elim
/-- a list of a slot goes to the arena: from now on it is shared -/
def sBox (i : Nat) : DS := fun r A => match r[i]? with
  | some (some (.lst l)) => .nx (r.set i (some (.val (.obj A.length)))) (A ++ [.box l])
  | _ => .bad
theorem Ok.box {g : Gx} {c : Cf} {σ : L2.St} {H : Hp} {i : Nat} {l : List Dt} (o : Ok g c σ H) (e : c.r[i]? = some (some (.lst l))) : ∃ c', Ext c c' ∧ c'.r = c.r.set i (some (.val (.obj c.A.length))) ∧ c'.A = c.A ++ [.box l] ∧ Ok g c' σ H := by
  obtain ⟨v, e1, a, vs, rfl, h2, h3, h4⟩ := o.slots i _ e
  let c1 : Cf := { c with r := c.r.set i (some (.val (.obj c.A.length))), A := c.A ++ [.box l], loc := fun w => if w = .sl i then none else if w = .ob c.A.length then some a else c.loc w }
  have l1 : c1.loc (.ob c.A.length) = some a := by
    show (if Ow.ob c.A.length = .sl i then none else if Ow.ob c.A.length = .ob c.A.length then some a else c.loc (.ob c.A.length)) = some a
    rw [if_neg (by intro z; cases z), if_pos rfl]
  have l2 : ∀ w, w ≠ .sl i → w ≠ .ob c.A.length → c1.loc w = c.loc w := fun w n1 n2 => (if_neg n1).trans (if_neg n2)
  have l3 : c1.loc (.sl i) = none := if_pos rfl
  have x1 : Ext c c1 := ⟨Same.refl _, rfl, fun j b ea => by
    have hj : (Ow.ob j) ≠ .ob c.A.length := fun z => by
      cases z
      rw [o.new _ (Nat.le_refl _)] at ea; cases ea
    exact (l2 _ (by intro z; cases z) hj).trans ea⟩
  have loc : ∀ {w b}, c1.loc w = some b → (w = .ob c.A.length ∧ b = a) ∨ (w ≠ .sl i ∧ w ≠ .ob c.A.length ∧ c.loc w = some b) := fun {w b} h => by
    by_cases n1 : w = .sl i
    · subst n1; rw [l3] at h; cases h
    · by_cases n2 : w = .ob c.A.length
      · subst n2; rw [l1] at h; cases h; exact .inl ⟨rfl, rfl⟩
      · exact .inr ⟨n1, n2, (l2 w n1 n2).symm.trans h⟩
  have old : ∀ j, j < c.A.length → c1.loc (.ob j) = c.loc (.ob j) := fun j hj => l2 _ (by intro z; cases z) (by intro z; cases z; exact Nat.lt_irrefl _ hj)
  refine ⟨c1, x1, rfl, rfl, o.fz, o.pr, o.fp, fun w w' b h h' => ?_, fun w b h => ?_, fun j hj => ?_, ?_, fun k t h => ?_, fun j ob h => ?_⟩
  · rcases loc h with ⟨r1, r2⟩ | ⟨r1, r2, r3⟩
    · rcases loc h' with ⟨q1, q2⟩ | ⟨q1, q2, q3⟩
      · rw [r1, q1]
      · subst r2; exact absurd (o.inj _ _ _ q3 h2) q1
    · rcases loc h' with ⟨q1, q2⟩ | ⟨q1, q2, q3⟩
      · subst q2; exact absurd (o.inj _ _ _ r3 h2) r1
      · exact o.inj _ _ _ r3 q3
  · rcases loc h with ⟨r1, r2⟩ | ⟨r1, r2, r3⟩
    · subst r2; exact o.own _ _ h2
    · exact o.own _ _ r3
  · have hj' : c.A.length + 1 ≤ j := by simpa [c1] using hj
    rw [l2 _ (by intro z; cases z) (by intro z; cases z; omega)]
    exact o.new j (by omega)
  · show σ.length = (c.r.set i _).length
    rw [List.length_set, o.len]
  · have h' : (c.r.set i (some (.val (.obj c.A.length))))[k]? = some (some t) := h
    by_cases hk : i = k
    · subst hk
      rw [List.getElem?_set_self (List.getElem?_eq_some_iff.mp e).1] at h'
      cases h'
      exact ⟨_, e1, .obj l1⟩
    · rw [List.getElem?_set_ne hk] at h'
      obtain ⟨u, k1, k2⟩ := o.slots k t h'
      exact ⟨u, k1, k2.imp x1 fun b eb => ⟨(l2 _ (by intro z; cases z; exact hk rfl) (by intro z; cases z)).trans eb, rfl⟩⟩
  · have h' : (c.A ++ [Ob.box l])[j]? = some ob := h
    by_cases hj : j < c.A.length
    · rw [List.getElem?_append_left hj] at h'
      exact (o.objs j ob h').imp x1 fun b eb => ⟨(old j hj).trans eb, rfl⟩
    · have hj2 : j = c.A.length := by
        have z := (List.getElem?_eq_some_iff.mp h').1
        rw [List.length_append, List.length_singleton] at z
        omega
      subst hj2
      rw [List.getElem?_append_right (Nat.le_refl _), Nat.sub_self] at h'
      cases h'
      exact ⟨a, vs, l1, h3, x1.repL h4⟩
theorem psl_box {rest : List Stmt} {i : Nat} {b : DS} (h : PSL X W rest b) : PSL X W rest (sSeq (sBox i) b) := by
  refine ⟨h.pss.weak fun D σ H ⟨c, ok, q⟩ => ?_⟩
  have q' : PostS (gx X) W D c ((sBox i c.r c.A).bind b) := q
  unfold sBox at q'
  split at q'
  · rename_i l e
    obtain ⟨c', x, r', a', o'⟩ := ok.box e
    refine ⟨c', o', PostS.ext x ?_⟩
    rw [r', a']
    exact q'
  · exact q'.elim
end

/-! ### a def from its body -/
def fnD (n : Nat) (m : DS) : Fn := fun ds A => match m (ds.map (fun d => some (.val d)) ++ List.replicate (n - ds.length) none) A with
  | .rt s A => .ok s A
  | .nx _ A => .ok (.val .non) A
  | .er e _ A => .er e A
  | _ => .bad
theorem Ok.start {g : Gx} {c : Cf} {H : Hp} {N : List Str} {vs : List V} {ds : List Dt} (o : Ok g c [] H) (r : c.repL g vs ds) :
    ∃ c', Ext c c' ∧ c'.r = ds.map (fun d => some (.val d)) ++ List.replicate (N.length - ds.length) none ∧ c'.A = c.A ∧ Ok g c' (start N vs) H := by
  let r' : Ev := ds.map (fun d => some (Sl.val d)) ++ List.replicate (N.length - ds.length) none
  let c1 : Cf := { c with r := r', loc := fun | .sl _ => none | .ob j => c.loc (.ob j) }
  have x : Ext c c1 := ⟨Same.refl _, rfl, fun _ _ e => e⟩
  have hl := r.length
  refine ⟨c1, x, rfl, rfl, o.fz, o.pr, o.fp, fun w w' a e e' => ?_, fun w a e => ?_, o.new, ?_, fun i s e => ?_, fun j ob e => (o.objs j ob e).imp x fun a ea => ⟨ea, rfl⟩⟩
  · cases w with
    | sl i => cases e
    | ob j => cases w' with
      | sl i => cases e'
      | ob j' => exact o.inj _ _ _ e e'
  · cases w with
    | sl i => cases e
    | ob j => exact o.own (.ob j) a e
  · show (L2.start N vs).length = r'.length
    simp only [L2.start, r', List.length_append, List.length_map, List.length_replicate, hl]
  · have e' : r'[i]? = some (some s) := e
    by_cases hi : i < ds.length
    · rw [List.getElem?_append_left (by simpa using hi), List.getElem?_map] at e'
      cases ed : ds[i]? with
      | none => rw [ed] at e'; cases e'
      | some d =>
        rw [ed] at e'
        cases e'
        obtain ⟨v, ev, rv⟩ := r.get ed
        refine ⟨v, ?_, x.rep rv⟩
        unfold L2.start
        rw [List.getElem?_append_left (by simpa [hl] using hi), List.getElem?_map, ev]
        rfl
    · rw [List.getElem?_append_right (by simpa using hi), List.getElem?_replicate] at e'
      split at e' <;> cases e'
theorem fn_ok {P : Program} {w : World} {K : PySem.W.Frag} {mg : Str → Option Value} {base : Heap} {x qual : Str} {st : Stmt} {f : Addr} {fd : FuncData} {N ps : List Str} {k : Nat} {m : DS}
    (F : L2.Fun K x qual st f fd) (S : FnScope N ps (defScope st))
    (hb : ∀ (cdv : Value) (A : Around) (outer : List Env) (s : Shared) (H : Hp) (E : XK), Room k (A.deeper (envOfC qual (defScope st) s.heap.objs.size f cdv)) →
      PSL (cxOf (L2.CX P w) P w K mg base N qual (defScope st) f cdv A outer s H E) (fun cls d _ H => E cls d H) (defBody st) m) :
    FnOk P w K mg base (L2.CX P w) (k + 1) f fd ps (spD ⟨P, w, K, mg⟩ ps.length (fnD N.length m)) := by
  refine F.okX S (fun vs H Q E h => h.1) (fun cdv A outer s H vs Q E hr h => ?_)
  obtain ⟨hl, c, ds, hr0, ok, rp, h⟩ := h
  refine ⟨_, (hb cdv A outer s H E hr).pss, ?_⟩
  obtain ⟨c1, x1, r1, a1, ok1⟩ := ok.start (N := N) rp
  refine ⟨c1, ok1, ?_⟩
  rw [r1, a1]
  have h' : PostF ⟨P, w, K, mg⟩ c (fnD N.length m ds c.A) Q E := h
  unfold fnD at h'
  cases e : m (ds.map (fun d => some (.val d)) ++ List.replicate (N.length - ds.length) none) c.A with
  | nx r A =>
    rw [e] at h'
    intro c' σ' H' x h1 h2 o
    obtain ⟨o', x'⟩ := o.leave
    exact h' _ _ H' ((x1.trans x).trans x') rfl h2 o' .non
  | rt s A =>
    rw [e] at h'
    intro c' v H' x h1 h2 o f
    exact h' _ _ H' (x1.trans x) h1 h2 o f
  | er ex r A =>
    rw [e] at h'
    intro c' cls d σ' H' x h1 h2 o f
    obtain ⟨o', x'⟩ := o.leave
    exact h' _ _ _ H' ((x1.trans x).trans x') rfl h2 o' (x'.ex f)
  | bk r A => rw [e] at h'; exact h'.elim
  | cn r A => rw [e] at h'; exact h'.elim
  | bad => rw [e] at h'; exact h'.elim
end Pp

set_option Elab.async false
set_option linter.all false
set_option maxRecDepth 100000
set_option maxHeartbeats 1000000
/-! PpG: what is walked: lists, tuples, ranges, enumerate and zip of these. -/
namespace Pp
open PySem PySem.Spec PyProof.Rows L2

/-! ### a list or a tuple (true: a list) -/
def SqB (k : Bool) (K : PySem.W.Frag) (H : Hp) (a : Addr) (xs : List V) : Prop := match k with
  | true => SqL K H a xs
  | false => SqT K H a xs
def ItB (k : Bool) (h : Heap) (it a : Addr) (i : Nat) : Prop := match k with
  | true => h.IsListIter it a i
  | false => h.IsTupleIter it a i
def DaB (k : Bool) (h : Heap) (a : Addr) (items : Array Value) : Prop := match k with
  | true => h.IsList a items
  | false => h.IsTuple a items
def itO (k : Bool) (a : Addr) : Obj := match k with
  | true => { cls := .type "list_iterator", data := .fields #[.ref a, .int 0 0] }
  | false => { cls := .type "tuple_iterator", data := .fields #[.ref a, .int 0 0] }
section
variable {X : Cx} {pins : List (Addr × Obj)} {σ : L2.St} {H : Hp} {s : Shared} {a it : Addr} {xs : List V} {k : Bool}
theorem sqB_inv (I : Inv X pins σ H s) (h : SqB k X.K H a xs) : ∃ its : List Value, Vals xs its ∧ DaB k s.heap a its.toArray ∧ a < s.heap.objs.size := by
  cases k with
  | true => obtain ⟨its, r, p, _⟩ := I.list h; exact ⟨its, r, p.isList, p.lt⟩
  | false => obtain ⟨its, r, p, _⟩ := I.tuple h; exact ⟨its, r, show s.heap.IsTuple a its.toArray from p, p.lt⟩
theorem sqB_inj {ys : List V} (I : Inv X pins σ H s) (h : SqB k X.K H a xs) (h' : SqB k X.K H a ys) : xs = ys := by
  cases k with
  | true => exact I.list_inj h h'
  | false => exact I.tuple_inj h h'
theorem drawsB {P : Program} {w : World} {A : Around} (hh : A.handled = none) (k : Bool) (it a : Addr) (hne : a ≠ it) (items : Array Value) : Draws P w A it [it, a] items.size (fun i v => items[i]? = some v) (fun i h => ItB k h it a i ∧ DaB k h a items) := by
  cases k with
  | true => exact Draws.list hh it a hne items
  | false => exact Draws.tuple hh it a hne items
theorem beginsB (k : Bool) (a : Addr) (items : Array Value) : Begins (.ref a) (itO k a) fun h => DaB k h a items := by
  cases k with
  | true => exact begins_list a items
  | false => exact begins_tuple a items
theorem itB0 {h : Heap} (e : h.get? it = some (itO k a)) : ItB k h it a 0 := by
  cases k with
  | true => exact ⟨_, e, rfl, rfl⟩
  | false => exact ⟨_, e, rfl, rfl⟩
theorem ItB.at {h h' : Heap} {i : Nat} (x : ItB k h it a i) (e : ∀ o, h.get? it = some o → h'.get? it = some o) : ItB k h' it a i := by
  cases k with
  | true => exact Heap.IsListIter.at x e
  | false => exact Heap.IsTupleIter.at x e
theorem ItB.obj {h : Heap} {i : Nat} (x : ItB k h it a i) : ∃ o, h.get? it = some o ∧ ∀ v, o.data ≠ .cell v := by
  cases k with
  | true => obtain ⟨o, e, _, d⟩ := x; exact ⟨o, e, fun v z => by rw [d] at z; cases z⟩
  | false => obtain ⟨o, e, _, d⟩ := x; exact ⟨o, e, fun v z => by rw [d] at z; cases z⟩

/-! ### pairs given out anew -/
/-- n turns, at turn i a new pair of x and y with Yp i x y -/
def Itp (n : Nat) (Gd : Hp → Prop) (Yp : Nat → Hp → V → V → Prop) : It :=
  ⟨fun i H => i < n ∧ Gd H, fun i H v H' => ∃ T x y, v = .ref T ∧ H T = none ∧ H' = upd H T (.tup [x, y]) ∧ Yp i H x y, fun i H => i = n ∧ Gd H⟩
theorem turn_pairs {P : Program} {w : World} {K : PySem.W.Frag} {tg : Expr} {n : Nat} {Gd : Hp → Prop} {Yp : Nat → Hp → V → V → Prop} {fpT : List Addr} {it : Addr} {tn : Nat → Heap → Prop}
    (mem : it ∈ fpT) (obj : ∀ i h, tn i h → ∀ b ∈ fpT, ∃ o, h.get? b = some o ∧ ∀ v, o.data ≠ .cell v) (keep : ∀ i h h', tn i h → (∀ b ∈ fpT, ∀ o, h.get? b = some o → h'.get? b = some o) → tn i h')
    (src : ∀ (X : Cx), X.prog = P → X.w = w → X.K = K → X.calm = true → ∀ (pins : List (Addr × Obj)) (s : Shared) (σ : L2.St) (H : Hp), Inv X pins σ H s → (∀ b ∈ fpT, FpOk X pins H b) → Gd H →
      ∃ (fp wr : List Addr) (Y : Nat → Heap → Value → Heap → Prop) (St : Nat → Heap → Prop), GoesN P w X.A tg it fp wr n Y St ∧ (∀ i, tn i s.heap → St i s.heap) ∧ (∀ i h, St i h → tn i h) ∧ (∀ b ∈ wr, b ∈ fpT) ∧
        ∀ i v h', i < n → Y i s.heap v h' → ∃ T u1 u2 x y, v = .ref T ∧ s.heap.objs.size ≤ T ∧ h'.IsTuple T #[u1, u2] ∧ RelV x u1 ∧ RelV y u2 ∧ Yp i H x y)
    (self : ∀ (A : Around) (i : Nat) (s : Shared) (Q : Value → Shared → Prop) (E : Value → Shared → Prop), tn i s.heap → Q (.ref it) s → wpAny (model P w) A (pyIter (.ref it)) Q E s) :
    Turn P w K tg (Itp n Gd Yp) fpT it tn where
  mem := mem
  obj := obj
  keep := keep
  item := by
    intro X hP hw hK hc i pins s σ H E I hf st hg
    obtain ⟨hi, hG⟩ := hg
    obtain ⟨fp, wr, Y, St, W, h1, h2, h3, h4⟩ := src X hP hw hK hc pins s σ H I hf hG
    refine thn (W.goes i s (fun v s2 => ∃ x H', Inv X pins σ H' s2 ∧ RelV x v ∧ (Itp n Gd Yp).yld i H x H' ∧ tn (i + 1) s2.heap ∧ ∀ b ∈ fpT, H' b = none) E hi (h1 i st) fun v h' tk hY st' hk _ => ?_) fun r s1 ⟨v, hr, q⟩ => ⟨v, hr, q⟩
    obtain ⟨T, u1, u2, x, y, rfl, hT, tup, r1, r2, yp⟩ := h4 i v h' hi hY
    have hn : H T = none := I.hok.fresh hT
    have new : ObjOk X.prog X.w (upd H T (.tup [x, y])) h' T (.tup [x, y]) := ⟨by show 2 ≤ sizeLine; decide, [u1, u2], .cons r1 (.cons r2 .nil), tup⟩
    refine ⟨.ref T, upd H T (.tup [x, y]), I.turnedNew (ch := fpT) (fun b o hb e => hk b o (fun z => hb (h3 b z)) e) hf hT new, rfl, ⟨T, x, y, rfl, hn, rfl, yp⟩, h2 _ _ st', fun b hb => ?_⟩
    obtain ⟨o, ho, _⟩ := obj _ _ st b hb
    rw [upd_ne (Nat.ne_of_lt (Nat.lt_of_lt_of_le (Heap.lt_size ho) hT))]
    exact (hf b hb).1
  done := by
    intro X hP hw hK hc i pins s σ H E I hf st hg
    obtain ⟨hi, hG⟩ := hg
    subst hi
    obtain ⟨fp, wr, Y, St, W, h1, h2, h3, h4⟩ := src X hP hw hK hc pins s σ H I hf hG
    exact W.stops s (fun s1 => Inv X pins σ H s1) E (h1 i st) fun h' tk hk _ => I.turnedL (ch := fpT) (fun b o hb e => hk b o (fun z => hb (h3 b z)) e) hf
  self := self
end

/-! ### enumerate(v) -/
set_option maxHeartbeats 1000000 in
theorem meets_enumerate_new1 {v : Value} {o : Obj} {H : Heap → Prop} (B : Begins v o H) :
    Meets (Builtin.«enumerate.__new__» ⟨[.type "enumerate", v], []⟩) (fun _ R s => H s.heap ∧
      R (.ok (.ret (.ref (s.heap.push o).objs.size))) { s with heap := (s.heap.push o).push { cls := .type "enumerate", data := .fields #[.none, .bool false, .ref s.heap.objs.size, rawInt 0, .none, .none] } }) :=
  .of_wp fun prog w A R s h => by
    obtain ⟨hp, g, d, tk, os⟩ := s; obtain ⟨h1, h⟩ := h
    have hsub := sub_enumerate
    have q1 : ∀ {A' : Around} {E : Value → Shared → Prop} {Q : Value → Shared → Prop}, Q (.ref hp.objs.size) ⟨hp.push o, g, d, tk, os⟩ → wpAny (model prog w) A' (pyIter v) Q E ⟨hp, g, d, tk, os⟩ :=
      fun q => B.iter prog w _ _ ⟨hp, g, d, tk, os⟩ _ h1 q
    wp_walk using q1
    refine wpAny_stack_any fun st => wpAny_pure ?_
    split
    · rename_i c _ _ _ _ _
      cases (c == Value.type "enumerate")
      · wp_walk using q1
        exact ⟨_, rfl, h⟩
      · wp_walk using q1
        exact ⟨_, rfl, h⟩
    · wp_walk using q1
      exact ⟨_, rfl, h⟩
theorem enum_begins1 {prog : Program} {w : World} {A : Around} {E : Value → Shared → Prop} {s : Shared} {v : Value} {o : Obj} {H : Heap → Prop} {Q : Value → Shared → Prop} (B : Begins v o H) (h1 : H s.heap)
    (h : ∀ h', IsEnum h' (s.heap.objs.size + 1) s.heap.objs.size 0 .none → h'.get? s.heap.objs.size = some o → h'.objs.size = s.heap.objs.size + 2 →
      (∀ b o, s.heap.get? b = some o → h'.get? b = some o) → Q (.ref (s.heap.objs.size + 1)) { s with heap := h' }) :
    wpAny (model prog w) A (call (.type "enumerate") [v]) Q E s := by
  refine callType_new F.called_enumerate (by decide) (F.typeCall_enumerate_1 _) (F.newCall_enumerate_1 _) (fun obj => F.args_object_init_2 obj _) F.entry_enumerate_new
    (meets_enumerate_new1 B) ⟨h1, ?_⟩
  have hz : (s.heap.push o).objs.size = s.heap.objs.size + 1 := Heap.size_push ..
  show _ ∧ _
  rw [hz]
  have he : IsEnum ((s.heap.push o).push { cls := .type "enumerate", data := .fields #[.none, .bool false, .ref s.heap.objs.size, rawInt 0, .none, .none] }) (s.heap.objs.size + 1) s.heap.objs.size 0 .none := by
    have := Heap.get?_push_size (s.heap.push o) (o := { cls := .type "enumerate", data := .fields #[.none, .bool false, .ref s.heap.objs.size, rawInt 0, .none, .none] }) rfl
    rw [hz] at this; exact this
  refine ⟨⟨_, he, rfl⟩, h _ he (Heap.get?_push_of_some _ (Heap.get?_push_size _ B.free)) (by rw [Heap.size_push, hz]) fun b o x => Heap.get?_push_of_some _ (Heap.get?_push_of_some _ x)⟩
section
variable {P : Program} {w : World} {K : PySem.W.Frag}
def atB (k : Bool) (K : PySem.W.Frag) (a : Addr) (i : Nat) (H : Hp) (y : V) : Prop := ∀ xs, SqB k K H a xs → xs[i]? = some y
def ofB (k : Bool) (K : PySem.W.Frag) (a : Addr) (n : Nat) (H : Hp) : Prop := ∃ xs, xs.length = n ∧ SqB k K H a xs
theorem turn_en {elts : List Expr} {kk : Nat} {tpos : Pos} {k : Bool} {a e it : Addr} {n : Nat} (hne : e ≠ it) (hai : a ≠ it) (hae : e ≠ a) :
    Turn P w K (.Tuple elts kk tpos) (Itp n (ofB k K a n) (fun i H x y => x = .int (i : Nat) ∧ atB k K a i H y)) [e, it] e (fun i h => (∃ old, IsEnum h e it (0 + ((i : Nat) : Int)) old) ∧ ItB k h it a i) := by
  refine turn_pairs (by simp) (fun i h st b hb => ?_) (fun i h h' st kk => ?_) (fun X hP hw hK hc pins s σ H I hf hG => ?_) (fun A i s Q E st h => ?_)
  · obtain ⟨⟨old, he⟩, hi⟩ := st
    have e' : b = e ∨ b = it := by simpa using hb
    rcases e' with z | z
    · rw [z]; exact ⟨_, he, fun v q => nomatch q⟩
    · rw [z]; exact hi.obj
  · obtain ⟨⟨old, he⟩, hi⟩ := st
    exact ⟨⟨old, kk e (by simp) _ he⟩, hi.at fun o q => kk it (by simp) o q⟩
  · subst hP hw hK
    obtain ⟨xs, hn, hG⟩ := hG
    subst hn
    obtain ⟨its, rv, da, _⟩ := sqB_inv I hG
    have hl := rv.length
    have D := drawsB (P := X.prog) (w := X.w) (A := X.A.in1) (by exact I.ok.hd hc) k it a hai its.toArray
    have W := GoesN.enumFrom (elts := elts) (x1 := kk) (pos := tpos) 0 D e hne (by simp [hne, hae]) (by simp)
    have hz : its.toArray.size = xs.length := by simp [hl]
    rw [hz] at W
    refine ⟨_, _, _, _, W, fun i st => ⟨st.1, st.2, da⟩, fun i h st => ⟨st.1, st.2.1⟩, fun b hb => hb, fun i v h' hi hY => ?_⟩
    obtain ⟨T, t, u1, ev, hn, hx, hT⟩ := hY
    obtain ⟨u, hu, ru⟩ := rv.get (i := i) (List.getElem?_eq_getElem hi)
    have e2 : its[i]? = some u1 := by simpa using hx
    rw [hu] at e2
    cases e2
    exact ⟨T, _, _, .int (0 + (i : Nat)), xs[i], ev, hn, hT, ⟨t, rfl⟩, ru, by simp, fun ys hy => by rw [sqB_inj I hy hG]; exact List.getElem?_eq_getElem hi⟩
  · obtain ⟨⟨old, he⟩, _⟩ := st
    exact wpAny_pyIter_enum he h
theorem turn_zp {elts : List Expr} {kk : Nat} {tpos : Pos} {k1 k2 : Bool} {a b z TI TO i1 i2 : Addr} {n1 n2 : Nat} (S : ZipSep2 z TI TO i1 i2 [i1, a] [i2, b]) (ha : a ≠ i1) (hb : b ≠ i2) (nTO : TO ≠ z) :
    Turn P w K (.Tuple elts kk tpos) (Itp (min n1 n2) (fun H => ofB k1 K a n1 H ∧ ofB k2 K b n2 H) (fun i H x y => atB k1 K a i H x ∧ atB k2 K b i H y)) [z, TI, TO, i1, i2] z
      (fun i h => IsZip h z TI TO .none ∧ IsTupOf2 h TI (.ref i1) (.ref i2) ∧ (∃ a1 a2, IsTupOf2 h TO a1 a2) ∧ ItB k1 h i1 a i ∧ ItB k2 h i2 b i) := by
  refine turn_pairs (by simp) (fun i h st c hc => ?_) (fun i h h' st kk => ?_) (fun X hP hw hK hc pins s σ H I hf hG => ?_) (fun A i s Q E st h => ?_)
  · obtain ⟨hz, hTI, ⟨_, _, hTO⟩, h1, h2⟩ := st
    have e' : c = z ∨ c = TI ∨ c = TO ∨ c = i1 ∨ c = i2 := by simpa using hc
    rcases e' with q | q | q | q | q
    · rw [q]; exact ⟨_, hz, fun v q => nomatch q⟩
    · rw [q]; exact ⟨_, hTI, fun v q => nomatch q⟩
    · rw [q]; exact ⟨_, hTO, fun v q => nomatch q⟩
    · rw [q]; exact h1.obj
    · rw [q]; exact h2.obj
  · obtain ⟨hz, hTI, ⟨_, _, hTO⟩, h1, h2⟩ := st
    exact ⟨kk z (by simp) _ hz, kk TI (by simp) _ hTI, ⟨_, _, kk TO (by simp) _ hTO⟩, h1.at fun o q => kk i1 (by simp) o q, h2.at fun o q => kk i2 (by simp) o q⟩
  · subst hP hw hK
    obtain ⟨⟨xs, hn1, hG1⟩, ys, hn2, hG2⟩ := hG
    subst hn1 hn2
    obtain ⟨its1, rv1, da1, _⟩ := sqB_inv I hG1
    obtain ⟨its2, rv2, da2, _⟩ := sqB_inv I hG2
    have hl1 := rv1.length
    have hl2 := rv2.length
    have D1 := drawsB (P := X.prog) (w := X.w) (A := X.A.in1) (by exact I.ok.hd hc) k1 i1 a ha its1.toArray
    have D2 := drawsB (P := X.prog) (w := X.w) (A := X.A.in1) (by exact I.ok.hd hc) k2 i2 b hb its2.toArray
    have W := GoesN.zip2 (elts := elts) (x1 := kk) (pos := tpos) S D1 D2
    have hz1 : its1.toArray.size = xs.length := by simp [hl1]
    have hz2 : its2.toArray.size = ys.length := by simp [hl2]
    rw [hz1, hz2] at W
    refine ⟨_, _, _, _, W, fun i st => ⟨st.1, st.2.1, st.2.2.1, ⟨st.2.2.2.1, da1⟩, st.2.2.2.2, da2⟩, fun i h st => ⟨st.1, st.2.1, st.2.2.1, st.2.2.2.1.1, st.2.2.2.2.1⟩, fun c hb => ?_, fun i v h' hi hY => ?_⟩
    · have e' : c = z ∨ c = TO ∨ c = i1 ∨ c = i2 := by simpa using hb
      rcases e' with q | q | q | q <;> simp [q]
    · obtain ⟨T, u1, u2, ev, hn, hx, hy, hT⟩ := hY
      have hlt1 : i < xs.length := by omega
      have hlt2 : i < ys.length := by omega
      obtain ⟨u, hu, ru⟩ := rv1.get (i := i) (List.getElem?_eq_getElem hlt1)
      obtain ⟨u', hu', ru'⟩ := rv2.get (i := i) (List.getElem?_eq_getElem hlt2)
      have e1 : its1[i]? = some u1 := by simpa using hx
      have e2 : its2[i]? = some u2 := by simpa using hy
      rw [hu] at e1
      cases e1
      rw [hu'] at e2
      cases e2
      exact ⟨T, _, _, xs[i], ys[i], ev, hn, hT, ru, ru', fun zs hz => by rw [sqB_inj I hz hG1]; exact List.getElem?_eq_getElem hlt1, fun zs hz => by rw [sqB_inj I hz hG2]; exact List.getElem?_eq_getElem hlt2⟩
  · exact wpAny_pyIter_zip st.1 h
end

/-! ### the readings -/
def iSeq (K : PySem.W.Frag) (te : TE) : TI := fun σ H R => te σ H fun x H1 => ∃ k a xs, x = .ref a ∧ SqB k K H1 a xs ∧ R (match k with | true => Itl K a | false => Itt K a) H1
theorem pi_seq {X : Cx} {tg l : Expr} {tl : TE} (hl : PE X l tl) : PI X tg l (iSeq X.K tl) := by
  refine ⟨fun pins s σ H R I h => ?_⟩
  refine thn (hl.run pins s σ H _ I h) fun v s1 ⟨x, H1, I1, r1, q1⟩ => ?_
  obtain ⟨k, a, xs, e, hq, q⟩ := q1
  subst e
  cases r1
  cases k with
  | true =>
    obtain ⟨its, rv, p, hz⟩ := I1.list hq
    refine wpAny_pyIter_list p.isList ?_
    refine ⟨s1.heap.objs.size, [s1.heap.objs.size], _, _, H1, rfl, I1.kept (t' := s1.toks) fun b o e => Heap.get?_push_of_some _ e, turn_list a _, ⟨_, Heap.get?_push_size _ rfl, rfl, rfl⟩, fun b hb => ?_, q⟩
    have e : b = s1.heap.objs.size := by simpa using hb
    subst e
    exact I1.fpOk (Nat.le_refl _) (I1.hok.fresh (Nat.le_refl _))
  | false =>
    obtain ⟨its, rv, p, hz⟩ := I1.tuple hq
    refine wpAny_pyIter_tuple (show s1.heap.IsTuple a its.toArray from p) ?_
    refine ⟨s1.heap.objs.size, [s1.heap.objs.size], _, _, H1, rfl, I1.kept (t' := s1.toks) fun b o e => Heap.get?_push_of_some _ e, turn_tuple a _, ⟨_, Heap.get?_push_size _ rfl, rfl, rfl⟩, fun b hb => ?_, q⟩
    have e : b = s1.heap.objs.size := by simpa using hb
    subst e
    exact I1.fpOk (Nat.le_refl _) (I1.hok.fresh (Nat.le_refl _))
def iEn (K : PySem.W.Frag) (ta : TA) : TI := fun σ H R => ta σ H fun vs H1 => ∃ k a xs, vs = [.ref a] ∧ SqB k K H1 a xs ∧ R (Itp xs.length (ofB k K a xs.length) (fun i H x y => x = .int (i : Nat) ∧ atB k K a i H y)) H1
theorem pi_en {X : Cx} {e : Expr} {ta : TA} {p pos tpos : Pos} {elts : List Expr} {kk : Nat} (hg : Gl X "enumerate") (hm : X.mg "enumerate" = none) (ha : PA X [e] ta) (hs : starEach [e] X.env = [(false, eval e X.env)] := by rfl) :
    PI X (.Tuple elts kk tpos) (.Call (.Name "enumerate" p) [e] [] pos) (iEn X.K ta) := by
  refine ⟨fun pins s σ H R I h => ?_⟩
  refine Call_ (ld_blt I hg hm boot_enumerate (PyProof.Rows.callWith_type1 (thn (ha.run pos pins s σ H _ I h) fun us s1 ⟨vs, H1, I1, r1, q1⟩ => ?_) hs rfl))
  obtain ⟨k, a, xs, ex, hq, q⟩ := q1
  subst ex
  cases r1 with
  | cons r rr =>
    cases rr
    cases r
    obtain ⟨its, rv, da, la⟩ := sqB_inv I1 hq
    refine enum_begins1 (beginsB k a its.toArray) da fun h' he hit hsz hk => wpAny_pyIter_enum he ?_
    have I2 : Inv X pins σ H1 { s1 with heap := h' } := I1.kept (t' := s1.toks) hk
    have n1 : a ≠ s1.heap.objs.size := Nat.ne_of_lt la
    have n2 : s1.heap.objs.size + 1 ≠ a := fun z => by rw [← z] at la; exact absurd la (by show ¬ (s1.heap.objs.size + 1 : Nat) < _; omega)
    refine ⟨s1.heap.objs.size + 1, [s1.heap.objs.size + 1, s1.heap.objs.size], _, _, H1, rfl, I2, turn_en (e := s1.heap.objs.size + 1) (it := s1.heap.objs.size) (Nat.succ_ne_self _) n1 n2, ⟨⟨.none, by simpa using he⟩, itB0 hit⟩, fun b hb => ?_, q⟩
    have e' : b = s1.heap.objs.size + 1 ∨ b = s1.heap.objs.size := by simpa using hb
    have hle : s1.heap.objs.size ≤ b := by
      rcases e' with z | z
      · rw [z]; exact Nat.le_add_right _ _
      · rw [z]; exact Nat.le_refl _
    exact I1.fpOk hle (I1.hok.fresh hle)
def iZp (K : PySem.W.Frag) (ta : TA) : TI := fun σ H R => ta σ H fun vs H1 => ∃ k1 k2 a b xs ys, vs = [.ref a, .ref b] ∧ SqB k1 K H1 a xs ∧ SqB k2 K H1 b ys ∧
  R (Itp (min xs.length ys.length) (fun H => ofB k1 K a xs.length H ∧ ofB k2 K b ys.length H) (fun i H x y => atB k1 K a i H x ∧ atB k2 K b i H y)) H1
theorem pi_zp {X : Cx} {e e2 : Expr} {ta : TA} {p pos tpos : Pos} {elts : List Expr} {kk : Nat} (hg : Gl X "zip") (hm : X.mg "zip" = none) (ha : PA X [e, e2] ta)
    (hs : starEach [e, e2] X.env = (false, eval e X.env) :: starEach [e2] X.env := by rfl) (hpl : (backTo pos (starEach [e2] X.env)).any (·.1) = false := by rfl) :
    PI X (.Tuple elts kk tpos) (.Call (.Name "zip" p) [e, e2] [] pos) (iZp X.K ta) := by
  refine ⟨fun pins s σ H R I h => ?_⟩
  refine Call_ (ld_blt I hg hm PyProof.Rows.boot_zip (PyProof.Rows.callWith_type1 (thn (ha.run pos pins s σ H _ I h) fun us s1 ⟨vs, H1, I1, r1, q1⟩ => ?_) hs hpl))
  obtain ⟨k1, k2, a, b, xs, ys, ex, hqx, hqy, q⟩ := q1
  subst ex
  cases r1 with
  | cons r rr =>
    cases rr with
    | cons r' rr =>
      cases rr
      cases r
      cases r'
      obtain ⟨its, rv, d1, la⟩ := sqB_inv I1 hqx
      obtain ⟨its2, rv2, d2, lb⟩ := sqB_inv I1 hqy
      refine zip_begins2 (beginsB k1 a its.toArray) (beginsB k2 b its2.toArray) d1 d2 fun h' hz hTI hTO h1 h2 hsz hk => wpAny_pyIter_zip hz ?_
      have I2 : Inv X pins σ H1 { s1 with heap := h' } := I1.kept (t' := s1.toks) hk
      have S := zip_sep2 (N := s1.heap.objs.size) (fp1 := [a]) (fp2 := [b]) (fun c hc => (List.mem_singleton.mp hc) ▸ la) (fun c hc => (List.mem_singleton.mp hc) ▸ lb)
      have nb : b ≠ s1.heap.objs.size + 1 := Nat.ne_of_lt (Nat.lt_succ_of_lt lb)
      refine ⟨s1.heap.objs.size + 4, [s1.heap.objs.size + 4, s1.heap.objs.size + 2, s1.heap.objs.size + 3, s1.heap.objs.size, s1.heap.objs.size + 1], _, _, H1, rfl, I2, turn_zp S (Nat.ne_of_lt la) nb S.TOz, ⟨hz, hTI, ⟨_, _, hTO⟩, itB0 h1, itB0 h2⟩, fun c hcm => ?_, q⟩
      have e' : c = s1.heap.objs.size + 4 ∨ c = s1.heap.objs.size + 2 ∨ c = s1.heap.objs.size + 3 ∨ c = s1.heap.objs.size ∨ c = s1.heap.objs.size + 1 := by simpa using hcm
      have hle : s1.heap.objs.size ≤ c := by
        rcases e' with z | z | z | z | z
        · rw [z]; exact Nat.le_add_right _ _
        · rw [z]; exact Nat.le_add_right _ _
        · rw [z]; exact Nat.le_add_right _ _
        · rw [z]; exact Nat.le_refl _
        · rw [z]; exact Nat.le_add_right _ _
      exact I1.fpOk hle (I1.hok.fresh hle)
end Pp

set_option Elab.async false
set_option linter.all false
set_option maxRecDepth 100000
set_option maxHeartbeats 1000000
/-! PpH: targets, walks, for, comprehensions, while. -/
namespace Pp
open PySem PySem.Spec PyProof.Rows L2

/-! ### targets -/
abbrev TD := Dt → Ev → Option Ev
def tG (g : Gx) (is : List Nat) (t : TD) : TG := fun v σ H Q => ∃ c d, Ok g c σ H ∧ c.rep g v d ∧ match t d c.r with
  | some r => ∀ c' σ', Ext c c' → c'.r = r → c'.A = c.A → σ'.length = σ.length → (∀ j, j ∉ is → σ'[j]? = σ[j]? ∧ c'.r[j]? = c.r[j]?) → Ok g c' σ' H → Q σ' H
  | none => False
structure PGt (X : Cx) (tg : Expr) (is : List Nat) (t : TD) : Prop where
  pg : PG X tg (tG (gx X) is t)
abbrev TDs := List Dt → Ev → Option Ev
def tGs (g : Gx) (is : List Nat) (t : TDs) : TGs := fun vs σ H Q => ∃ c ds, Ok g c σ H ∧ c.repL g vs ds ∧ match t ds c.r with
  | some r => ∀ c' σ', Ext c c' → c'.r = r → c'.A = c.A → σ'.length = σ.length → (∀ j, j ∉ is → σ'[j]? = σ[j]? ∧ c'.r[j]? = c.r[j]?) → Ok g c' σ' H → Q σ' H
  | none => False
structure PGts (X : Cx) (tg : List Expr) (is : List Nat) (t : TDs) : Prop where
  pg : PGs X tg (tGs (gx X) is t)
section
variable {X : Cx} {pos : Pos}
theorem _root_.L2.PG.weak {e : Expr} {t t' : TG} (h : PG X e t) (w : ∀ v σ H Q, t' v σ H Q → t v σ H Q) : PG X e t' := ⟨fun pins s σ H v u Q I r q => h.run pins s σ H v u Q I r (w _ _ _ _ q)⟩
theorem _root_.L2.PGs.weak {e : List Expr} {t t' : TGs} (h : PGs X e t) (w : ∀ v σ H Q, t' v σ H Q → t v σ H Q) : PGs X e t' := ⟨fun pins s σ H v u Q I r q => h.run pins s σ H v u Q I r (w _ _ _ _ q)⟩
theorem _root_.L2.PI.weak {tg e : Expr} {t t' : TI} (h : PI X tg e t) (w : ∀ σ H Q, t' σ H Q → t σ H Q) : PI X tg e t' := ⟨fun pins s σ H Q I q => h.run pins s σ H Q I (w _ _ _ q)⟩
def gtN (i : Nat) : TD := fun d r => some (r.set i (some (.val d)))
theorem pgt_name {i : Nat} {x : Str} (hN : X.N.Nodup) (hi : X.N[i]? = some x := by rfl) (hx : Loc X.env.scope x := by first | exact .inl rfl | exact .inr rfl) (hf : X.fn x = true ∨ X.env.scope.names.lookup x = some .local := by first | exact .inl rfl | exact .inr rfl) : PGt X (.Name x pos) [i] (gtN i) := by
  refine ⟨(pg_name hN hi hx hf).weak fun v σ H Q ⟨c, d, ok, r, h⟩ => ?_⟩
  obtain ⟨c', x, r', a', o'⟩ := ok.store (s := .val d) r i
  have hj : ∀ j, j ∉ [i] → i ≠ j := fun j hj z => hj (by rw [z]; exact List.mem_singleton.mpr rfl)
  exact h c' _ x r' a' (List.length_set ..) (fun j hn => ⟨List.getElem?_set_ne (hj j hn), by rw [r']; exact List.getElem?_set_ne (hj j hn)⟩) o'
def gtNil : TDs := fun ds r => match ds with
  | [] => some r
  | _ => none
def gtCons (t : TD) (u : TDs) : TDs := fun ds r => match ds with
  | d :: ds => match t d r with
    | some r => u ds r
    | none => none
  | [] => none
theorem pgts_nil : PGts X [] [] gtNil := by
  refine ⟨pgs_nil.weak fun vs σ H Q ⟨c, ds, ok, r, h⟩ => ?_⟩
  unfold gtNil at h
  split at h
  · rename_i r' e
    split at e
    · cases e; cases r; exact ⟨rfl, h c σ (Ext.refl c) rfl rfl rfl (fun _ _ => ⟨rfl, rfl⟩) ok⟩
    · cases e
  · exact h.elim
theorem pgts_cons {e : Expr} {es : List Expr} {is js : List Nat} {t : TD} {u : TDs} (h1 : PGt X e is t) (h2 : PGts X es js u)
    (hs : (assignEach (e :: es) X.env).map (·.2) = assign e X.env :: (assignEach es X.env).map (·.2) := by rfl) : PGts X (e :: es) (is ++ js) (gtCons t u) := by
  refine ⟨(pgs_cons h1.pg h2.pg hs).weak fun vs σ H Q ⟨c, ds, ok, r, h⟩ => ?_⟩
  cases r with
  | nil => exact h.elim
  | @cons v d vs ds r rr =>
    refine ⟨v, vs, rfl, c, d, ok, r, ?_⟩
    have h' : match (match t d c.r with | some r => u ds r | none => none) with
      | some r => ∀ c' σ', Ext c c' → c'.r = r → c'.A = c.A → σ'.length = σ.length → (∀ j, j ∉ is ++ js → σ'[j]? = σ[j]? ∧ c'.r[j]? = c.r[j]?) → Ok (gx X) c' σ' H → Q σ' H
      | none => False := h
    cases e1 : t d c.r with
    | none => rw [e1] at h'; exact h'
    | some r1 =>
      rw [e1] at h'
      intro c1 σ1 x1 hr1 ha1 hl1 hj1 ok1
      refine ⟨c1, ds, ok1, x1.repL rr, ?_⟩
      rw [hr1]
      cases e2 : u ds r1 with
      | none => simp only [e2] at h'
      | some r2 =>
        simp only [e2] at h'
        intro c2 σ2 x2 hr2 ha2 hl2 hj2 ok2
        refine h' c2 σ2 (x1.trans x2) hr2 (ha2.trans ha1) (hl2.trans hl1) (fun j hj => ?_) ok2
        obtain ⟨p1, p2⟩ := hj1 j fun z => hj (List.mem_append_left _ z)
        obtain ⟨p3, p4⟩ := hj2 j fun z => hj (List.mem_append_right _ z)
        exact ⟨p3.trans p1, p4.trans (by rw [← hr1]; exact p2)⟩
def gtT (n : Nat) (u : TDs) : TD := fun d r => match d with
  | .tup l => if l.length = n then u l r else none
  | _ => none
theorem pgt_tup {es : List Expr} {k : Nat} {is : List Nat} {u : TDs} {n : Nat} (hc : X.calm = true) (h : PGts X es is u)
    (hn : (assignEach es X.env).length = n := by rfl) (hst : (assignEach es X.env).findIdx? (·.1) = none := by rfl) : PGt X (.Tuple es k pos) is (gtT n u) := by
  refine ⟨(pg_tup hc h.pg hn hst).weak fun v σ H Q ⟨c, d, ok, r, q⟩ => ?_⟩
  unfold gtT at q
  cases r with
  | @tup a vs l ht rl =>
    simp only at q
    by_cases hl : l.length = n
    · rw [if_pos hl] at q
      exact ⟨a, vs, rfl, SqT.mono (g := gx X) ok.fz ht, rl.length.trans hl, c, l, ok, rl, q⟩
    · rw [if_neg hl] at q
      exact q.elim
  | _ => exact q.elim
end

/-! ### what is walked -/
/-- what stands goes on standing -/
structure Ext0 (c c' : Cf) : Prop where
  F : Same c.F c'.F
  mu : ∀ j a, c.loc (.ob j) = some a → c'.loc (.ob j) = some a
theorem Ext.to0 {c c' : Cf} (x : Ext c c') : Ext0 c c' := ⟨x.F, x.mu⟩
theorem Ext0.refl (c : Cf) : Ext0 c c := ⟨Same.refl _, fun _ _ h => h⟩
theorem Ext0.trans {c c1 c2 : Cf} (a : Ext0 c c1) (b : Ext0 c1 c2) : Ext0 c c2 := ⟨a.F.trans b.F, fun j x h => b.mu j x (a.mu j x h)⟩
theorem Ext0.rep {g : Gx} {c c' : Cf} (e : Ext0 c c') {v : V} {d : Dt} (h : c.rep g v d) : c'.rep g v d := h.mono e.F e.mu
theorem Ext0.repL {g : Gx} {c c' : Cf} (e : Ext0 c c') {vs : List V} {l : List Dt} (h : c.repL g vs l) : c'.repL g vs l := h.mono e.F e.mu
structure Src where
  ds : List Dt
  gd : Ar → Prop
  ow : List (Nat × List Dt)
def Src.pl (l : List Dt) : Src := ⟨l, fun _ => True, []⟩
def OwOk (c' : Cf) (σ σ' : L2.St) (ow : List (Nat × List Dt)) : Prop := ∀ p ∈ ow, σ'[p.1]? = σ[p.1]? ∧ c'.r[p.1]? = some (some (.lst p.2))
theorem nil_ow {c' : Cf} {σ σ' : L2.St} : OwOk c' σ σ' [] := fun p hp => nomatch hp
def RI (g : Gx) (c : Cf) (σ : L2.St) (H : Hp) (J : It) (d : Src) : Prop :=
  (d.gd c.A ∧ OwOk c σ σ d.ow) ∧ ∀ c' σ' H', Ext0 c c' → Ok g c' σ' H' → d.gd c'.A → OwOk c' σ σ' d.ow →
    J.stop d.ds.length H' ∧ ∀ i x, d.ds[i]? = some x → J.go i H' ∧ ∀ v H'', J.yld i H' v H'' → ∃ c'', Ext c' c'' ∧ c''.r = c'.r ∧ c''.A = c'.A ∧ Ok g c'' σ' H'' ∧ c''.rep g v x
structure PIt (X : Cx) (W : WX) (tg e : Expr) (m : DM Src) : Prop where
  pi : PI X tg e (tM (gx X) (RI (gx X)) W m)
/-- a list or tuple that is walked -/
def RQ (g : Gx) (c : Cf) (σ : L2.St) (H : Hp) (v : V) (d : Src) : Prop :=
  (d.gd c.A ∧ OwOk c σ σ d.ow) ∧ ∃ k a, v = .ref a ∧ ∀ c' σ' H', Ext0 c c' → Ok g c' σ' H' → d.gd c'.A → OwOk c' σ σ' d.ow → ∃ xs, SqB k g.K H' a xs ∧ c'.repL g xs d.ds
structure PSq (X : Cx) (W : WX) (e : Expr) (m : DM Src) : Prop where
  pe : PE X e (tM (gx X) (RQ (gx X)) W m)
/-- as a value that stands tells it -/
def srcD (d : Dt) (A : Ar) : Option Src := match d with
  | .tup l => some (.pl l)
  | .lst l => some (.pl l)
  | .fz l => some (.pl l)
  | .obj j => match A[j]? with
    | some (.box l) => some ⟨l, fun A => A[j]? = some (.box l), []⟩
    | _ => none
  | _ => none
theorem srcD_ok {g : Gx} {c : Cf} {σ : L2.St} {H : Hp} {v : V} {d : Dt} {s : Src} (o : Ok g c σ H) (r : c.rep g v d) (e : srcD d c.A = some s) : RQ g c σ H v s := by
  unfold srcD at e
  split at e
  · cases e
    cases r with
    | tup ht rl => exact ⟨⟨trivial, nil_ow⟩, false, _, rfl, fun c' σ' H' x o' _ _ => ⟨_, SqT.mono (g := g) (x.F.trans o'.fz) ht, x.repL rl⟩⟩
  · cases e
    cases r with
    | lst ht rl => exact ⟨⟨trivial, nil_ow⟩, true, _, rfl, fun c' σ' H' x o' _ _ => ⟨_, SqL.of (o'.fz _ _ (x.F _ _ ht)), x.repL rl⟩⟩
  · cases e
    cases r with
    | fz ht rl => exact ⟨⟨trivial, nil_ow⟩, true, _, rfl, fun c' σ' H' x o' _ _ => ⟨_, o'.fz.seq (x.F.seq ht), x.repL rl⟩⟩
  · rename_i j
    split at e
    · rename_i l ej
      cases e
      cases r with
      | obj hj =>
        refine ⟨⟨ej, nil_ow⟩, true, _, rfl, fun c' σ' H' x o' hg _ => ?_⟩
        obtain ⟨a, vs, h1, h2, h3⟩ := o'.objs j _ hg
        have e2 := (x.mu _ _ hj).symm.trans h1
        cases e2
        exact ⟨vs, SqL.of h2, h3⟩
    · cases e
  · cases e
section
variable {X : Cx} {W : WX} {e e2 tg : Expr} {pos p : Pos}
def mSrc (m : DM Dt) : DM Src := fun r A => (m r A).bind fun d A => match srcD d A with
  | some s => .ok s A
  | none => .bad
theorem pq_of {m : DM Dt} (h : PD X W e m) : PSq X W e (mSrc m) := by
  refine ⟨h.pe.weak fun σ H Q ⟨c, ok, q⟩ => ⟨c, ok, (Post.bind (R := RV (gx X)) q).mono fun v H1 ⟨c1, d, x1, r1, ok1, f, q1⟩ => ?_⟩⟩
  split at q1
  · rename_i s es
    exact q1.ok ok1 (srcD_ok ok1 f es)
  · exact q1.elim
/-- a name -/
def mSrcN (i : Nat) : DM Src := fun r A => match r[i]? with
  | some (some (.val d)) => match srcD d A with
    | some s => .ok s A
    | none => .bad
  | some (some (.lst l)) => .ok ⟨l, fun _ => True, [(i, l)]⟩ A
  | _ => .bad
theorem pq_name {i : Nat} {x : Str} (hN : X.N[i]? = some x := by rfl) (hv : Vis X.env.scope x := by first | exact Or.inl rfl | exact Or.inr (Or.inl rfl) | exact Or.inr (Or.inr rfl)) (hd : (x == ("__debug__" : Str)) = false := by decide)
    (hcd : (x == ("__classdict__" : Str)) = false := by decide) : PSq X W (.Name x pos) (mSrcN i) := by
  refine ⟨(pe_var hN hv hd hcd).weak fun σ H Q ⟨c, ok, h⟩ => ?_⟩
  unfold mSrcN at h
  split at h
  · rename_i d er
    obtain ⟨v, h1, h2⟩ := ok.slots i _ er
    split at h
    · rename_i s es
      exact ⟨v, h1, h.ok ok (srcD_ok ok h2 es)⟩
    · exact h.elim
  · rename_i l er
    obtain ⟨v, h1, h2⟩ := ok.slots i _ er
    refine ⟨v, h1, h.ok ok ⟨⟨trivial, fun p hp => ?_⟩, ?_⟩⟩
    · have z := List.mem_singleton.mp hp
      subst z
      exact ⟨rfl, er⟩
    · obtain ⟨a, vs, rfl, _, _, _⟩ := h2
      refine ⟨true, a, rfl, fun c' σ' H' x o' _ ho => ?_⟩
      obtain ⟨z1, z2⟩ := ho (i, l) (List.mem_singleton.mpr rfl)
      obtain ⟨v', k1, a', vs', rfl, k3, k4, k5⟩ := o'.slots i _ z2
      have z3 := z1.symm.trans k1
      rw [h1] at z3
      cases z3
      exact ⟨vs', SqL.of k4, k5⟩
  · exact h.elim
/-- a list or tuple is walked -/
theorem pit_seq {m : DM Src} (h : PSq X W e m) : PIt X W tg e m := by
  refine ⟨(pi_seq h.pe).weak fun σ H R ⟨c, ok, q⟩ => ⟨c, ok, ?_⟩⟩
  cases em : m c.r c.A with
  | er ex A => rw [em] at q; exact q
  | bad => rw [em] at q; exact q
  | ok d A =>
    rw [em] at q
    intro c1 v H1 x1 r1 a1 ok1 rq
    subst a1
    obtain ⟨ho, k, a, rfl, hq⟩ := rq
    obtain ⟨xs, hs, rl⟩ := hq c1 σ H1 (Ext0.refl _) ok1 ho.1 ho.2
    refine ⟨k, a, xs, rfl, hs, q c1 _ H1 x1 r1 rfl ok1 ⟨ho, fun c' σ' H' x' o' g' w' => ?_⟩⟩
    obtain ⟨ys, hy, ry⟩ := hq c' σ' H' x' o' g' w'
    have hl := ry.length
    cases k with
    | true =>
      refine ⟨⟨ys, hy, by omega⟩, fun i x ei => ?_⟩
      obtain ⟨v, ev, rv⟩ := ry.get ei
      refine ⟨⟨ys, v, hy, ev⟩, fun v' H'' ⟨hh, hv⟩ => ?_⟩
      subst hh
      have z := (hv ys hy).symm.trans ev
      cases z
      exact ⟨c', Ext.refl _, rfl, rfl, o', rv⟩
    | false =>
      refine ⟨⟨ys, hy, by omega⟩, fun i x ei => ?_⟩
      obtain ⟨v, ev, rv⟩ := ry.get ei
      refine ⟨⟨ys, v, hy, ev⟩, fun v' H'' ⟨hh, hv⟩ => ?_⟩
      subst hh
      have z := (hv ys hy).symm.trans ev
      cases z
      exact ⟨c', Ext.refl _, rfl, rfl, o', rv⟩
/-- enumerate(e) -/
def enL : Nat → List Dt → List Dt
  | _, [] => []
  | i, d :: l => .tup [.int (i : Nat), d] :: enL (i + 1) l
theorem enL_get : ∀ {l : List Dt} {n i : Nat} {x : Dt}, (enL n l)[i]? = some x → ∃ d, l[i]? = some d ∧ x = .tup [.int ((n + i : Nat) : Int), d]
  | d :: l, n, 0, x, h => by
    simp [enL] at h
    exact ⟨d, rfl, by rw [← h]; simp⟩
  | d :: l, n, i + 1, x, h => by
    have h' : (enL (n + 1) l)[i]? = some x := by simpa [enL] using h
    obtain ⟨d', e1, e2⟩ := enL_get h'
    exact ⟨d', by simpa using e1, by rw [e2, show n + 1 + i = n + (i + 1) by omega]⟩
  | [], n, i, x, h => by simp [enL] at h
theorem enL_length : ∀ (l : List Dt) (n : Nat), (enL n l).length = l.length
  | [], _ => rfl
  | _ :: l, n => by simp [enL, enL_length l]
theorem rep_pair {g : Gx} {c' : Cf} {σ' : L2.St} {H' : Hp} {T : Addr} {x y : V} {a b : Dt} (o : Ok g c' σ' H') (hT : H' T = none) (r1 : c'.rep g x a) (r2 : c'.rep g y b) :
    ∃ c'', Ext c' c'' ∧ c''.r = c'.r ∧ c''.A = c'.A ∧ Ok g c'' σ' (upd H' T (.tup [x, y])) ∧ c''.rep g (.ref T) (.tup [a, b]) := by
  obtain ⟨o2, x2⟩ := o.laid (o := .tup [x, y]) hT
  exact ⟨_, x2, rfl, rfl, o2, .tup (SqT.of upd_same) (.cons (x2.rep r1) (.cons (x2.rep r2) .nil))⟩
def mEn (m : DM Src) : DM Src := fun r A => (m r A).bind fun s A => .ok ⟨enL 0 s.ds, s.gd, s.ow⟩ A
theorem pit_en {m : DM Src} {elts : List Expr} {kk : Nat} {tpos : Pos} (hg : Gl X "enumerate") (hm : X.mg "enumerate" = none) (h : PSq X W e m) (he : starEach [e] X.env = (false, eval e X.env) :: starEach [] X.env := by rfl) (hs : starEach [e] X.env = [(false, eval e X.env)] := by rfl) :
    PIt X W (.Tuple elts kk tpos) (.Call (.Name "enumerate" p) [e] [] pos) (mEn m) := by
  refine ⟨(pi_en hg hm (pa_cons h.pe pa_nil he) hs).weak fun σ H R ⟨c, ok, q⟩ => ⟨c, ok, (Post.bind (R := RQ (gx X)) q).mono fun v H1 ⟨c1, d, x1, r1, ok1, rq, q1⟩ => ?_⟩⟩
  obtain ⟨ho, k, a, rfl, hq⟩ := rq
  obtain ⟨xs, hs, rl⟩ := hq c1 σ H1 (Ext0.refl _) ok1 ho.1 ho.2
  have hl0 := rl.length
  refine ⟨k, a, xs, rfl, hs, q1.ok ok1 ⟨ho, fun c' σ' H' x' o' g' w' => ?_⟩⟩
  obtain ⟨ys, hy, ry⟩ := hq c' σ' H' x' o' g' w'
  have hl := ry.length
  have ofy : ofB k X.K a xs.length H' := ⟨ys, by omega, hy⟩
  refine ⟨⟨by rw [enL_length]; omega, ofy⟩, fun i x ei => ?_⟩
  obtain ⟨d', ed, rfl⟩ := enL_get ei
  obtain ⟨v, ev, rv⟩ := ry.get ed
  have hi : i < d.ds.length := (List.getElem?_eq_some_iff.mp ed).1
  refine ⟨⟨by omega, ofy⟩, fun v' H'' ⟨T, x, y, e1, e2, e3, e4, e5⟩ => ?_⟩
  subst e1 e3 e4
  have z := (e5 ys hy).symm.trans ev
  cases z
  rw [Nat.zero_add]
  exact rep_pair o' e2 .int rv
/-- zip(e, e2) -/
def zpL : List Dt → List Dt → List Dt
  | a :: l, b :: m => .tup [a, b] :: zpL l m
  | _, _ => []
theorem zpL_get : ∀ {l m : List Dt} {i : Nat} {x : Dt}, (zpL l m)[i]? = some x → ∃ a b, l[i]? = some a ∧ m[i]? = some b ∧ x = .tup [a, b]
  | a :: l, b :: m, 0, x, h => by
    simp [zpL] at h
    exact ⟨a, b, rfl, rfl, h.symm⟩
  | a :: l, b :: m, i + 1, x, h => by
    have h' : (zpL l m)[i]? = some x := by simpa [zpL] using h
    obtain ⟨a', b', e1, e2, e3⟩ := zpL_get h'
    exact ⟨a', b', by simpa using e1, by simpa using e2, e3⟩
  | [], _, i, x, h => by simp [zpL] at h
  | _ :: _, [], i, x, h => by simp [zpL] at h
theorem zpL_length : ∀ (l m : List Dt), (zpL l m).length = min l.length m.length
  | a :: l, b :: m => by simp only [zpL, List.length_cons, zpL_length l m]; omega
  | [], m => by simp [zpL]
  | _ :: _, [] => by simp [zpL]
open Classical in
noncomputable def mZp (m m2 : DM Src) : DM Src := fun r A => (m r A).bind fun s A => (m2 r A).bind fun t A => if s.gd A then .ok ⟨zpL s.ds t.ds, fun A => s.gd A ∧ t.gd A, s.ow ++ t.ow⟩ A else .bad
theorem pit_zp {m m2 : DM Src} {elts : List Expr} {kk : Nat} {tpos : Pos} (hg : Gl X "zip") (hm : X.mg "zip" = none) (h : PSq X W e m) (h2 : PSq X W e2 m2) (he1 : starEach [e2] X.env = (false, eval e2 X.env) :: starEach [] X.env := by rfl)
    (hs : starEach [e, e2] X.env = (false, eval e X.env) :: starEach [e2] X.env := by rfl) (hpl : (backTo pos (starEach [e2] X.env)).any (·.1) = false := by rfl) :
    PIt X W (.Tuple elts kk tpos) (.Call (.Name "zip" p) [e, e2] [] pos) (mZp m m2) := by
  refine ⟨(pi_zp hg hm (pa_cons h.pe (pa_cons h2.pe pa_nil he1) hs) hs hpl).weak fun σ H R ⟨c, ok, q⟩ => ⟨c, ok, (Post.bind (R := RQ (gx X)) q).mono fun v H1 ⟨c1, s, x1, r1, ok1, rq, q1⟩ => ⟨c1, ok1, ?_⟩⟩⟩
  rw [r1]
  refine (Post.bind (R := RQ (gx X)) q1).mono fun v2 H2 ⟨c2, t, x2, r2, ok2, rq2, q2⟩ => ?_
  split at q2
  · rename_i hgd
    obtain ⟨ho, k1, a, rfl, hq⟩ := rq
    obtain ⟨ho2, k2, b, rfl, hq2⟩ := rq2
    have hw1 : OwOk c2 σ σ s.ow := fun p hp => by
      rw [r2]; exact ho.2 p hp
    obtain ⟨xs, hs1, rl⟩ := hq c2 σ H2 x2.to0 ok2 hgd hw1
    obtain ⟨ys, hs2, rl2⟩ := hq2 c2 σ H2 (Ext0.refl _) ok2 ho2.1 ho2.2
    have hl1 := rl.length
    have hl2 := rl2.length
    refine ⟨k1, k2, a, b, xs, ys, rfl, hs1, hs2, q2.ok ok2 ⟨⟨⟨hgd, ho2.1⟩, fun p hp => ?_⟩, fun c' σ' H' x' o' g' w' => ?_⟩⟩
    · rcases List.mem_append.mp hp with hp | hp
      · exact hw1 p hp
      · exact ho2.2 p hp
    · obtain ⟨zs, hz, rz⟩ := hq c' σ' H' (x2.to0.trans x') o' g'.1 fun p hp => w' p (List.mem_append_left _ hp)
      obtain ⟨us, hu, ru⟩ := hq2 c' σ' H' x' o' g'.2 fun p hp => w' p (List.mem_append_right _ hp)
      have l1 := rz.length
      have l2 := ru.length
      have o1 : ofB k1 X.K a xs.length H' := ⟨zs, by omega, hz⟩
      have o2 : ofB k2 X.K b ys.length H' := ⟨us, by omega, hu⟩
      refine ⟨⟨by rw [zpL_length]; omega, o1, o2⟩, fun i x ei => ?_⟩
      obtain ⟨da, db, e1, e2, rfl⟩ := zpL_get ei
      obtain ⟨v1, ev1, rv1⟩ := rz.get e1
      obtain ⟨v2, ev2, rv2⟩ := ru.get e2
      have hi1 : i < s.ds.length := (List.getElem?_eq_some_iff.mp e1).1
      have hi2 : i < t.ds.length := (List.getElem?_eq_some_iff.mp e2).1
      refine ⟨⟨by omega, o1, o2⟩, fun v' H'' ⟨T, x, y, k1, k2, k3, k4, k5⟩ => ?_⟩
      subst k1 k3
      have z1 := (k4 zs hz).symm.trans ev1
      have z2 := (k5 us hu).symm.trans ev2
      cases z1
      cases z2
      exact rep_pair o' k2 rv1 rv2
  · exact q2.elim
/-! ranges -/
def rgL (lo : Int) (n : Nat) : List Dt := (List.range n).map fun i => .int (lo + (i : Nat))
theorem rgL_get {lo : Int} {n i : Nat} {x : Dt} (h : (rgL lo n)[i]? = some x) : i < n ∧ x = .int (lo + (i : Nat)) := by
  unfold rgL at h
  rw [List.getElem?_map] at h
  cases e : (List.range n)[i]? with
  | none => rw [e] at h; cases h
  | some j =>
    rw [e] at h
    cases h
    obtain ⟨h1, h2⟩ := List.getElem?_eq_some_iff.mp e
    rw [List.getElem_range] at h2
    subst h2
    exact ⟨by simpa using h1, rfl⟩
theorem rgL_length (lo : Int) (n : Nat) : (rgL lo n).length = n := by simp [rgL]
theorem ri_range {g : Gx} {c : Cf} {σ : L2.St} {H : Hp} {lo : Int} {n : Nat} : RI g c σ H (Itr lo n) (.pl (rgL lo n)) :=
  ⟨⟨trivial, nil_ow⟩, fun c' σ' H' x o _ _ => ⟨by show n ≤ (rgL lo n).length; rw [rgL_length]; exact Nat.le_refl _, fun i x ei => by
    obtain ⟨h1, rfl⟩ := rgL_get ei
    refine ⟨h1, fun v H'' ⟨e1, e2⟩ => ?_⟩
    subst e1 e2
    exact ⟨c', Ext.refl _, rfl, rfl, o, .int⟩⟩⟩
def mRg1 (ms : DM (List Dt)) : DM Src := fun r A => (ms r A).bind fun l A => match l with
  | [.int j] => if -(2 ^ 62) ≤ j ∧ j < 2 ^ 62 then .ok (.pl (rgL 0 j.toNat)) A else .bad
  | _ => .bad
theorem pit_range1 {a : Expr} {ms : DM (List Dt)} (hg : Gl X "range") (hm : X.mg "range" = none) (h : PL X W [a] ms) (hs : starEach [a] X.env = [(false, eval a X.env)] := by rfl) : PIt X W tg (.Call (.Name "range" p) [a] [] pos) (mRg1 ms) := by
  refine ⟨(pi_range1 hg hm h.pa hs).weak fun σ H R ⟨c, ok, q⟩ => ⟨c, ok, (Post.bind (R := RA (gx X)) q).mono fun vs H1 ⟨c1, l, x1, r1, ok1, f, q1⟩ => ?_⟩⟩
  split at q1
  · rename_i j
    split at q1
    · rename_i hj
      obtain rfl := f.ints (ns := [j])
      exact ⟨j, rfl, hj.1, hj.2, q1.ok ok1 ri_range⟩
    · exact q1.elim
  · exact q1.elim
def mRg2 (ms : DM (List Dt)) : DM Src := fun r A => (ms r A).bind fun l A => match l with
  | [.int i, .int j] => if -(2 ^ 62) ≤ i ∧ i < 2 ^ 62 ∧ -(2 ^ 62) ≤ j ∧ j < 2 ^ 62 then .ok (.pl (rgL i (j - i).toNat)) A else .bad
  | _ => .bad
theorem pit_range2 {a b : Expr} {ms : DM (List Dt)} (hg : Gl X "range") (hm : X.mg "range" = none) (h : PL X W [a, b] ms) (hs : starEach [a, b] X.env = [(false, eval a X.env), (false, eval b X.env)] := by rfl) (hs2 : starEach [b] X.env = [(false, eval b X.env)] := by rfl) :
    PIt X W tg (.Call (.Name "range" p) [a, b] [] pos) (mRg2 ms) := by
  refine ⟨(pi_range2 hg hm h.pa hs hs2).weak fun σ H R ⟨c, ok, q⟩ => ⟨c, ok, (Post.bind (R := RA (gx X)) q).mono fun vs H1 ⟨c1, l, x1, r1, ok1, f, q1⟩ => ?_⟩⟩
  split at q1
  · rename_i i j
    split at q1
    · rename_i hj
      obtain rfl := f.ints (ns := [i, j])
      exact ⟨i, j, rfl, hj, q1.ok ok1 ri_range⟩
    · exact q1.elim
  · exact q1.elim
/-- range(i, j, -1) -/
def rgD (i : Int) (n : Nat) : List Dt := (List.range n).map fun k => .int (i - (k : Nat))
theorem rgD_get {lo : Int} {n i : Nat} {x : Dt} (h : (rgD lo n)[i]? = some x) : i < n ∧ x = .int (lo - (i : Nat)) := by
  unfold rgD at h
  rw [List.getElem?_map] at h
  cases e : (List.range n)[i]? with
  | none => rw [e] at h; cases h
  | some j =>
    rw [e] at h
    cases h
    obtain ⟨h1, h2⟩ := List.getElem?_eq_some_iff.mp e
    rw [List.getElem_range] at h2
    subst h2
    exact ⟨by simpa using h1, rfl⟩
theorem rgD_length (lo : Int) (n : Nat) : (rgD lo n).length = n := by simp [rgD]
def mStr (m : DM Dt) : DM Src := fun r A => (m r A).bind fun d A => match d with
  | .str z => .ok (.pl (z.cps.toList.map fun c => .str ⟨#[c]⟩)) A
  | _ => .bad
theorem pit_str {m : DM Dt} (h : PD X W e m) : PIt X W tg e (mStr m) := by
  refine ⟨(pi_str h.pe).weak fun σ H R ⟨c, ok, q⟩ => ⟨c, ok, (Post.bind (R := RV (gx X)) q).mono fun v H1 ⟨c1, d, x1, r1, ok1, f, q1⟩ => ?_⟩⟩
  split at q1
  · rename_i z
    cases f
    refine ⟨z, rfl, q1.ok ok1 ⟨⟨trivial, nil_ow⟩, fun c' σ' H' x o _ _ => ⟨?_, fun i x ei => ?_⟩⟩⟩
    · show z.cps.size ≤ (z.cps.toList.map _).length
      rw [List.length_map, Array.length_toList]; exact Nat.le_refl _
    · have ei' : (z.cps.toList.map fun c => Dt.str ⟨#[c]⟩)[i]? = some x := ei
      rw [List.getElem?_map] at ei'
      cases e : z.cps.toList[i]? with
      | none => rw [e] at ei'; cases ei'
      | some ch =>
        rw [e] at ei'
        cases ei'
        have hlt : i < z.cps.size := by
          have z1 := (List.getElem?_eq_some_iff.mp e).1
          rwa [Array.length_toList] at z1
        refine ⟨hlt, fun v H'' ⟨e1, ch', e2, e3⟩ => ?_⟩
        subst e1 e3
        have z2 : z.cps[i]? = some ch := by rw [← Array.getElem?_toList]; exact e
        rw [z2] at e2
        cases e2
        exact ⟨c', Ext.refl _, rfl, rfl, o, .str⟩
  · exact q1.elim
end
end Pp

set_option Elab.async false
set_option linter.all false
set_option maxRecDepth 100000
set_option maxHeartbeats 1000000
/-! PpI: for, while, list comprehensions. -/
namespace Pp
open PySem PySem.Spec PyProof.Rows L2

/-! ### for -/
open Classical in
noncomputable def foGo (gd : Ar → Prop) (t : TD) (b : DS) : List Dt → DS
  | [], r, A => if gd A then .nx r A else .bad
  | d :: ds, r, A => if gd A then match t d r with
      | some r => match b r A with
        | .nx r A => foGo gd t b ds r A
        | .cn r A => foGo gd t b ds r A
        | .bk r A => .nx r A
        | .rt s A => .rt s A
        | .er e r A => .er e r A
        | .bad => .bad
      | none => .bad
    else .bad
open Classical in
noncomputable def sFor (m : DM Src) (t : TD) (b : DS) : DS := sThen m fun s r A => if s.ow = [] then foGo s.gd t b s.ds r A else .bad
section
variable {X : Cx} {W : WX} {tg e : Expr} {pos : Pos}
theorem drop_cons {α : Type} {l : List α} {i : Nat} (h : i < l.length) : l.drop i = l[i] :: l.drop (i + 1) := List.drop_eq_getElem_cons h
theorem ps_forD {m : DM Src} {is : List Nat} {t : TD} {b : DS} {body : List Stmt} (hp : PassesOwn (model X.prog X.w) X.A X.env X.xe) (hc : X.calm = true) (hi : PIt X W tg e m) (hg : PGt X tg is t) (hb : PSL X W body b)
    (hs : ∀ x, foldedSetIterable e X.env x = pure x := by intro _; rfl) : PS1 X W (.For tg e body [] pos) (sFor m t b) := by
  refine ⟨(ps_for hp hc hi.pi hg.pg hb.pss hs).weak (then_weak (R := RI (gx X)) (t := fun J D σ H1 => ∃ W_1 : Nat → Nat → L2.St → Hp → Prop, (∃ m, W_1 0 m σ H1) ∧ ∀ i m σ H, W_1 i m σ H →
    (J.stop i H ∧ D.nx σ H) ∨ (J.go i H ∧ ∃ N : L2.St → Hp → Prop, (∀ σ' H', N σ' H' → ∃ m', m' < m ∧ W_1 (i + 1) m' σ' H') ∧ ∀ x H', J.yld i H x H' → tG (gx X) is t x σ H' fun σ2 H2 => tS (gx X) W b { D with nx := N, ct := N, bk := D.nx } σ2 H2)) fun c σ H D J s ok ri h => ?_)⟩
  split at h
  · rename_i how
    obtain ⟨_, ri⟩ := ri
    let P : Nat → L2.St → Hp → Prop := fun i σ' H' => ∃ c', Ext c c' ∧ Ok (gx X) c' σ' H' ∧ PostS (gx X) W D c' (foGo s.gd t b (s.ds.drop i) c'.r c'.A)
    refine ⟨fun i m σ' H' => m = s.ds.length - i ∧ i ≤ s.ds.length ∧ P i σ' H', ⟨_, rfl, Nat.zero_le _, c, Ext.refl _, ok, h⟩, ?_⟩
    rintro i m σ' H' ⟨rfl, hi, c', x', ok', h'⟩
    by_cases hlt : i < s.ds.length
    · rw [drop_cons hlt] at h'
      unfold foGo at h'
      split at h'
      · rename_i hgd
        obtain ⟨_, hy⟩ := ri c' σ' H' x'.to0 ok' hgd (by rw [how]; exact nil_ow)
        obtain ⟨go, hy⟩ := hy i _ (List.getElem?_eq_getElem hlt)
        refine .inr ⟨go, P (i + 1), fun σ2 H2 p => ⟨_, by omega, rfl, hlt, p⟩, fun v H2 y => ?_⟩
        obtain ⟨c2, x2, r2, a2, ok2, rv⟩ := hy v H2 y
        refine ⟨c2, _, ok2, rv, ?_⟩
        rw [r2]
        cases et : t s.ds[i] c'.r with
        | none => rw [et] at h'; exact h'
        | some r3 =>
          rw [et] at h'
          intro c3 σ3 x3 hr3 ha3 _ _ ok3
          refine ⟨c3, ok3, ?_⟩
          rw [hr3, ha3, a2]
          have h'' : PostS (gx X) W D c' (match b r3 c'.A with
            | .nx r A => foGo s.gd t b (s.ds.drop (i + 1)) r A
            | .cn r A => foGo s.gd t b (s.ds.drop (i + 1)) r A
            | .bk r A => .nx r A
            | .rt s A => .rt s A
            | .er e r A => .er e r A
            | .bad => .bad) := h'
          have xx := x2.trans x3
          cases eb : b r3 c'.A with
          | nx r A =>
            rw [eb] at h''
            intro c4 σ4 H4 x4 h1 h2 ok4
            refine ⟨c4, x'.trans (xx.trans x4), ok4, ?_⟩
            rw [h1, h2]
            exact PostS.ext (xx.trans x4) h''
          | cn r A =>
            rw [eb] at h''
            intro c4 σ4 H4 x4 h1 h2 ok4
            refine ⟨c4, x'.trans (xx.trans x4), ok4, ?_⟩
            rw [h1, h2]
            exact PostS.ext (xx.trans x4) h''
          | bk r A => rw [eb] at h''; exact PostS.ext xx h''
          | rt s A => rw [eb] at h''; exact PostS.ext xx h''
          | er e r A => rw [eb] at h''; exact PostS.ext xx h''
          | bad => rw [eb] at h''; exact h''.elim
      · exact h'.elim
    · have e : i = s.ds.length := by omega
      subst e
      rw [List.drop_length] at h'
      unfold foGo at h'
      split at h'
      · rename_i hgd
        obtain ⟨st, _⟩ := ri c' σ' H' x'.to0 ok' hgd (by rw [how]; exact nil_ow)
        exact .inl ⟨st, h' c' σ' H' (Ext.refl _) rfl rfl ok'⟩
      · exact h'.elim
  · exact h.elim

/-! ### while -/
def whGo (t : DM Bool) (b : DS) : Nat → DS
  | 0, _, _ => .bad
  | n + 1, r, A => match t r A with
    | .ok true A => match b r A with
      | .nx r A => whGo t b n r A
      | .cn r A => whGo t b n r A
      | .bk r A => .nx r A
      | .rt s A => .rt s A
      | .er e r A => .er e r A
      | .bad => .bad
    | .ok false A => .nx r A
    | .er e A => .er e r A
    | .bad => .bad
theorem whGo_succ {t : DM Bool} {b : DS} : ∀ {n : Nat} {r : Ev} {A : Ar}, whGo t b n r A ≠ .bad → whGo t b (n + 1) r A = whGo t b n r A
  | 0, _, _, h => (h rfl).elim
  | n + 1, r, A, h => by
    rw [whGo, whGo]
    rw [whGo] at h
    split
    · split
      · rename_i e1 _ r2 A2 e2
        rw [e1] at h
        simp only [e2] at h
        exact whGo_succ h
      · rename_i e1 _ r2 A2 e2
        rw [e1] at h
        simp only [e2] at h
        exact whGo_succ h
      all_goals rfl
    all_goals rfl
theorem whGo_add {t : DM Bool} {b : DS} {n : Nat} {r : Ev} {A : Ar} (h : whGo t b n r A ≠ .bad) : ∀ k, whGo t b (n + k) r A = whGo t b n r A
  | 0 => rfl
  | k + 1 => by
    have z := whGo_add h k
    rw [← Nat.add_assoc, whGo_succ (by rw [z]; exact h), z]
open Classical in
noncomputable def sWhile (t : DM Bool) (b : DS) : DS := fun r A => if h : ∃ n, whGo t b n r A ≠ .bad then whGo t b h.choose r A else .bad
theorem sWhile_eq {t : DM Bool} {b : DS} {n : Nat} {r : Ev} {A : Ar} (h : whGo t b n r A ≠ .bad) : sWhile t b r A = whGo t b n r A := by
  have hx : ∃ n, whGo t b n r A ≠ .bad := ⟨n, h⟩
  unfold sWhile
  rw [dif_pos hx]
  have z1 := whGo_add hx.choose_spec n
  have z2 := whGo_add h hx.choose
  rw [← z1, Nat.add_comm, z2]
theorem sWhile_bad {t : DM Bool} {b : DS} {r : Ev} {A : Ar} (h : ∀ n, whGo t b n r A = .bad) : sWhile t b r A = .bad := dif_neg fun ⟨n, z⟩ => z (h n)
/-- one turn -/
theorem sWhile_step (t : DM Bool) (b : DS) (r : Ev) (A : Ar) : sWhile t b r A = match t r A with
    | .ok true A => match b r A with
      | .nx r A => sWhile t b r A
      | .cn r A => sWhile t b r A
      | .bk r A => .nx r A
      | .rt s A => .rt s A
      | .er e r A => .er e r A
      | .bad => .bad
    | .ok false A => .nx r A
    | .er e A => .er e r A
    | .bad => .bad := by
  by_cases hx : ∃ n, whGo t b n r A ≠ .bad
  · obtain ⟨n, h⟩ := hx
    rw [sWhile_eq h]
    cases n with
    | zero => exact (h rfl).elim
    | succ n =>
      rw [whGo] at h ⊢
      split
      · split
        · rename_i e1 _ r2 A2 e2
          rw [e1] at h
          simp only [e2] at h
          rw [sWhile_eq h]
        · rename_i e1 _ r2 A2 e2
          rw [e1] at h
          simp only [e2] at h
          rw [sWhile_eq h]
        all_goals rfl
      all_goals rfl
  · have hb : ∀ n, whGo t b n r A = .bad := fun n => Classical.byContradiction fun z => hx ⟨n, z⟩
    rw [sWhile_bad hb]
    have h1 := fun n => hb (n + 1)
    simp only [whGo] at h1
    split
    · rename_i e1
      simp only [e1] at h1
      split
      · rename_i e2
        simp only [e2] at h1
        exact (sWhile_bad h1).symm
      · rename_i e2
        simp only [e2] at h1
        exact (sWhile_bad h1).symm
      · rename_i e2
        simp only [e2] at h1
        cases h1 0
      · rename_i e2
        simp only [e2] at h1
        cases h1 0
      · rename_i e2
        simp only [e2] at h1
        cases h1 0
      · rfl
    · rename_i e1
      simp only [e1] at h1
      cases h1 0
    · rename_i e1
      simp only [e1] at h1
      cases h1 0
    · rfl
theorem ps_whileD {c : Expr} {body : List Stmt} {t : DM Bool} {b : DS} (hp : PassesOwn (model X.prog X.w) X.A X.env X.xe) (ht : PB X W c t) (hb : PSL X W body b) : PS1 X W (.While c body [] pos) (sWhile t b) := by
  refine ⟨(ps_while hp ht.pt hb.pss).weak fun D σ H ⟨c0, ok, h⟩ => ?_⟩
  let P : Nat → L2.St → Hp → Prop := fun m σ' H' => ∃ c', Ok (gx X) c' σ' H' ∧ PostS (gx X) W D c' (whGo t b m c'.r c'.A)
  have h0 : ∃ m, P m σ H := by
    by_cases hx : ∃ n, whGo t b n c0.r c0.A ≠ .bad
    · obtain ⟨n, hn⟩ := hx
      rw [sWhile_eq hn] at h
      exact ⟨n, c0, ok, h⟩
    · have hb : ∀ n, whGo t b n c0.r c0.A = .bad := fun n => Classical.byContradiction fun z => hx ⟨n, z⟩
      rw [sWhile_bad hb] at h
      exact h.elim
  refine ⟨P, h0, ?_⟩
  rintro m σ' H' ⟨c', ok', h'⟩
  cases m with
  | zero => exact h'.elim
  | succ m =>
    refine ⟨c', ok', ?_⟩
    rw [whGo] at h'
    cases et : t c'.r c'.A with
    | er ex A =>
      rw [et] at h'
      intro c2 cls d H2 x h1 h2 o2 f
      exact h' c2 cls d σ' H2 x h1 h2 o2 f
    | bad => rw [et] at h'; exact h'
    | ok k A =>
      rw [et] at h'
      intro c2 k' H2 x hr2 ha2 ok2 e
      cases e
      cases k with
      | false => exact h' c2 σ' H2 x hr2 ha2 ok2
      | true =>
        refine ⟨fun σ' H' => ∃ m', m' < m + 1 ∧ P m' σ' H', fun σ' H' p => p, c2, ok2, ?_⟩
        rw [hr2, ha2]
        have h'' : PostS (gx X) W D c' (match b c'.r A with
          | .nx r A => whGo t b m r A
          | .cn r A => whGo t b m r A
          | .bk r A => .nx r A
          | .rt s A => .rt s A
          | .er e r A => .er e r A
          | .bad => .bad) := h'
        cases eb : b c'.r A with
        | nx r A =>
          rw [eb] at h''
          intro c4 σ4 H4 x4 h1 h2 ok4
          refine ⟨m, Nat.lt_succ_self _, c4, ok4, ?_⟩
          rw [h1, h2]
          exact PostS.ext (x.trans x4) h''
        | cn r A =>
          rw [eb] at h''
          intro c4 σ4 H4 x4 h1 h2 ok4
          refine ⟨m, Nat.lt_succ_self _, c4, ok4, ?_⟩
          rw [h1, h2]
          exact PostS.ext (x.trans x4) h''
        | bk r A => rw [eb] at h''; exact PostS.ext x h''
        | rt s A => rw [eb] at h''; exact PostS.ext x h''
        | er e r A => rw [eb] at h''; exact PostS.ext x h''
        | bad => rw [eb] at h''; exact h''.elim
end
end Pp

set_option Elab.async false
set_option linter.all false
set_option maxRecDepth 100000
set_option maxHeartbeats 1000000
/-! PpJ: list comprehensions. -/
namespace Pp
open PySem PySem.Spec PyProof.Rows L2

/-! ### objects put under guard -/
section
variable {g : Gx} {c c' : Cf} {σ σ' : L2.St} {H H' : Hp} {D : Addr} {o o' : HO} {P0 : Hp}
theorem DctOk.imp0 {o : HO} {a : Addr} {l : List (Dt × Dt)} (h : DctOk g c o a l) (x : Ext0 c c') : DctOk g c' o a l := by
  rcases h with ⟨kvs, e, r⟩ | ⟨xs, e, r⟩
  · exact .inl ⟨kvs, e, r.mono x.F x.mu⟩
  · exact .inr ⟨xs, e, r.mono x.F x.mu⟩
theorem SlOk.imp0 {w : Ow} {v : V} {s : Sl} (h : SlOk g c H w v s) (x : Ext0 c c') (hl : ∀ a, c.loc w = some a → c'.loc w = some a ∧ H' a = H a) : SlOk g c' H' w v s := by
  cases s with
  | val d => exact x.rep h
  | lst l =>
    obtain ⟨a, vs, h1, h2, h3, h4⟩ := h
    exact ⟨a, vs, h1, (hl a h2).1, by rw [(hl a h2).2]; exact h3, x.repL h4⟩
  | dct l =>
    obtain ⟨a, o, h1, h2, h3, h4⟩ := h
    exact ⟨a, o, h1, (hl a h2).1, by rw [(hl a h2).2]; exact h3, h4.imp0 x⟩
theorem FsOk.imp0 : ∀ {fs : List (Str × Dt)} {fs' : List (Str × V)}, FsOk g c fs fs' → Ext0 c c' → FsOk g c' fs fs'
  | [], [], _, _ => trivial
  | (f, s) :: r, (f', v) :: r', h, x => ⟨h.1, x.rep h.2.1, h.2.2.imp0 x⟩
  | [], _ :: _, h, _ => h.elim
  | _ :: _, [], h, _ => h.elim
theorem ObOk.imp0 {j : Nat} {o : Ob} (h : ObOk g c H j o) (x : Ext0 c c') (hl : ∀ a, c.loc (.ob j) = some a → c'.loc (.ob j) = some a ∧ H' a = H a) : ObOk g c' H' j o := by
  cases o with
  | box l =>
    obtain ⟨a, vs, h2, h3, h4⟩ := h
    exact ⟨a, vs, (hl a h2).1, by rw [(hl a h2).2]; exact h3, x.repL h4⟩
  | bdc l =>
    obtain ⟨a, o, h2, h3, h4⟩ := h
    exact ⟨a, o, (hl a h2).1, by rw [(hl a h2).2]; exact h3, h4.imp0 x⟩
  | ins y fs =>
    obtain ⟨a, C, dx, fs', h2, h3, h4, h5⟩ := h
    exact ⟨a, C, dx, fs', (hl a h2).1, h3, by rw [(hl a h2).2]; exact h4, h5.imp0 x⟩
theorem Ok.prPut (h : Ok g c σ H) (hp : H D = some o) (nf : c.F D = none) (nl : ∀ w, c.loc w ≠ some D) : Ok g { c with Pr := upd c.Pr D o } σ H := by
  have x : Ext0 c { c with Pr := upd c.Pr D o } := ⟨Same.refl _, fun _ _ e => e⟩
  refine ⟨h.fz, fun a u e => ?_, fun a u e => ?_, h.inj, fun w a e => ?_, h.new, h.len, fun i s e => ?_, fun j ob e => (h.objs j ob e).imp0 x fun a ea => ⟨ea, rfl⟩⟩
  · by_cases ha : a = D
    · subst ha; have e' : upd c.Pr a o a = some u := e; rw [upd_same] at e'; cases e'; exact hp
    · have e' : upd c.Pr D o a = some u := e; rw [upd_ne ha] at e'; exact h.pr _ _ e'
  · have ha : a ≠ D := fun z => by
      have e' : c.F a = some u := e
      rw [z, nf] at e'; cases e'
    show upd c.Pr D o a = none
    rw [upd_ne ha]; exact h.fp _ _ e
  · obtain ⟨h1, h2, h3⟩ := h.own w a e
    have ha : a ≠ D := fun z => nl w (z ▸ e)
    exact ⟨h1, by show upd c.Pr D o a = none; rw [upd_ne ha]; exact h2, h3⟩
  · obtain ⟨v, e1, e2⟩ := h.slots i s e
    exact ⟨v, e1, e2.imp0 x fun a ea => ⟨ea, rfl⟩⟩
/-- the guarded object changes -/
theorem Ok.prSet (h : Ok g c σ H) (hP : c.Pr = upd P0 D o) : Ok g { c with Pr := upd P0 D o' } σ (upd H D o') ∧ c.F D = none ∧ (∀ w, c.loc w ≠ some D) ∧ H D = some o := by
  have hD : c.Pr D = some o := by rw [hP]; exact upd_same
  have nf : c.F D = none := by
    cases e : c.F D with
    | none => rfl
    | some u => have z := h.fp _ _ e; rw [hD] at z; cases z
  have nl : ∀ w, c.loc w ≠ some D := fun w e => by
    have z := (h.own w D e).2.1
    rw [hD] at z; cases z
  have x : Ext0 c { c with Pr := upd P0 D o' } := ⟨Same.refl _, fun _ _ e => e⟩
  have na : ∀ w a, c.loc w = some a → a ≠ D := fun w a e z => nl w (z ▸ e)
  refine ⟨⟨fun a u e => ?_, fun a u e => ?_, fun a u e => ?_, h.inj, fun w a e => ?_, h.new, h.len, fun i s e => ?_, fun j ob e => (h.objs j ob e).imp0 x fun a ea => ⟨ea, upd_ne (na _ a ea)⟩⟩, nf, nl, h.pr _ _ hD⟩
  · have ha : a ≠ D := fun z => by
      have e' : c.F a = some u := e
      rw [z, nf] at e'; cases e'
    rw [upd_ne ha]; exact h.fz _ _ e
  · by_cases ha : a = D
    · subst ha; have e' : upd P0 a o' a = some u := e; rw [upd_same] at e'; rw [upd_same]; exact e'
    · have e' : upd P0 D o' a = some u := e
      rw [upd_ne ha] at e' ⊢
      exact h.pr _ _ (by rw [hP, upd_ne ha]; exact e')
  · have ha : a ≠ D := fun z => by
      have e' : c.F a = some u := e
      rw [z, nf] at e'; cases e'
    show upd P0 D o' a = none
    rw [upd_ne ha]
    have z := h.fp _ _ e
    rw [hP, upd_ne ha] at z; exact z
  · obtain ⟨h1, h2, u, h3⟩ := h.own w a e
    have ha := na w a e
    refine ⟨h1, ?_, u, by rw [upd_ne ha]; exact h3⟩
    show upd P0 D o' a = none
    rw [upd_ne ha]
    rw [hP, upd_ne ha] at h2; exact h2
  · obtain ⟨v, e1, e2⟩ := h.slots i s e
    exact ⟨v, e1, e2.imp0 x fun a ea => ⟨ea, upd_ne (na _ a ea)⟩⟩
theorem Ok.prDel (h : Ok g c σ H) (hP : c.Pr = upd P0 D o) (h0 : P0 D = none) : Ok g { c with Pr := P0 } σ H := by
  have x : Ext0 c { c with Pr := P0 } := ⟨Same.refl _, fun _ _ e => e⟩
  have back : ∀ a, c.Pr a = none → P0 a = none := fun a e => by
    by_cases ha : a = D
    · rw [ha]; exact h0
    · rw [hP, upd_ne ha] at e; exact e
  refine ⟨h.fz, fun a u e => ?_, fun a u e => back _ (h.fp _ _ e), h.inj, fun w a e => ?_, h.new, h.len, fun i s e => ?_, fun j ob e => (h.objs j ob e).imp0 x fun a ea => ⟨ea, rfl⟩⟩
  · have ha : a ≠ D := fun z => by
      have e' : P0 a = some u := e
      rw [z, h0] at e'; cases e'
    exact h.pr _ _ (by rw [hP, upd_ne ha]; exact e)
  · obtain ⟨h1, h2, h3⟩ := h.own w a e
    exact ⟨h1, back _ h2, h3⟩
  · obtain ⟨v, e1, e2⟩ := h.slots i s e
    exact ⟨v, e1, e2.imp0 x fun a ea => ⟨ea, rfl⟩⟩
/-! ### slots wiped -/
def wipR (r : Ev) : List Nat → Ev
  | [] => r
  | v :: vs => (wipR r vs).set v none
theorem wipR_length (r : Ev) : ∀ vs : List Nat, (wipR r vs).length = r.length
  | [] => rfl
  | v :: vs => by unfold wipR; rw [List.length_set, wipR_length r vs]
theorem wipR_some {r : Ev} {i : Nat} {s : Sl} : ∀ {vs : List Nat}, (wipR r vs)[i]? = some (some s) → r[i]? = some (some s) ∧ i ∉ vs
  | [], h => ⟨h, by simp⟩
  | v :: vs, h => by
    unfold wipR at h
    by_cases hi : v = i
    · subst hi
      by_cases hv : v < (wipR r vs).length
      · rw [List.getElem?_set_self hv] at h; cases h
      · rw [List.getElem?_eq_none (by simpa using hv)] at h; cases h
    · rw [List.getElem?_set_ne hi] at h
      obtain ⟨h1, h2⟩ := wipR_some h
      exact ⟨h1, by simp only [List.mem_cons, not_or]; exact ⟨fun e => hi e.symm, h2⟩⟩
theorem wipR_out {r : Ev} {i : Nat} : ∀ {vs : List Nat}, i ∉ vs → (wipR r vs)[i]? = r[i]?
  | [], _ => rfl
  | v :: vs, h => by
    have h1 : v ≠ i := fun e => h (by rw [e]; exact List.mem_cons_self)
    unfold wipR
    rw [List.getElem?_set_ne h1]
    exact wipR_out fun z => h (List.mem_cons_of_mem _ z)
theorem wipR_in {r : Ev} {j : Nat} {vs : List Nat} (hj : j ∈ vs) : (wipR r vs)[j]? = if j < r.length then some none else none := by
  by_cases hl : j < r.length
  · rw [if_pos hl]
    have hl' : j < (wipR r vs).length := by rw [wipR_length]; exact hl
    cases q : (wipR r vs)[j]? with
    | none => rw [List.getElem?_eq_none_iff] at q; omega
    | some o => cases o with
      | none => rfl
      | some s => exact absurd hj (wipR_some (s := s) q).2
  · rw [if_neg hl, List.getElem?_eq_none (by rw [wipR_length]; omega)]
theorem wipe_in {i : Nat} : ∀ {vs : List Nat}, i ∈ vs → (wipe σ vs)[i]? = if i < σ.length then some none else none
  | [], h => by cases h
  | v :: vs, h => by
    unfold wipe
    by_cases hv : v = i
    · subst hv
      by_cases hl : v < σ.length
      · rw [List.getElem?_set_self (by rw [wipe_length]; exact hl), if_pos hl]
      · rw [if_neg hl, List.getElem?_eq_none (by rw [List.length_set, wipe_length]; omega)]
    · rw [List.getElem?_set_ne hv]
      exact wipe_in ((List.mem_cons.mp h).elim (fun z => absurd z.symm hv) id)
theorem wipe_eq {vs : List Nat} (hl : σ'.length = σ.length) (h : ∀ j, j ∉ vs → σ'[j]? = (wipe σ vs)[j]?) : wipe σ' vs = wipe σ vs := by
  apply List.ext_getElem?
  intro j
  by_cases hj : j ∈ vs
  · rw [wipe_in hj, wipe_in hj, hl]
  · rw [wipe_out hj, h j hj]
theorem Ok.wiped (h : Ok g c σ H) (vs : List Nat) : Ok g { c with r := wipR c.r vs } (wipe σ vs) H := by
  refine ⟨h.fz, h.pr, h.fp, h.inj, h.own, h.new, ?_, fun i s e => ?_, fun j ob e => (h.objs j ob e).imp0 ⟨Same.refl _, fun _ _ e => e⟩ fun a ea => ⟨ea, rfl⟩⟩
  · show (wipe σ vs).length = (wipR c.r vs).length
    rw [wipe_length, wipR_length, h.len]
  · obtain ⟨e1, e2⟩ := wipR_some e
    obtain ⟨v, k1, k2⟩ := h.slots i s e1
    exact ⟨v, by rw [wipe_out e2]; exact k1, k2.imp0 ⟨Same.refl _, fun _ _ e => e⟩ fun a ea => ⟨ea, rfl⟩⟩
theorem Ok.unwipe {vs : List Nat} (h : Ok g c σ H) (x : Ext0 c c') (h' : Ok g c' σ' H') (hv : ∀ i ∈ vs, ∀ s, c.r[i]? = some (some s) → ∃ d, s = .val d) (hj : ∀ j, j ∉ vs → σ'[j]? = σ[j]? ∧ c'.r[j]? = c.r[j]?) : Ok g { c' with r := c.r } σ H' := by
  refine ⟨h'.fz, h'.pr, h'.fp, h'.inj, h'.own, h'.new, h.len, fun i s e => ?_, fun j ob e => (h'.objs j ob e).imp0 ⟨Same.refl _, fun _ _ e => e⟩ fun a ea => ⟨ea, rfl⟩⟩
  have e' : c.r[i]? = some (some s) := e
  by_cases hi : i ∈ vs
  · obtain ⟨d, rfl⟩ := hv i hi s e'
    obtain ⟨v, k1, k2⟩ := h.slots i _ e'
    exact ⟨v, k1, x.rep k2⟩
  · obtain ⟨z1, z2⟩ := hj i hi
    obtain ⟨v, k1, k2⟩ := h'.slots i s (by rw [z2]; exact e')
    exact ⟨v, by rw [← z1]; exact k1, k2.imp0 ⟨Same.refl _, fun _ _ e => e⟩ fun a ea => ⟨ea, rfl⟩⟩
end

/-! ### [e for t in m if b] -/
abbrev Wf : WX := fun _ _ _ _ => False
open Classical in
noncomputable def lcGo (gd : Ar → Prop) (t : TD) (b : DM Bool) (e : DM Dt) (rw : Ev) : List Dt → List Dt → Ar → Rs Sl
  | [], acc, A => if gd A then .ok (.lst acc) A else .bad
  | d :: ds, acc, A => if gd A then match t d rw with
      | some r => match b r A with
        | .ok true A => match e r A with
          | .ok x A => lcGo gd t b e rw ds (acc ++ [x]) A
          | _ => .bad
        | .ok false A => lcGo gd t b e rw ds acc A
        | _ => .bad
      | none => .bad
    else .bad
def lcOk (r : Ev) (vs : List Nat) (s : Src) : Prop := s.ds.length ≤ 1000000 ∧ (∀ p ∈ s.ow, p.1 ∉ vs) ∧ ∀ i ∈ vs, ∀ s, r[i]? = some (some s) → ∃ d, s = .val d
open Classical in
noncomputable def mLc (m : DM Src) (t : TD) (b : DM Bool) (e : DM Dt) (vs : List Nat) : DM Sl := fun r A => (m r A).bind fun s A => if lcOk r vs s then lcGo s.gd t b e (wipR r vs) s.ds [] A else .bad
/-- the ifs -/
structure PBs (X : Cx) (W : WX) (ifs : List Expr) (m : DM Bool) : Prop where
  pts : PTs X ifs (tT (gx X) W m)
def mYes : DM Bool := fun _ A => .ok true A
section
variable {X : Cx} {W : WX} {g : Gx}
theorem _root_.L2.PTs.weak {e : List Expr} {t t' : TT} (h : PTs X e t) (w : ∀ σ H Q, t' σ H Q → t σ H Q) : PTs X e t' := ⟨fun pins s σ H Q I q => h.run pins s σ H Q I (w _ _ _ q)⟩
theorem pbs_nil : PBs X W [] mYes := ⟨pts_nil.weak fun σ H Q ⟨c, ok, h⟩ => h c true H (Ext.refl c) rfl rfl ok rfl⟩
theorem pbs_one {c : Expr} {m : DM Bool} (h : PB X W c m) : PBs X W [c] m := ⟨pts_one h.pt⟩
theorem lc_weak {m : DM Src} {is vs : List Nat} {t : TD} {b : DM Bool} {e : DM Dt} (hv : ∀ j ∈ is, j ∈ vs) :
    ∀ σ H Q, tF g W (mLc m t b e vs) σ H Q → tLc (tM g (RI g) W m) (tG g is t) (tT g Wf b) (tE g Wf e) vs σ H Q := by
  rintro σ H Q ⟨c0, ok0, h⟩
  refine ⟨c0, ok0, (Post.bind (R := RI g) h).mono fun J H1 ⟨c, s, x0, r0, ok, ⟨ho, ri⟩, h⟩ => ?_⟩
  split at h
  · rename_i hlc
    intro D hD
    obtain ⟨hlen, how, hvs⟩ := hlc
    rw [← r0] at hvs
    obtain ⟨okm, nf, np, nl⟩ := ok.made (o := .lst []) hD
    let P : Nat → Hp → Prop := fun i H => ∃ c' accV acc, Ext0 c c' ∧ c'.r = wipR c.r vs ∧ c'.Pr = upd c.Pr D (.lst accV) ∧ Ok g c' (wipe σ vs) H ∧ c'.repL g accV acc ∧ acc.length ≤ i ∧
      ∃ s' A, lcGo s.gd t b e (wipR c.r vs) (s.ds.drop i) acc c'.A = .ok s' A ∧ ∀ c2 v H2, Ext c c2 → c2.r = c.r → c2.A = A → Ok g c2 σ H2 → Fresh g c2 H2 v s' → Q v H2
    have onlyok : ∀ ds acc A, (∃ s' A', lcGo s.gd t b e (wipR c.r vs) ds acc A = .ok s' A') ∨ lcGo s.gd t b e (wipR c.r vs) ds acc A = .bad := by
      intro ds
      induction ds with
      | nil =>
        intro acc A
        unfold lcGo
        split
        · exact .inl ⟨_, _, rfl⟩
        · exact .inr rfl
      | cons d ds ih =>
        intro acc A
        unfold lcGo
        split
        · split
          · split
            · split
              · exact ih _ _
              · exact .inr rfl
            · exact ih _ _
            · exact .inr rfl
          · exact .inr rfl
        · exact .inr rfl
    have h0 : P 0 (upd H1 D (.lst [])) := by
      refine ⟨{ c with r := wipR c.r vs, Pr := upd c.Pr D (.lst []) }, [], [], ⟨Same.refl _, fun _ _ e => e⟩, rfl, rfl, (okm.prPut upd_same nf nl).wiped vs, .nil, Nat.zero_le _, ?_⟩
      rw [List.drop_zero]
      rw [← r0] at h
      rcases onlyok s.ds [] c.A with ⟨s', A', e'⟩ | e'
      · refine ⟨s', A', e', ?_⟩
        rw [e'] at h
        exact fun c2 v H2 x => h c2 v H2 x
      · rw [e'] at h; exact h.elim
    refine ⟨fun i m H => m = s.ds.length - i ∧ i ≤ s.ds.length ∧ P i H, ⟨_, rfl, Nat.zero_le _, h0⟩, ?_⟩
    rintro i m H ⟨rfl, hi, c', accV, acc, x', hr', hP', ok', racc, hacc, s', A', he, hQ⟩
    have owk : OwOk c' σ (wipe σ vs) s.ow := fun p hp => by
      obtain ⟨z1, z2⟩ := ho.2 p hp
      refine ⟨wipe_out (how p hp), ?_⟩
      rw [hr', wipR_out (how p hp)]
      exact z2
    by_cases hlt : i < s.ds.length
    · rw [drop_cons hlt] at he
      unfold lcGo at he
      split at he
      · rename_i hgd
        obtain ⟨_, hy⟩ := ri c' (wipe σ vs) H x' ok' hgd owk
        obtain ⟨go, hy⟩ := hy i _ (List.getElem?_eq_getElem hlt)
        refine .inr ⟨go, P (i + 1), fun H2 p => ⟨_, by omega, rfl, hlt, p⟩, fun v H2 y => ?_⟩
        obtain ⟨c2, x2, r2, a2, ok2, rv⟩ := hy v H2 y
        refine ⟨c2, _, ok2, rv, ?_⟩
        rw [r2, hr']
        cases et : t s.ds[i] (wipR c.r vs) with
        | none => rw [et] at he; cases he
        | some r3 =>
          rw [et] at he
          simp only at he
          intro c3 σ3 x3 hr3 ha3 hl3 hj3 ok3
          have hw3 : wipe σ3 vs = wipe σ vs := by
            refine wipe_eq (hl3.trans (wipe_length σ vs)) fun j hj => ?_
            exact (hj3 j fun z => hj (hv j z)).1
          refine ⟨hw3, c3, ok3, ?_⟩
          rw [hr3, ha3, a2]
          have xx := x2.trans x3
          -- back to the wiped slots
          have fin : ∀ (c5 : Cf) (H5 : Hp) (accV' : List V) (acc' : List Dt), Ext0 c3 c5 → c5.r = r3 → c5.Pr = upd c.Pr D (.lst accV') → Ok g c5 σ3 H5 → c5.repL g accV' acc' → acc'.length ≤ i + 1 →
              lcGo s.gd t b e (wipR c.r vs) (s.ds.drop (i + 1)) acc' c5.A = .ok s' A' → P (i + 1) H5 := fun c5 H5 accV' acc' x5 hr5 hp5 ok5 racc5 hl5 he5 => by
            have q := ok5.wiped vs
            rw [hw3] at q
            have hrr : wipR c5.r vs = wipR c.r vs := by
              apply List.ext_getElem?
              intro j
              have hlen5 : c5.r.length = c.r.length := by
                rw [← ok5.len, hl3, wipe_length, ok.len]
              by_cases hj : j ∈ vs
              · rw [wipR_in hj, wipR_in hj, hlen5]
              · rw [wipR_out hj, wipR_out hj, hr5, ← hr3, (hj3 j fun z => hj (hv j z)).2, wipR_out hj]
            refine ⟨{ c5 with r := wipR c5.r vs }, accV', acc', ⟨x'.F.trans (xx.to0.F.trans x5.F), fun j a ea => x5.mu j a (xx.to0.mu j a (x'.mu j a ea))⟩, hrr, hp5, q, racc5, hl5, s', A', he5, hQ⟩
          cases eb : b r3 c'.A with
          | er ex A => rw [eb] at he; cases he
          | bad => rw [eb] at he; cases he
          | ok k A =>
            rw [eb] at he
            intro c4 k' H4 x4 hr4 ha4 ok4 ek
            cases ek
            have p4 : c4.Pr = upd c.Pr D (.lst accV) := by rw [x4.P, xx.P, hP']
            cases k with
            | false =>
              rw [if_neg Bool.false_ne_true]
              refine fin c4 H4 accV acc x4.to0 (hr4.trans hr3) p4 ok4 (x4.repL (xx.repL racc)) (by omega) ?_
              rw [ha4]; exact he
            | true =>
              rw [if_pos rfl]
              refine ⟨c4, ok4, ?_⟩
              rw [hr4, hr3, ha4]
              have he' : (match e r3 A with | .ok x A => lcGo s.gd t b e (wipR c.r vs) (s.ds.drop (i + 1)) (acc ++ [x]) A | _ => .bad) = Rs.ok s' A' := he
              cases ee : e r3 A with
              | er ex A => rw [ee] at he'; cases he'
              | bad => rw [ee] at he'; cases he'
              | ok x A5 =>
                rw [ee] at he'
                intro c5 y H5 x5 hr5 ha5 ok5 ry
                have p5 : c5.Pr = upd c.Pr D (.lst accV) := by rw [x5.P, p4]
                obtain ⟨ok6, _, _, hD5⟩ := ok5.prSet (o' := .lst (accV ++ [y])) p5
                have racc5 : c5.repL g accV acc := x5.repL (x4.repL (xx.repL racc))
                refine ⟨accV, hD5, ?_, fin { c5 with Pr := upd c.Pr D (.lst (accV ++ [y])) } _ (accV ++ [y]) (acc ++ [x]) ⟨(x4.trans x5).F, (x4.trans x5).mu⟩ (hr5.trans (hr4.trans hr3)) rfl ok6 (racc5.snoc ry) (by rw [List.length_append, List.length_singleton]; omega) ?_⟩
                · rw [racc5.length]
                  have : (1000000 : Nat) < sizeLine := by decide
                  omega
                · show lcGo s.gd t b e (wipR c.r vs) (s.ds.drop (i + 1)) (acc ++ [x]) c5.A = _
                  rw [ha5]; exact he'
      · cases he
    · have e : i = s.ds.length := by omega
      subst e
      rw [List.drop_length] at he
      unfold lcGo at he
      split at he
      · rename_i hgd
        cases he
        obtain ⟨st, _⟩ := ri c' (wipe σ vs) H x' ok' hgd owk
        refine .inl ⟨st, ?_⟩
        obtain ⟨_, nf', nl', hD'⟩ := ok'.prSet (o' := .lst accV) hP'
        have okd := ok'.prDel hP' np
        have oku := ok.unwipe (vs := vs) (c' := { c' with Pr := c.Pr }) ⟨x'.F, x'.mu⟩ okd hvs fun j hj => ⟨wipe_out hj, by show c'.r[j]? = _; rw [hr', wipR_out hj]⟩
        exact hQ { c' with r := c.r, Pr := c.Pr } (.ref D) H ⟨x'.F, rfl, x'.mu⟩ rfl rfl oku ⟨D, accV, rfl, hD', racc, nf', np, nl'⟩
      · cases he
  · exact h.elim
variable {elt tg iter : Expr} {ifs : List Expr} {scope : Scope} {own : List (Str × Nat)} {pos spos py : Pos} {m : DM Src} {is : List Nat} {t : TD} {b : DM Bool} {e : DM Dt}
theorem pf_lc (hc : X.calm = true) (hN : X.N.Nodup) (hi : PIt X W tg iter m) (ok : BlkOk X.N X.env.scope scope own) (hv : ∀ j ∈ is, j ∈ own.map (·.2))
    (hg : ∀ (s : Shared) (H : Hp) (C : Addr) (cl : List (Str × Addr)) (fp : List Addr), PGt (X.blk s H scope (compEnvC scope cl C X.env) fp) tg is t) (ht : ∀ (s : Shared) (H : Hp) (C : Addr) (cl : List (Str × Addr)) (fp : List Addr), PBs (X.blk s H scope (compEnvC scope cl C X.env) fp) Wf ifs b)
    (he : ∀ (s : Shared) (H : Hp) (C : Addr) (cl : List (Str × Addr)) (fp : List Addr), PD (X.blk s H scope (compEnvC scope cl C X.env) fp) Wf elt e) (hs : ∀ x, foldedSetIterable iter X.env x = pure x := by intro _; rfl) :
    PF X W (.ListComp elt [⟨tg, iter, ifs, 0⟩] scope pos) (mLc m t b e (own.map (·.2))) :=
  ⟨(pe_lc hc hN hi.pi ok (fun s H C cl fp => (hg s H C cl fp).pg) (fun s H C cl fp => (ht s H C cl fp).pts) (fun s H C cl fp => (he s H C cl fp).pe) hs).weak (lc_weak hv)⟩
theorem ps_setLcD {i : Nat} {y : Str} (hc : X.calm = true) (hN : X.N.Nodup) (hi : PIt X W tg iter m) (ok : BlkOk X.N X.env.scope scope own) (hv : ∀ j ∈ is, j ∈ own.map (·.2))
    (hg : ∀ (s : Shared) (H : Hp) (C : Addr) (cl : List (Str × Addr)) (fp : List Addr), PGt (X.blk s H scope (compEnvC scope cl C X.env) fp) tg is t) (ht : ∀ (s : Shared) (H : Hp) (C : Addr) (cl : List (Str × Addr)) (fp : List Addr), PBs (X.blk s H scope (compEnvC scope cl C X.env) fp) Wf ifs b)
    (he : ∀ (s : Shared) (H : Hp) (C : Addr) (cl : List (Str × Addr)) (fp : List Addr), PD (X.blk s H scope (compEnvC scope cl C X.env) fp) Wf elt e)
    (hsw : swapsWith (.ListComp elt [⟨tg, iter, ifs, 0⟩] scope pos) (some (.Name y py)) spos.line X.env = pure true) (hyl : X.env.scope.names.lookup y = some .local := by rfl) (hy : X.N[i]? = some y := by rfl) (hs : ∀ x, foldedSetIterable iter X.env x = pure x := by intro _; rfl) :
    PS1 X W (.Assign [.Name y py] (.ListComp elt [⟨tg, iter, ifs, 0⟩] scope pos) spos) (sSet i (mLc m t b e (own.map (·.2)))) :=
  ⟨(ps_setLc hc hN hy hyl hsw hi.pi ok (fun s H C cl fp => (hg s H C cl fp).pg) (fun s H C cl fp => (ht s H C cl fp).pts) (fun s H C cl fp => (he s H C cl fp).pe) hs).weak fun D σ H h =>
    lc_weak hv σ H _ (then_weak (R := RS (gx X)) (t := fun v D σ H => D.nx (σ.set i (some v)) H) (fun c σ H D v s ok f h => by
      obtain ⟨c', x, r', a', o'⟩ := ok.store f i
      exact h c' _ H x r' a' o') D σ H h)⟩
end
end Pp

set_option Elab.async false
set_option linter.all false
set_option maxRecDepth 100000
set_option maxHeartbeats 1000000
/-! PpK: lists that change, list + list, list * int, stores to tuples of targets. -/
namespace Pp
open PySem PySem.Spec PyProof.Rows L2

/-! ### an owned object changes -/
section
variable {g : Gx} {c : Cf} {σ : L2.St} {H : Hp} {w : Ow} {a : Addr} {o' : HO}
theorem Ok.chg (o : Ok g c σ H) (hw : c.loc w = some a) (r' : Ev) (A' : Ar) (hlen : r'.length = c.r.length) (hA : A'.length = c.A.length)
    (hr : ∀ k s, r'[k]? = some (some s) → (w ≠ .sl k ∧ c.r[k]? = some (some s)) ∨ ∃ v, σ[k]? = some (some v) ∧ SlOk g c (upd H a o') (.sl k) v s)
    (hO : ∀ j ob, A'[j]? = some ob → (w ≠ .ob j ∧ c.A[j]? = some ob) ∨ ObOk g c (upd H a o') j ob) : Ok g { c with r := r', A := A' } σ (upd H a o') ∧ Ext c { c with r := r', A := A' } := by
  obtain ⟨nf, np, _⟩ := o.own w a hw
  refine ⟨⟨fun b u e => ?_, fun b u e => ?_, o.fp, o.inj, fun w' b e => ?_, fun j hj => o.new j (by have hj' : A'.length ≤ j := hj; omega), o.len.trans hlen.symm, fun k s e => ?_, fun j ob e => ?_⟩, ⟨Same.refl _, rfl, fun _ _ e => e⟩⟩
  · have hb : b ≠ a := fun z => by
      have e' : c.F b = some u := e
      rw [z, nf] at e'; cases e'
    rw [upd_ne hb]; exact o.fz _ _ e
  · have hb : b ≠ a := fun z => by
      have e' : c.Pr b = some u := e
      rw [z, np] at e'; cases e'
    rw [upd_ne hb]; exact o.pr _ _ e
  · obtain ⟨h1, h2, u, h3⟩ := o.own w' b e
    refine ⟨h1, h2, ?_⟩
    by_cases hb : b = a
    · subst hb; exact ⟨_, upd_same⟩
    · exact ⟨u, by rw [upd_ne hb]; exact h3⟩
  · rcases hr k s e with ⟨n, e'⟩ | ⟨v, e1, e2⟩
    · obtain ⟨v, e1, e2⟩ := o.slots k s e'
      exact ⟨v, e1, e2.imp0 ⟨Same.refl _, fun _ _ e => e⟩ fun b eb => ⟨eb, upd_ne fun z => n (o.inj _ _ _ hw (z ▸ eb))⟩⟩
    · exact ⟨v, e1, e2.imp0 ⟨Same.refl _, fun _ _ e => e⟩ fun b eb => ⟨eb, rfl⟩⟩
  · rcases hO j ob e with ⟨n, e'⟩ | e'
    · exact (o.objs j ob e').imp0 ⟨Same.refl _, fun _ _ e => e⟩ fun b eb => ⟨eb, upd_ne fun z => n (o.inj _ _ _ hw (z ▸ eb))⟩
    · exact e'.imp0 ⟨Same.refl _, fun _ _ e => e⟩ fun b eb => ⟨eb, rfl⟩
end
/-- a list that may change: a slot's, the arena's -/
inductive Rf where
  | sl (i : Nat) | ob (j : Nat)
def Rf.get (q : Rf) (r : Ev) (A : Ar) : Option (List Dt) := match q with
  | .sl i => match r[i]? with
    | some (some (.lst l)) => some l
    | _ => none
  | .ob j => match A[j]? with
    | some (.box l) => some l
    | _ => none
def Rf.setR (q : Rf) (l : List Dt) (r : Ev) : Ev := match q with
  | .sl i => r.set i (some (.lst l))
  | .ob _ => r
def Rf.setA (q : Rf) (l : List Dt) (A : Ar) : Ar := match q with
  | .sl _ => A
  | .ob j => A.set j (.box l)
def RR (c : Cf) (σ : L2.St) (_ : Hp) (v : V) (q : Rf) : Prop := match q with
  | .sl i => ∃ l, c.r[i]? = some (some (.lst l)) ∧ σ[i]? = some (some v)
  | .ob j => ∃ a, v = .ref a ∧ c.loc (.ob j) = some a
theorem RR.ext {c c' : Cf} {σ : L2.St} {H H' : Hp} {v : V} {q : Rf} (h : RR c σ H v q) (x : Ext c c') (hr : c'.r = c.r) : RR c' σ H' v q := by
  cases q with
  | sl i => obtain ⟨l, h1, h2⟩ := h; exact ⟨l, by rw [hr]; exact h1, h2⟩
  | ob j => obtain ⟨a, h1, h2⟩ := h; exact ⟨a, h1, x.mu _ _ h2⟩
/-- the list there, and it changed -/
theorem RR.list {g : Gx} {c : Cf} {σ : L2.St} {H : Hp} {v : V} {q : Rf} {l : List Dt} (o : Ok g c σ H) (h : RR c σ H v q) (e : q.get c.r c.A = some l) : ∃ a vs, v = .ref a ∧ H a = some (.lst vs) ∧ c.repL g vs l ∧
    ∀ vs' l', c.repL g vs' l' → ∃ c', Ext c c' ∧ c'.r = q.setR l' c.r ∧ c'.A = q.setA l' c.A ∧ Ok g c' σ (upd H a (.lst vs')) := by
  cases q with
  | sl i =>
    obtain ⟨l0, h1, h2⟩ := h
    have e' : (match c.r[i]? with | some (some (.lst l)) => some l | _ => none) = some l := e
    rw [h1] at e'
    cases e'
    obtain ⟨u, k1, a, vs, rfl, k3, k4, k5⟩ := o.slots i _ h1
    rw [h2] at k1
    cases k1
    refine ⟨a, vs, rfl, k4, k5, fun vs' l' r => ?_⟩
    have key : ∀ k s, (c.r.set i (some (.lst l')))[k]? = some (some s) → (Ow.sl i ≠ .sl k ∧ c.r[k]? = some (some s)) ∨ ∃ v, σ[k]? = some (some v) ∧ SlOk g c (upd H a (.lst vs')) (.sl k) v s := fun k s e => by
      by_cases hk : i = k
      · subst hk
        rw [List.getElem?_set_self (List.getElem?_eq_some_iff.mp h1).1] at e
        cases e
        exact .inr ⟨_, h2, a, vs', rfl, k3, upd_same, r⟩
      · rw [List.getElem?_set_ne hk] at e
        exact .inl ⟨fun z => hk (by cases z; rfl), e⟩
    obtain ⟨ok, x⟩ := o.chg (o' := .lst vs') k3 (c.r.set i (some (.lst l'))) c.A (List.length_set ..) rfl key (fun j ob e => .inl ⟨(fun z => nomatch z), e⟩)
    exact ⟨_, x, rfl, rfl, ok⟩
  | ob j =>
    obtain ⟨a, rfl, h2⟩ := h
    have e' : (match c.A[j]? with | some (.box l) => some l | _ => none) = some l := e
    split at e'
    · rename_i l0 h1
      cases e'
      obtain ⟨a', vs, k3, k4, k5⟩ := o.objs j _ h1
      have z := h2.symm.trans k3
      cases z
      refine ⟨a, vs, rfl, k4, k5, fun vs' l' r => ?_⟩
      have key : ∀ k ob, (c.A.set j (.box l'))[k]? = some ob → (Ow.ob j ≠ .ob k ∧ c.A[k]? = some ob) ∨ ObOk g c (upd H a (.lst vs')) k ob := fun k ob e => by
        by_cases hk : j = k
        · subst hk
          rw [List.getElem?_set_self (List.getElem?_eq_some_iff.mp h1).1] at e
          cases e
          exact .inr ⟨a, vs', h2, upd_same, r⟩
        · rw [List.getElem?_set_ne hk] at e
          exact .inl ⟨fun z => hk (by cases z; rfl), e⟩
      obtain ⟨ok, x⟩ := o.chg (o' := .lst vs') h2 c.r (c.A.set j (.box l')) rfl (List.length_set ..) (fun k s e => .inl ⟨(fun z => nomatch z), e⟩) key
      exact ⟨_, x, rfl, rfl, ok⟩
    · cases e'
theorem then_at {g : Gx} {W : WX} {α β : Type} {R : Cf → L2.St → Hp → β → α → Prop} {m : DM α} {k : α → DS} {c : Cf} {σ : L2.St} {D : Ends} {Q : β → Hp → Prop} (h : PostS g W D c (sThen m k c.r c.A))
    (hk : ∀ c' H' b a, Ext c c' → c'.r = c.r → Ok g c' σ H' → R c' σ H' b a → PostS g W D c' (k a c'.r c'.A) → Q b H') : Post g R W c σ (m c.r c.A) Q := by
  have h' : PostS g W D c (match m c.r c.A with | .ok a A => k a c.r A | .er e A => .er e c.r A | .bad => .bad) := h
  cases e : m c.r c.A with
  | ok a A =>
    rw [e] at h'
    intro c' b H' x h1 h2 o r
    refine hk c' H' b a x h1 o r ?_
    rw [h1, h2]
    exact PostS.ext x h'
  | er ex A =>
    rw [e] at h'
    intro c' cls d H' x h1 h2 o r
    exact h' c' cls d σ H' x h1 h2 o r
  | bad => rw [e] at h'; exact h'
structure PR (X : Cx) (W : WX) (e : Expr) (m : DM Rf) : Prop where
  pe : PE X e (tM (gx X) (fun c σ H v q => RR c σ H v q ∧ tyV X.K "list" v H) W m)
section
variable {X : Cx} {W : WX} {e a b : Expr} {es : List Expr} {m ma mb : DM Dt} {ms : DM (List Dt)} {pos p apos : Pos}
def mRfN (i : Nat) : DM Rf := fun r A => match r[i]? with
  | some (some (.lst _)) => .ok (.sl i) A
  | some (some (.val (.obj j))) => match A[j]? with
    | some (.box _) => .ok (.ob j) A
    | _ => .bad
  | _ => .bad
theorem pr_name {i : Nat} {x : Str} (hN : X.N[i]? = some x := by rfl) (hv : Vis X.env.scope x := by first | exact Or.inl rfl | exact Or.inr (Or.inl rfl) | exact Or.inr (Or.inr rfl)) (hd : (x == ("__debug__" : Str)) = false := by decide)
    (hcd : (x == ("__classdict__" : Str)) = false := by decide) : PR X W (.Name x pos) (mRfN i) := by
  refine ⟨(pe_var hN hv hd hcd).weak fun σ H Q ⟨c, ok, h⟩ => ?_⟩
  unfold mRfN at h
  split at h
  · rename_i l er
    obtain ⟨v, h1, h2⟩ := ok.slots i _ er
    refine ⟨v, h1, h.ok ok ⟨⟨l, er, h1⟩, ?_⟩⟩
    obtain ⟨a, vs, rfl, k3, k4, k5⟩ := h2
    exact .inl ⟨rfl, _, SqL.of k4⟩
  · rename_i j er
    obtain ⟨v, h1, h2⟩ := ok.slots i _ er
    split at h
    · rename_i l el
      refine ⟨v, h1, h.ok ok ?_⟩
      cases h2 with
      | obj hj =>
        obtain ⟨a', vs, k1, k2, _⟩ := ok.objs j _ el
        have z := hj.symm.trans k1
        cases z
        exact ⟨⟨_, rfl, hj⟩, .inl ⟨rfl, _, SqL.of k2⟩⟩
    · exact h.elim
  · exact h.elim
def mRfD (m : DM Dt) : DM Rf := fun r A => (m r A).bind fun d A => match d with
  | .obj j => match A[j]? with
    | some (.box _) => .ok (.ob j) A
    | _ => .bad
  | _ => .bad
theorem pr_of (h : PD X W e m) : PR X W e (mRfD m) := by
  refine ⟨h.pe.weak fun σ H Q ⟨c, ok, q⟩ => ⟨c, ok, (Post.bind (R := RV (gx X)) q).mono fun v H1 ⟨c1, d, x1, r1, ok1, f, q1⟩ => ?_⟩⟩
  split at q1
  · split at q1
    · rename_i l el
      cases f with
      | obj hj =>
        obtain ⟨a', vs, k1, k2, _⟩ := ok1.objs _ _ el
        have z := hj.symm.trans k1
        cases z
        exact q1.ok ok1 ⟨⟨_, rfl, hj⟩, .inl ⟨rfl, _, SqL.of k2⟩⟩
    · exact q1.elim
  · exact q1.elim
/-! ### append, extend -/
def sMut (mr : DM Rf) (ms : DM (List Dt)) (f : List Dt → List Dt → Option (List Dt)) : DS := fun r A => match mr r A with
  | .ok q A => match ms r A with
    | .ok ds A => match q.get r A with
      | some l => match f l ds with
        | some l' => .nx (q.setR l' r) (q.setA l' A)
        | none => .bad
      | none => .bad
    | .er e A => .er e r A
    | .bad => .bad
  | .er e A => .er e r A
  | .bad => .bad
def fApp : List Dt → List Dt → Option (List Dt) := fun l ds => match ds with
  | [d] => if l.length < 1000000 then some (l ++ [d]) else none
  | _ => none
def fExt : List Dt → List Dt → Option (List Dt) := fun l ds => match ds with
  | [.lst z] => if l.length + z.length < 1000000 then some (l ++ z) else none
  | _ => none
theorem mut_weak {mr : DM Rf} {f : List Dt → List Dt → Option (List Dt)} {r : V → List V → Hp → VK → Prop}
    (hr : ∀ c σ H v vs q l ds l' Q, Ok (gx X) c σ H → RR c σ H v q → c.repL (gx X) vs ds → q.get c.r c.A = some l → f l ds = some l' →
      (∀ c' H', Ext c c' → c'.r = q.setR l' c.r → c'.A = q.setA l' c.A → Ok (gx X) c' σ H' → Q .non H') → r v vs H Q) :
    ∀ D σ H, tS (gx X) W (sMut mr ms f) D σ H → tM (gx X) (fun c σ H v q => RR c σ H v q ∧ tyV X.K "list" v H) W mr σ H fun x H1 => tyV X.K "list" x H1 ∧ tA (gx X) W ms σ H1 fun xs H2 => r x xs H2 fun v H3 => D.nx σ H3 := by
  rintro D σ H ⟨c, ok, h⟩
  refine ⟨c, ok, ?_⟩
  have h' : PostS (gx X) W D c (match mr c.r c.A with
    | .ok q A => match ms c.r A with
      | .ok ds A => match q.get c.r A with
        | some l => match f l ds with
          | some l' => .nx (q.setR l' c.r) (q.setA l' A)
          | none => .bad
        | none => .bad
      | .er e A => .er e c.r A
      | .bad => .bad
    | .er e A => .er e c.r A
    | .bad => .bad) := h
  cases em : mr c.r c.A with
  | er ex A =>
    rw [em] at h'
    exact fun c' cls d H' x h1 h2 o r => h' c' cls d σ H' x h1 h2 o r
  | bad => rw [em] at h'; exact h'
  | ok q A =>
    rw [em] at h'
    intro c1 v H1 x1 r1 a1 ok1 ⟨rr, ty⟩
    refine ⟨ty, c1, ok1, ?_⟩
    rw [r1, a1]
    have h2 : PostS (gx X) W D c (match ms c.r A with
      | .ok ds A => match q.get c.r A with
        | some l => match f l ds with
          | some l' => .nx (q.setR l' c.r) (q.setA l' A)
          | none => .bad
        | none => .bad
      | .er e A => .er e c.r A
      | .bad => .bad) := h'
    cases ea : ms c.r A with
    | er ex A =>
      rw [ea] at h2
      exact fun c' cls d H' x h1 hh o r => h2 c' cls d σ H' (x1.trans x) (h1.trans r1) hh o r
    | bad => rw [ea] at h2; exact h2
    | ok ds A2 =>
      rw [ea] at h2
      intro c2 vs H2 x2 r2 a2 ok2 rv
      subst a2
      have h3 : PostS (gx X) W D c (match q.get c.r c2.A with
        | some l => match f l ds with
          | some l' => .nx (q.setR l' c.r) (q.setA l' c2.A)
          | none => .bad
        | none => .bad) := h2
      cases eg : q.get c.r c2.A with
      | none => rw [eg] at h3; exact h3.elim
      | some l =>
        rw [eg] at h3
        have h4 : PostS (gx X) W D c (match f l ds with
          | some l' => .nx (q.setR l' c.r) (q.setA l' c2.A)
          | none => .bad) := h3
        cases ef : f l ds with
        | none => rw [ef] at h4; exact h4.elim
        | some l' =>
          rw [ef] at h4
          have hr2 : c2.r = c.r := r2.trans r1
          refine hr c2 σ H2 v vs q l ds l' _ ok2 (rr.ext x2 r2) rv (by rw [hr2]; exact eg) ef fun c' H' x h5 h6 o => ?_
          exact h4 c' σ H' (x1.trans (x2.trans x)) (by rw [h5, hr2]) h6 o
theorem ps_app {mr : DM Rf} (ho : PR X W a mr) (ha : PL X W [e] ms) (hbase : attributeBase a "append" X.env (eval a X.env) = eval a X.env := by rfl) (hfew : ((backTo p (starEach [e] X.env)).all (fun x => !x.1) && (backToKw p (keywordEach [] X.env)).all (fun x => x.1.isSome)
      && decide (([e] : List Expr).length + ([] : List Keyword).length + (if ([] : List Keyword).isEmpty then 0 else 1) < 30)) = true := by rfl)
    (hline : (apos.endLine == p.line) = true := by rfl) (hs : starEach [e] X.env = (false, eval e X.env) :: starEach [] X.env := by rfl) (hw : swapsWith (.Call (.Attribute a "append" apos) [e] [] p) none pos.line X.env = pure false := by rfl) :
    PS1 X W (.Expr (.Call (.Attribute a "append" apos) [e] [] p) pos) (sMut mr ms fApp) :=
  ⟨(ps_expr (pe_bm PySem.F.plainAttrs_list PySem.F.slot_list_append PySem.F.type_list_append mt_append ho.pe ha.pa hbase hfew hline hs rfl) hw).weak (mut_weak fun c σ H v vs q l ds l' Q ok rr rv eg ef k => by
    unfold fApp at ef
    split at ef
    · split at ef
      · rename_i hl
        cases ef
        cases rv with
        | cons r1 rr1 =>
          cases rr1
          obtain ⟨a, vs, rfl, h2, h3, h4⟩ := rr.list ok eg
          obtain ⟨c', x, r', a', o'⟩ := h4 _ _ (h3.snoc r1)
          have : (1000000 : Nat) < sizeLine := by decide
          exact ⟨a, vs, _, rfl, rfl, h2, by rw [h3.length]; omega, k c' _ x r' a' o'⟩
      · cases ef
    · cases ef)⟩
theorem ps_ext {mr : DM Rf} (ho : PR X W a mr) (ha : PL X W [e] ms) (hbase : attributeBase a "extend" X.env (eval a X.env) = eval a X.env := by rfl) (hfew : ((backTo p (starEach [e] X.env)).all (fun x => !x.1) && (backToKw p (keywordEach [] X.env)).all (fun x => x.1.isSome)
      && decide (([e] : List Expr).length + ([] : List Keyword).length + (if ([] : List Keyword).isEmpty then 0 else 1) < 30)) = true := by rfl)
    (hline : (apos.endLine == p.line) = true := by rfl) (hs : starEach [e] X.env = (false, eval e X.env) :: starEach [] X.env := by rfl) (hw : swapsWith (.Call (.Attribute a "extend" apos) [e] [] p) none pos.line X.env = pure false := by rfl) :
    PS1 X W (.Expr (.Call (.Attribute a "extend" apos) [e] [] p) pos) (sMut mr ms fExt) :=
  ⟨(ps_expr (pe_bm PySem.F.plainAttrs_list PySem.F.slot_list_extend PySem.F.type_list_extend mt_extend ho.pe ha.pa hbase hfew hline hs rfl) hw).weak (mut_weak fun c σ H v vs q l ds l' Q ok rr rv eg ef k => by
    unfold fExt at ef
    split at ef
    · split at ef
      · rename_i hl
        cases ef
        cases rv with
        | cons r1 rr1 =>
          cases rr1
          cases r1 with
          | lst hz rz =>
            obtain ⟨a, vs, rfl, h2, h3, h4⟩ := rr.list ok eg
            obtain ⟨c', x, r', a', o'⟩ := h4 _ _ (h3.append rz)
            have : (1000000 : Nat) < sizeLine := by decide
            exact ⟨a, _, vs, _, rfl, rfl, h2, ok.fz _ _ hz, by rw [h3.length, rz.length]; omega, k c' _ x r' a' o'⟩
      · cases ef
    · cases ef)⟩
/-! ### x[i] = e -/
def sPut (me : DM Dt) (mr : DM Rf) (mi : DM Dt) : DS := sThen me fun d => sThen mr fun q => sThen mi fun i r A => match i, q.get r A with
  | .int k, some l => match ixN l.length k with
    | some j => .nx (q.setR (l.set j d) r) (q.setA (l.set j d) A)
    | none => .bad
  | _, _ => .bad
theorem ps_put {mr : DM Rf} {mi : DM Dt} {p2 : Pos} (he : PD X W e m) (ho : PR X W a mr) (hi : PD X W b mi)
    (hsub : ∀ v, assign (.Subscript a b p2) X.env v = (do
      let ov ← holding [v] (eval a X.env)
      let iv ← holding [v, ov] (eval b X.env)
      standAt p2
      holding [v, ov, iv] (setItem ov iv v)
      release [v, ov, iv] []) := by intro _; rfl)
    (hs : swapsWithSole [.Subscript a b p2] e pos.line X.env = pure false := by rfl) (hw : swappedStores [.Subscript a b p2] e X.env = pure none := by rfl)
    (h1 : (assignEach [.Subscript a b p2] X.env).map (·.2) = [assign (.Subscript a b p2) X.env] := by rfl) : PS1 X W (.Assign [.Subscript a b p2] e pos) (sPut m mr mi) := by
  refine ⟨(ps_asg he.pe (pg_sub ho.pe hi.pe set_list hsub) hs hw h1).weak fun D σ H ⟨c, ok, h⟩ => ?_⟩
  refine ⟨c, ok, then_at h fun c1 H1 v d x1 r1 ok1 rv h1 => ⟨c1, ok1, then_at h1 fun c2 H2 o q x2 r2 ok2 rr h2 => ⟨c2, ok2, then_at (R := RV (gx X)) h2 fun c3 H3 i di x3 r3 ok3 ri h3 => ?_⟩⟩⟩
  split at h3
  · rename_i k l el
    cases ri
    split at h3
    · rename_i j ej
      obtain ⟨a, vs, rfl, e2, e3, e4⟩ := (rr.1.ext (H' := H3) x3 r3).list ok3 el
      have rv3 : c3.rep (gx X) v d := x3.rep (x2.rep rv)
      obtain ⟨c', x, r', a', o'⟩ := e4 _ _ (e3.set rv3 j)
      exact ⟨a, vs, k, j, rfl, rfl, e2, by rw [e3.length]; exact ej, h3 c' _ _ x r' a' o'⟩
    · exact h3.elim
  · exact h3.elim
/-! ### a, b = e -/
def sTgt (m : DM Dt) (t : TD) : DS := sThen m fun d r A => match t d r with
  | some r => .nx r A
  | none => .bad
theorem ps_tgtD {tg : Expr} {is : List Nat} {t : TD} (he : PD X W e m) (hg : PGt X tg is t) (hs : swapsWithSole [tg] e pos.line X.env = pure false := by rfl) (hw : swappedStores [tg] e X.env = pure none := by rfl)
    (h1 : (assignEach [tg] X.env).map (·.2) = [assign tg X.env] := by rfl) : PS1 X W (.Assign [tg] e pos) (sTgt m t) := by
  refine ⟨(ps_asg he.pe hg.pg hs hw h1).weak fun D σ H ⟨c, ok, h⟩ => ⟨c, ok, then_at h fun c1 H1 v d x1 r1 ok1 rv h1 => ⟨c1, d, ok1, rv, ?_⟩⟩⟩
  split at h1
  · rename_i r er
    try rw [er]
    exact fun c' σ' x hr ha _ _ o => h1 c' σ' H1 x hr ha o
  · exact h1.elim
/-! ### list + list, list * int -/
def mBinF (f : Dt → Dt → Ar → Rs Sl) (a b : DM Dt) : DM Sl := fun r A => (a r A).bind fun x A => (b r A).bind fun y A => f x y A
def dCat (x y : Dt) (A : Ar) : Rs Sl := match x, y with
  | .lst l, .lst m => if l.length + m.length ≤ 1000000 then .ok (.lst (l ++ m)) A else .bad
  | _, _ => .bad
theorem look2_weak {F : Dt → Dt → Ar → Rs Sl} {r : R2}
    (hr : ∀ c σ H x y dx dy Q, Ok (gx X) c σ H → RP (gx X) c σ H x dx → RP (gx X) c σ H y dy → Post (gx X) (RS (gx X)) W c σ (F dx dy c.A) Q → r x y H Q) :
    ∀ σ H Q, tF (gx X) W (mBinF F ma mb) σ H Q → tP (gx X) W ma σ H fun x H1 => tP (gx X) W mb σ H1 fun y H2 => r x y H2 Q := by
  rintro σ H Q ⟨c, ok, h⟩
  refine ⟨c, ok, (Post.bind (R := RP (gx X)) h).mono fun x H1 ⟨c1, dx, e1, r1, ok1, rx, h1⟩ => ⟨c1, ok1, ?_⟩⟩
  rw [r1]
  refine (Post.bind (R := RP (gx X)) h1).mono fun y H2 ⟨c2, dy, e2, r2, ok2, ry, h2⟩ => ?_
  exact hr c2 σ H2 x y dx dy Q ok2 (rx.ext e2 r2) ry h2
theorem pf_cat (ha : PK X W a ma) (hb : PK X W b mb) : PF X W (.BinOp a .Add b pos) (mBinF dCat ma mb) := by
  refine ⟨(pe_op op_cat ha.pe hb.pe).weak (look2_weak fun c σ H x y dx dy Q ok rx ry h => ?_)⟩
  unfold dCat at h
  split at h
  · split at h
    · rename_i hl
      obtain ⟨p, vs, rfl, hp, r⟩ := RP.lst ok rx
      obtain ⟨q, ws, rfl, hq, r2⟩ := RP.lst ok ry
      have : (1000000 : Nat) < sizeLine := by decide
      refine ⟨p, q, vs, ws, rfl, rfl, hp, hq, by rw [r.length, r2.length]; omega, fun p2 hp2 => ?_⟩
      obtain ⟨ok2, n1, n2, n3⟩ := ok.made (o := .lst (vs ++ ws)) hp2
      exact h _ _ _ (Ext.refl _) rfl rfl ok2 ⟨p2, _, rfl, upd_same, r.append r2, n1, n2, n3⟩
    · exact h.elim
  · exact h.elim
def repL' (l : List Dt) : Nat → List Dt
  | 0 => []
  | n + 1 => l ++ repL' l n
def dRep (x y : Dt) (A : Ar) : Rs Sl := match x, y with
  | .lst l, .int k => if l.length * k.toNat ≤ 1000000 ∧ -(2 ^ 63) ≤ k ∧ k < 2 ^ 63 then .ok (.lst (repL' l k.toNat)) A else .bad
  | _, _ => .bad
theorem repL'_rep {g : Gx} {F : Hp} {mu : Nat → Option Addr} {vs : List V} {l : List Dt} (r : RepL g F mu vs l) : ∀ n, RepL g F mu (List.replicate n vs).flatten (repL' l n)
  | 0 => .nil
  | n + 1 => by
    rw [List.replicate_succ, List.flatten_cons]
    exact r.append (repL'_rep r n)
theorem pf_rep (ha : PK X W a ma) (hb : PD X W b mb) : PF X W (.BinOp a .Mult b pos) (mBinF dRep ma mb) := by
  refine ⟨(pe_op op_rep ha.pe (pk_of hb).pe).weak (look2_weak fun c σ H x y dx dy Q ok rx ry h => ?_)⟩
  unfold dRep at h
  split at h
  · split at h
    · rename_i hl
      obtain ⟨p, vs, rfl, hp, r⟩ := RP.lst ok rx
      cases ry.rep rfl
      have : (1000000 : Nat) < sizeLine := by decide
      refine ⟨p, _, vs, rfl, rfl, hp, hl.2.1, hl.2.2, by rw [r.length]; omega, fun p2 hp2 => ?_⟩
      obtain ⟨ok2, n1, n2, n3⟩ := ok.made (o := .lst _) hp2
      exact h _ _ _ (Ext.refl _) rfl rfl ok2 ⟨p2, _, rfl, upd_same, repL'_rep r _, n1, n2, n3⟩
    · exact h.elim
  · exact h.elim
/-- str * int -/
def dMulS (x y : Dt) (A : Ar) : Rs Dt := match x, y with
  | .str z, .int k => if z.length * k.toNat ≤ sizeLine ∧ -(2 ^ 63) ≤ k ∧ k < 2 ^ 63 then .ok (.str ⟨(List.replicate k.toNat z.cps.toList).flatten.toArray⟩) A else .bad
  | _, _ => .bad
end
end Pp

set_option Elab.async false
set_option linter.all false
set_option maxRecDepth 100000
set_option maxHeartbeats 2000000
/-! PpL: several except clauses with names; raise; the suites. -/
namespace L2
open PySem PySem.Spec PyProof.Rows
/-- what the clauses (class, slot of the name) wish of an exception of the body -/
def wManyA (K : PySem.W.Frag) (Wout : WX) (D : Ends) : List (Value × Option Nat × (Addr → Value → Option Addr → TS)) → WX
  | [] => Wout
  | (c, none, ts) :: r => fun cls d σ H => ∃ b, PySem.W.exmOne K cls c = some b ∧ (b = true → ∀ a, H a = none → ts a cls d D σ H) ∧ (b = false → wManyA K Wout D r cls d σ H)
  | (c, some i, ts) :: r => fun cls d σ H => ∃ b, PySem.W.exmOne K cls c = some b ∧
      (b = true → ∀ a, H a = none → ts a cls d { nx := fun σ' H' => D.nx (σ'.set i none) H', rt := D.rt, bk := fun σ' H' => D.bk (σ'.set i none) H', ct := fun σ' H' => D.ct (σ'.set i none) H' } (σ.set i (some (.ref a))) H) ∧
      (b = false → wManyA K Wout D r cls d σ H)
inductive HdsA (X : Cx) : List ExceptHandler → List (Value × Option Nat × (Addr → Value → Option Addr → TS)) → Prop
  | nil : HdsA X [] []
  | cons {x : Str} {c : Value} {ts : Addr → Value → Option Addr → TS} {b₀ : Stmt} {suite : List Stmt} {np pos' : Pos} {hds : List ExceptHandler} {l : List (Value × Option Nat × (Addr → Value → Option Addr → TS))} (hc : Names X x c)
      (hsu : ∀ (a : Addr) (oe : Obj) (cls : Value) (d : Option Addr) (pn : List (Addr × Obj)), Zc cls d oe → (∃ vs, oe.data = .fields vs) → PSs (X.suite a ((a, oe) :: pn)) (b₀ :: suite) (ts a cls d)) (r : HdsA X hds l) :
      HdsA X (.ExceptHandler (some (.Name x np)) none (b₀ :: suite) pos' :: hds) ((c, none, ts) :: l)
  | named {x n : Str} {i : Nat} {c : Value} {ts : Addr → Value → Option Addr → TS} {b₀ : Stmt} {suite : List Stmt} {np pos' : Pos} {hds : List ExceptHandler} {l : List (Value × Option Nat × (Addr → Value → Option Addr → TS))} (hc : Names X x c)
      (hN : X.N.Nodup) (hi : X.N[i]? = some n) (hln : X.env.kindOf n = some .local)
      (hsu : ∀ (a : Addr) (oe : Obj) (cls : Value) (d : Option Addr) (pn : List (Addr × Obj)), Zc cls d oe → (∃ vs, oe.data = .fields vs) → PSs (X.suite a ((a, oe) :: pn)) (b₀ :: suite) (ts a cls d)) (r : HdsA X hds l) :
      HdsA X (.ExceptHandler (some (.Name x np)) (some n) (b₀ :: suite) pos' :: hds) ((c, some i, ts) :: l)
section
variable {X : Cx} {body : List Stmt} {h₀ : ExceptHandler} {hds : List ExceptHandler} {l : List (Value × Option Nat × (Addr → Value → Option Addr → TS))} {pos : Pos} {tb : WX → TS} {Wout : WX}
theorem ps_try_manyA (hs : X.stack = X.env :: X.outer) (hf : X.env.frame = some X.env.locals) (tk : Takes X Wout)
    (hb : ∀ (W : WX) (pn : List (Addr × Obj)) (xe : Value → Shared → Prop), Takes (X.tr pn xe) W → PassesOwn (model X.prog X.w) X.A X.env xe → PSs (X.tr pn xe) body (tb W))
    (hh : HdsA X (h₀ :: hds) l) : PS X (.Try body (h₀ :: hds) [] [] pos) (fun D σ H => tb (wManyA X.K Wout D l) D σ H) := by
  refine ⟨fun pins s σ H D I h => ?_⟩
  have ok := I.ok
  have hfr : X.A.frames = some (X.env :: X.outer) := by rw [ok.frames, hs]
  refine wpAny_Try_except ?_
  refine wpAny_mono ((hb (wManyA X.K Wout D l) (X.pn ++ pins) (fun e s₁ => wpAny (model X.prog X.w) X.A (noteFrame e X.env) (fun _ s₂ => wpAny (model X.prog X.w) X.A (setFlight e none) (fun _ s₃ =>
    wpAny (model X.prog X.w) X.A (handleBy e X.env (h₀ :: hds)) (SP X pins D) X.xe s₃) X.xe s₂) X.xe s₁) (fun u s' xx => ?_) PassesOwn.looking).run [] s σ H D (I.toTry _) h) (fun f s1 hsp => ?_) (fun e s1 he => he)
  · -- the catch
    obtain ⟨a, B, sI, pins', σ', H', cls, d, rfl, J', nb, up, sky, na, os, ag, w⟩ := xx
    have J : Inv X pins σ' H' sI := J'.ofTry ok
    have sky' : Sky B (X.env :: X.outer) a (Zc cls d) X.env.locals s'.heap := by rw [← hs]; exact sky
    show wpAny (model X.prog X.w) X.A (noteFrame (.ref a) X.env) _ _ _
    refine Sky.land Zc.steady hfr hf sky' fun h3 fl3 up3 => ?_
    have J3 : Inv X pins σ' H' { s' with heap := h3 } := J.landed nb fl3.1 (up.trans up3) os ag
    obtain ⟨oe3, vs3, he3, hz3, hd3⟩ := fl3.there
    have notFr : ∀ {h : Heap} {o : Obj} {vs : Array Value}, h.FunFrames B (X.env :: X.outer) → h.get? a = some o → o.data = .fields vs → a ∉ frs (X.env :: X.outer) := fun {h o vs} ff e dd hm => by
      obtain ⟨_, o', e', hnf⟩ := ff.mem hm
      rw [e] at e'; cases e'
      exact hnf _ dd
    have nfr := notFr fl3.2.2.1 he3 hd3
    have nL : a ≠ X.env.locals := fun z => nfr (List.mem_filterMap.mpr ⟨X.env, List.mem_cons_self, by rw [hf, z]⟩)
    have nF : a ∉ X.fs := fun hm => by
      obtain ⟨e, he, q⟩ := List.mem_filterMap.mp hm
      exact nfr (List.mem_filterMap.mpr ⟨e, List.mem_cons_of_mem _ he, q⟩)
    have S3 := J3.suite he3 hd3 na nL nF
    have LT : PySem.W.Looks (model X.prog X.w) h3 (typeOf (.ref a)) cls := fun A Q E s k q => wpAny_typeOf_ref (k _ _ he3) (by rw [hz3.1]; exact q)
    have tst : ∀ {x : Str} {c : Value} {np : Pos}, Names X x c → ∀ {Q : Value → Shared → Prop} {E : Value → Shared → Prop}, Q c { s' with heap := h3 } → wpAny (model X.prog X.w) (X.A.mark (some (.ref a))) (eval (.Name x np) X.env) Q E { s' with heap := h3 } := fun {x c np} hc {Q E} q => by
      obtain ⟨hg, hdbg, hm | ⟨hm, hv, hnn⟩⟩ := hc
      · exact ld_glob (X := X.suite a ((a, oe3) :: (X.pn ++ pins))) S3 hg hm q hdbg
      · exact ld_blt (X := X.suite a ((a, oe3) :: (X.pn ++ pins))) S3 hg hm hv q hnn hdbg
    have go : ∀ {hds' : List ExceptHandler} {l' : List (Value × Option Nat × (Addr → Value → Option Addr → TS))}, HdsA X hds' l' → wManyA X.K Wout D l' cls d σ' H' →
        wpAny (model X.prog X.w) X.A (handleBy (.ref a) X.env hds') (SP X pins D) X.xe { s' with heap := h3 } := by
      intro hds' l' hk
      induction hk with
      | nil =>
        intro w
        refine wpAny_handleBy_nil ?_
        obtain ⟨k1, k2, k3, oe, vs, T, oT, ts', he, hz, hd, h1, hr⟩ := id fl3
        unfold PySem.passOn
        refine wpAny_bind (wpAny_field he hd h1 ?_)
        rw [if_neg (show ¬ ((Value.ref T == Value.none) = true) from by simp)]
        have fin : wpAny (model X.prog X.w) X.A (setFlight (.ref a) X.env.frame) (fun _ s4 => wpAny (model X.prog X.w) X.A (throw (.ref a) : Sem Flow) (SP X pins D) X.xe s4) X.xe { s' with heap := h3 } := by
          rw [hf]
          refine HandSPX.setFlight_upZ fl3 fun h4 hh4 up4 => wpAny_throw (tk _ _ ?_)
          exact ⟨a, B, sI, pins, σ', H', cls, d, rfl, J, nb, (up.trans up3).trans up4, .inr (.inr (by rw [hs]; exact hh4)), na, os, ag, w⟩
        first
          | exact wpAny_bind (wpAny_pure (wpAny_bind fin))
          | exact wpAny_bind fin
      | @cons x c ts b₀ suite np pos' hds2 l2 hc hsu r ih =>
        intro w
        obtain ⟨b, hb1, hyes, hno⟩ := w
        refine wpAny_handleBy_cons (codeAny_handlers_test ?_) (by intro q; cases q)
        have LM := PySem.W.exm_one (M := model X.prog X.w) (J3.kIn) LT hb1
        refine tst hc (LM.here ?_)
        cases b with
        | true =>
          refine codeAny_handlers_suite ?_
          refine HandSPX.lands_againZ fl3 fun h4 fl4 up4 => ?_
          have J4 : Inv X pins σ' H' { s' with heap := h4 } := J.landed nb fl4.1 ((up.trans up3).trans up4) os ag
          obtain ⟨oe4, vs4, he4, hz4, hd4⟩ := fl4.there
          have S4 := J4.suite he4 hd4 na nL nF
          refine wpAny_mono ((hsu a oe4 cls d (X.pn ++ pins) hz4 ⟨_, hd4⟩).run [] _ _ H' _ S4 (hyes rfl a na)) (fun f s6 hsp => ?_) (fun _ _ z => False.elim z)
          cases f with
          | next =>
            obtain ⟨σ6, H6, S6, q6⟩ := hsp
            exact ⟨_, _, S6.unsuite ok, q6⟩
          | brk =>
            obtain ⟨σ6, H6, S6, q6⟩ := hsp
            exact ⟨_, _, S6.unsuite ok, q6⟩
          | cont =>
            obtain ⟨σ6, H6, S6, q6⟩ := hsp
            exact ⟨_, _, S6.unsuite ok, q6⟩
          | ret u =>
            obtain ⟨v6, σ6, H6, S6, r6, q6⟩ := hsp
            exact ⟨_, _, _, S6.unsuite ok, r6, q6⟩
        | false =>
          show wpAny _ X.A (handleBy (.ref a) X.env hds2) _ _ _
          exact ih (hno rfl)
      | @named x n i c ts b₀ suite np pos' hds2 l2 hc hN hi hln hsu r ih =>
        intro w
        obtain ⟨b, hb1, hyes, hno⟩ := w
        have hloc : Loc X.env.scope n := .inl hln
        refine wpAny_handleBy_cons (codeAny_handlers_test ?_) (by intro q; cases q)
        have LM := PySem.W.exm_one (M := model X.prog X.w) (J3.kIn) LT hb1
        refine tst hc (LM.here ?_)
        cases b with
        | true =>
          refine codeAny_handlers_suite_as ?_
          refine HandSPX.lands_againZ fl3 fun h4 fl4 up4 => ?_
          have J4 : Inv X pins σ' H' { s' with heap := h4 } := J.landed nb fl4.1 ((up.trans up3).trans up4) os ag
          obtain ⟨oe4, vs4, he4, hz4, hd4⟩ := fl4.there
          have S4 := J4.suite he4 hd4 na nL nF
          refine store_ok (X := X.suite a ((a, oe4) :: (X.pn ++ pins))) (v := .ref a) S4 hN hi hloc rfl (fun s5 S5 => ?_) (.inr hln)
          refine wpAny_mono ((hsu a oe4 cls d (X.pn ++ pins) hz4 ⟨_, hd4⟩).run [] s5 _ H' _ S5 (hyes rfl a na)) (fun f s6 hsp => ?_) (fun _ _ z => False.elim z)
          have end_ : ∀ {σ6 : St} {H6 : Hp} {Q : Shared → Prop}, Inv (X.suite a ((a, oe4) :: (X.pn ++ pins))) [] σ6 H6 s6 → (∀ s7, Inv X pins (σ6.set i none) H6 s7 → Q s7) →
              wpAny (model X.prog X.w) X.A (do bindName X.env n .none; unbindBehindTheSuite X.env n pos') (fun _ s7 => Q s7) X.xe s6 := fun {σ6 H6 Q} S6 hq => gone_ok (S6.unsuite ok) hN hi hln hq
          cases f with
          | next =>
            obtain ⟨σ6, H6, S6, q6⟩ := hsp
            exact end_ S6 fun s7 J7 => ⟨_, _, J7, q6⟩
          | brk =>
            obtain ⟨σ6, H6, S6, q6⟩ := hsp
            exact end_ S6 fun s7 J7 => ⟨_, _, J7, q6⟩
          | cont =>
            obtain ⟨σ6, H6, S6, q6⟩ := hsp
            exact end_ S6 fun s7 J7 => ⟨_, _, J7, q6⟩
          | ret u =>
            obtain ⟨v6, σ6, H6, S6, r6, q6⟩ := hsp
            exact end_ S6 fun s7 J7 => ⟨_, _, _, J7, r6, q6⟩
        | false =>
          show wpAny _ X.A (handleBy (.ref a) X.env hds2) _ _ _
          exact ih (hno rfl)
    exact go hh w
  · cases f with
    | next =>
      obtain ⟨σ', H', J', q⟩ := hsp
      exact wpAny_execs_nil ⟨σ', H', J'.ofTry ok, q⟩
    | brk =>
      obtain ⟨σ', H', J', q⟩ := hsp
      exact ⟨σ', H', J'.ofTry ok, q⟩
    | cont =>
      obtain ⟨σ', H', J', q⟩ := hsp
      exact ⟨σ', H', J'.ofTry ok, q⟩
    | ret u =>
      obtain ⟨v, σ', H', J', r, q⟩ := hsp
      exact ⟨v, σ', H', J'.ofTry ok, r, q⟩
end
end L2

set_option Elab.async false
set_option linter.all false
set_option maxRecDepth 100000
set_option maxHeartbeats 1000000
/-! PpM: raise of own errors, try, the suites. -/
namespace Pp
open PySem PySem.Spec PyProof.Rows L2

/-! ### raise C(..) -/
/-- an own __init__ that stores its one argument -/
def spI1 (C : Addr) (f : Str) : Sp := fun vs H Q _ => ∃ a v, vs = [.ref a, v] ∧ H a = some (exo a C none) ∧ ∀ dx, H dx = none → dx ≠ a → Q .non (upd (upd H dx (exd dx [(f, v)])) a (exo a C (some dx)))
/-- .. its two arguments -/
def spI2 (C : Addr) (f f2 : Str) : Sp := fun vs H Q _ => ∃ a v v2, vs = [.ref a, v, v2] ∧ H a = some (exo a C none) ∧ ∀ dx, H dx = none → dx ≠ a → Q .non (upd (upd (upd H dx (exd dx [(f, v)])) a (exo a C (some dx))) dx (exd dx [(f2, v2), (f, v)]))
section
variable {P : Program} {w : World} {K : PySem.W.Frag} {mg : Str → Option Value} {base : Heap}
theorem init1_ok {x qual : Str} {st : Stmt} {f : Addr} {fd : FuncData} {N ps : List Str} {k : Nat} {C : Addr} {fl : Str} (F : L2.Fun K x qual st f fd) (S : FnScope N ps (defScope st)) (T : OexC K C) (hno : PySem.W.findIn K (.ref C) fl = some none) (hl : ps.length = 2) (hNl : N.length = 2)
    (hb : ∀ (cdv : Value) (A : Around) (outer : List Env) (s : Shared) (H : Hp) (E : XK), PSs (cxOf (L2.CX P w) P w K mg base N qual (defScope st) f cdv A outer s H E) (defBody st) (tOst K fl (tVar 0) (tVar 1))) :
    FnOk P w K mg base (L2.CX P w) (k + 1) f fd ps (spI1 C fl) := by
  refine F.okX S (fun vs H Q E ⟨a, v, e, _⟩ => by rw [e, hl]; rfl) (fun cdv A outer s H vs Q E hr h => ?_)
  obtain ⟨a, v, e, ha, q⟩ := h
  subst e
  refine ⟨_, hb cdv A outer s H E, ?_⟩
  have hs : L2.start N [V.ref a, v] = [some (.ref a), some v] := by
    unfold L2.start; rw [hNl]; rfl
  rw [hs]
  exact ⟨v, rfl, .ref a, rfl, a, C, rfl, T, hno, .inl ⟨ha, q⟩⟩
theorem init2_ok {x qual : Str} {st : Stmt} {f : Addr} {fd : FuncData} {N ps : List Str} {k : Nat} {C : Addr} {fl fl2 : Str} (F : L2.Fun K x qual st f fd) (S : FnScope N ps (defScope st)) (T : OexC K C) (hno : PySem.W.findIn K (.ref C) fl = some none) (hno2 : PySem.W.findIn K (.ref C) fl2 = some none) (hl : ps.length = 3) (hNl : N.length = 3)
    (hb : ∀ (cdv : Value) (A : Around) (outer : List Env) (s : Shared) (H : Hp) (E : XK), PSs (cxOf (L2.CX P w) P w K mg base N qual (defScope st) f cdv A outer s H E) (defBody st) (tSeq (tOst K fl (tVar 0) (tVar 1)) (tOst K fl2 (tVar 0) (tVar 2)))) :
    FnOk P w K mg base (L2.CX P w) (k + 1) f fd ps (spI2 C fl fl2) := by
  refine F.okX S (fun vs H Q E ⟨a, v, v2, e, _⟩ => by rw [e, hl]; rfl) (fun cdv A outer s H vs Q E hr h => ?_)
  obtain ⟨a, v, v2, e, ha, q⟩ := h
  subst e
  refine ⟨_, hb cdv A outer s H E, ?_⟩
  have hs : L2.start N [V.ref a, v, v2] = [some (.ref a), some v, some v2] := by
    unfold L2.start; rw [hNl]; rfl
  rw [hs]
  refine ⟨v, rfl, .ref a, rfl, a, C, rfl, T, hno, .inl ⟨ha, fun dx hd hn => ?_⟩⟩
  exact ⟨v2, rfl, .ref a, rfl, a, C, rfl, T, hno2, .inr ⟨dx, [(fl, v)], upd_same, by rw [upd_ne hn]; exact upd_same, (show (1 : Nat) ≤ 900 by decide), q dx hd hn⟩⟩
end
def sRaise (cls : Str) (fs : List Str) (ms : DM (List Dt)) : DS := fun r A => match ms r A with
  | .ok ds A => if ds.length = fs.length then .er ⟨cls, fs.zip ds⟩ r A else .bad
  | .er e A => .er e r A
  | .bad => .bad
section
variable {X : Cx} {W : WX} {e : Expr} {es : List Expr} {ms : DM (List Dt)} {pos p : Pos} {g : Gx}
theorem upd_del {H : Hp} {a dx : Addr} {o1 o2 o3 u : HO} (ha : H a = none) (hd : dx ≠ a) : upd (del (upd (upd (upd H a o1) dx o2) a o3) a) dx u = upd H dx u := by
  funext b
  by_cases h1 : b = dx
  · subst h1; rw [upd_same, upd_same]
  · rw [upd_ne h1, upd_ne h1]
    by_cases h2 : b = a
    · subst h2; rw [del_same, ha]
    · rw [del_ne h2, upd_ne h2, upd_ne h1, upd_ne h2]
theorem upd_del2 {H : Hp} {a dx : Addr} {o1 o2 o3 o4 u : HO} (ha : H a = none) (hd : dx ≠ a) : upd (del (upd (upd (upd (upd H a o1) dx o2) a o3) dx o4) a) dx u = upd H dx u := by
  funext b
  by_cases h1 : b = dx
  · subst h1; rw [upd_same, upd_same]
  · rw [upd_ne h1, upd_ne h1]
    by_cases h2 : b = a
    · subst h2; rw [del_same, ha]
    · rw [del_ne h2, upd_ne h1, upd_ne h2, upd_ne h1, upd_ne h2]
/-- the raised exception stands -/
theorem ex_made {c : Cf} {σ : L2.St} {H : Hp} {C d : Addr} {fs : List (Str × V)} {x : Ex} (ok : Ok g c σ H) (hd : H d = none) (hC : g.mg x.cls = some (.ref C)) (hf : ∀ f y, x.fs.lookup f = some y → ∃ v, fs.lookup f = some v ∧ c.rep g v y) :
    ∃ c', Ext c c' ∧ c'.r = c.r ∧ c'.A = c.A ∧ Ok g c' σ (upd H d (.xd fs)) ∧ ExOk g c' x (.ref C) (some d) := by
  obtain ⟨ok2, x2⟩ := ok.laid (o := .xd fs) hd
  exact ⟨_, x2, rfl, rfl, ok2, C, d, fs, hC, rfl, rfl, upd_same, fun f y hy => let ⟨v, a, b⟩ := hf f y hy; ⟨v, a, x2.rep b⟩⟩
theorem ps_raise1 {C fI : Addr} {k : Nat} {fd : FuncData} {ps : List Str} {x f : Str} (F1 : FnOk X.prog X.w X.K X.mg X.base (L2.CX X.prog X.w) k fI fd ps (spI1 C f)) (hc : X.calm = true) (tk : Takes X W) (T : OexC X.K C) (iC : PySem.W.findIn X.K (.ref C) "__init__" = some (some (.ref fI))) (tI : PySem.W.typeIn X.K (.ref fI) = some (.type "function"))
    (hr : Room (k + 1) X.A) (hb : Binds X.K fd ps []) (hm : X.mg x = some (.ref C)) (ha : PL X W [e] ms) (hg : Gl X x := by rfl)
    {pos2 : Pos} (hdb : (x == ("__debug__" : Str)) = false := by decide) (he : starEach [e] X.env = (false, eval e X.env) :: starEach [] X.env := by rfl) : PS1 X W (.Raise (some (.Call (.Name x p) [e] [] pos)) none pos2) (sRaise x [f] ms) := by
  refine ⟨(ps_raise hc tk (pmk_oex T iC tI F1 hr hb (dvs := []) .nil passL hg hm ha.pa hdb he rfl)).weak fun D σ H ⟨c, ok, h⟩ => ?_⟩
  have h' : PostS (gx X) W D c (match ms c.r c.A with
    | .ok ds A => if ds.length = [f].length then .er ⟨x, [f].zip ds⟩ c.r A else .bad
    | .er e A => .er e c.r A
    | .bad => .bad) := h
  refine ⟨c, ok, ?_⟩
  cases e1 : ms c.r c.A with
  | er ex A => rw [e1] at h'; exact fun c' cls d H' x h1 h2 o r => h' c' cls d σ H' x h1 h2 o r
  | bad => rw [e1] at h'; exact h'
  | ok ds A =>
    rw [e1] at h'
    intro c1 vs H1 x1 r1 a1 ok1 rv
    by_cases hl : ds.length = [f].length
    · simp only [hl, if_true] at h'
      cases rv with
      | nil => simp at hl
      | @cons v d vs' ds' rv rr =>
        cases rr with
        | cons _ _ => simp at hl
        | nil =>
        refine ⟨by simp, fun a hna => ⟨a, v, rfl, upd_same, fun dx hdx hne => ⟨rfl, dx, [(f, v)], upd_same, ?_, ?_, ?_⟩⟩⟩
        · rw [upd_ne hne]; exact upd_same
        · rw [upd_ne hne] at hdx; exact hdx
        · rw [upd_del hna hne]
          rw [upd_ne hne] at hdx
          obtain ⟨c2, x2, r2, a2, ok2, ex2⟩ := ex_made (x := ⟨x, [f].zip [d]⟩) (fs := [(f, v)]) ok1 hdx hm (fun f' y hy => by
            have hy' : List.lookup f' [(f, d)] = some y := hy
            rw [List.lookup_cons] at hy' ⊢
            split at hy'
            · cases hy'; exact ⟨v, rfl, rv⟩
            · cases hy')
          exact h' c2 _ _ σ _ (x1.trans x2) (r2.trans r1) (a2.trans a1) ok2 ex2
    · simp only [hl, if_false] at h'
      exact h'.elim
theorem ps_raise2 {e2 : Expr} {C fI : Addr} {k : Nat} {fd : FuncData} {ps : List Str} {x f f2 : Str} (F1 : FnOk X.prog X.w X.K X.mg X.base (L2.CX X.prog X.w) k fI fd ps (spI2 C f f2)) (hff : (f == f2) = false) (hc : X.calm = true) (tk : Takes X W) (T : OexC X.K C) (iC : PySem.W.findIn X.K (.ref C) "__init__" = some (some (.ref fI))) (tI : PySem.W.typeIn X.K (.ref fI) = some (.type "function"))
    (hr : Room (k + 1) X.A) (hb : Binds X.K fd ps []) (hm : X.mg x = some (.ref C)) (ha : PL X W [e, e2] ms) (hg : Gl X x := by rfl)
    (hdb : (x == ("__debug__" : Str)) = false := by decide) (he : starEach [e, e2] X.env = (false, eval e X.env) :: starEach [e2] X.env := by rfl) {pos2 : Pos} (hpl : (backTo pos (starEach [e2] X.env)).any (·.1) = false := by rfl) : PS1 X W (.Raise (some (.Call (.Name x p) [e, e2] [] pos)) none pos2) (sRaise x [f, f2] ms) := by
  refine ⟨(ps_raise hc tk (pmk_oex T iC tI F1 hr hb (dvs := []) .nil passL hg hm ha.pa hdb he hpl)).weak fun D σ H ⟨c, ok, h⟩ => ?_⟩
  have h' : PostS (gx X) W D c (match ms c.r c.A with
    | .ok ds A => if ds.length = [f, f2].length then .er ⟨x, [f, f2].zip ds⟩ c.r A else .bad
    | .er e A => .er e c.r A
    | .bad => .bad) := h
  refine ⟨c, ok, ?_⟩
  cases e1 : ms c.r c.A with
  | er ex A => rw [e1] at h'; exact fun c' cls d H' x h1 h2 o r => h' c' cls d σ H' x h1 h2 o r
  | bad => rw [e1] at h'; exact h'
  | ok ds A =>
    rw [e1] at h'
    intro c1 vs H1 x1 r1 a1 ok1 rv
    by_cases hl : ds.length = [f, f2].length
    · simp only [hl, if_true] at h'
      cases rv with
      | nil => simp at hl
      | @cons v d vs' ds' rv rr =>
        cases rr with
        | nil => simp at hl
        | @cons v2 d2 vs' ds' rv2 rr =>
        cases rr with
        | cons _ _ => simp at hl
        | nil =>
        refine ⟨by simp, fun a hna => ⟨a, v, v2, rfl, upd_same, fun dx hdx hne => ⟨rfl, dx, [(f2, v2), (f, v)], ?_, upd_same, ?_, ?_⟩⟩⟩
        · rw [upd_ne (Ne.symm hne)]; exact upd_same
        · rw [upd_ne hne] at hdx; exact hdx
        · rw [upd_del2 hna hne]
          rw [upd_ne hne] at hdx
          obtain ⟨c2, x2, r2, a2, ok2, ex2⟩ := ex_made (x := ⟨x, [f, f2].zip [d, d2]⟩) (fs := [(f2, v2), (f, v)]) ok1 hdx hm (fun f' y hy => by
            have hy' : List.lookup f' [(f, d), (f2, d2)] = some y := hy
            rw [List.lookup_cons] at hy' ⊢
            cases hq : f' == f with
            | true =>
              rw [hq] at hy'
              have e' : f' = f := by simpa using hq
              subst e'
              rw [hff]
              cases hy'
              exact ⟨v, by rw [List.lookup_cons, beq_self_eq_true], rv⟩
            | false =>
              rw [hq] at hy'
              simp only at hy'
              rw [List.lookup_cons] at hy'
              cases hq2 : f' == f2 with
              | true => rw [hq2] at hy'; cases hy'; exact ⟨v2, rfl, rv2⟩
              | false => rw [hq2] at hy'; cases hy')
          exact h' c2 _ _ σ _ (x1.trans x2) (r2.trans r1) (a2.trans a1) ok2 ex2
    · simp only [hl, if_false] at h'
      exact h'.elim
end

/-! ### try -/
/-- is the class caught by the clause c? -/
def exEM (g : Gx) (c : Value) (nm : Str) : Option Bool := match g.mg nm with
  | some (.ref C) => PySem.W.exmOne g.K (.ref C) c
  | _ => none
def Fl.noEr (f : Fl) : Fl := match f with
  | .er _ _ _ => .bad
  | f => f
def Fl.unset (i : Nat) (f : Fl) : Fl := match f with
  | .nx r A => .nx (r.set i none) A
  | .bk r A => .bk (r.set i none) A
  | .cn r A => .cn (r.set i none) A
  | .rt s A => .rt s A
  | _ => .bad
structure HD where
  c : Value
  i : Option Nat
  m : Ex → DS
def hdRun (g : Gx) (e : Ex) : List HD → DS
  | [], r, A => .er e r A
  | h :: hs, r, A => match exEM g h.c e.cls with
    | some true => match h.i with
      | none => (h.m e r A).noEr
      | some i => if i < r.length then (h.m e (r.set i none) A).unset i else .bad
    | some false => hdRun g e hs r A
    | none => .bad
def sTry (g : Gx) (b : DS) (hs : List HD) : DS := fun r A => match b r A with
  | .er e r A => hdRun g e hs r A
  | f => f
section
variable {X : Cx} {g : Gx} {i : Nat} {a : Addr} {oe : Obj} {cls : Value} {d : Option Addr} {pn : List (Addr × Obj)} {ex : Ex}
/-- as PostS, the exception at hand -/
def tSx (g : Gx) (i : Option Nat) (a : Addr) (cls : Value) (d : Option Addr) (ex : Ex) (m : DS) : TS := fun D σ H => (∀ j, i = some j → σ[j]? = some (some (.ref a))) ∧ ∃ c, Ok g c σ H ∧ ExOk g c ex cls d ∧ PostS g Wf D c (m c.r c.A)
theorem Ok.hide {c : Cf} {σ : L2.St} {H : Hp} (o : Ok g c σ H) (i : Nat) (x : Option V) : ∃ c', Ext c c' ∧ c'.r = c.r.set i none ∧ c'.A = c.A ∧ Ok g c' (σ.set i x) H := by
  refine ⟨{ c with r := c.r.set i none }, ⟨Same.refl _, rfl, fun _ _ e => e⟩, rfl, rfl, o.fz, o.pr, o.fp, o.inj, o.own, o.new, ?_, fun k s e => ?_, fun j ob e => (o.objs j ob e).imp0 ⟨Same.refl _, fun _ _ e => e⟩ fun a ea => ⟨ea, rfl⟩⟩
  · show (σ.set i x).length = (c.r.set i none).length
    rw [List.length_set, List.length_set, o.len]
  · have e' : (c.r.set i none)[k]? = some (some s) := e
    by_cases hk : i = k
    · subst hk
      by_cases hl : i < c.r.length
      · rw [List.getElem?_set_self hl] at e'; cases e'
      · rw [List.getElem?_eq_none (by rw [List.length_set]; omega)] at e'; cases e'
    · rw [List.getElem?_set_ne hk] at e'
      obtain ⟨v, e1, e2⟩ := o.slots k s e'
      exact ⟨v, by rw [List.getElem?_set_ne hk]; exact e1, e2.imp0 ⟨Same.refl _, fun _ _ e => e⟩ fun a ea => ⟨ea, rfl⟩⟩
/-- the clauses -/
inductive Hds (X : Cx) : List ExceptHandler → List HD → Prop
  | nil : Hds X [] []
  | cons {x : Str} {c : Value} {m : Ex → DS} {b₀ : Stmt} {suite : List Stmt} {np pos' : Pos} {hds : List ExceptHandler} {l : List HD} (hc : Names X x c)
      (hsu : ∀ (a : Addr) (oe : Obj) (cls : Value) (d : Option Addr) (pn : List (Addr × Obj)) (ex : Ex), Zc cls d oe → (∃ vs, oe.data = .fields vs) → PSs (X.suite a ((a, oe) :: pn)) (b₀ :: suite) (tSx (gx X) none a cls d ex (m ex))) (r : Hds X hds l) :
      Hds X (.ExceptHandler (some (.Name x np)) none (b₀ :: suite) pos' :: hds) (⟨c, none, m⟩ :: l)
  | named {x n : Str} {i : Nat} {c : Value} {m : Ex → DS} {b₀ : Stmt} {suite : List Stmt} {np pos' : Pos} {hds : List ExceptHandler} {l : List HD} (hc : Names X x c)
      (hN : X.N.Nodup) (hi : X.N[i]? = some n) (hln : X.env.kindOf n = some .local)
      (hsu : ∀ (a : Addr) (oe : Obj) (cls : Value) (d : Option Addr) (pn : List (Addr × Obj)) (ex : Ex), Zc cls d oe → (∃ vs, oe.data = .fields vs) → PSs (X.suite a ((a, oe) :: pn)) (b₀ :: suite) (tSx (gx X) (some i) a cls d ex (m ex))) (r : Hds X hds l) :
      Hds X (.ExceptHandler (some (.Name x np)) (some n) (b₀ :: suite) pos' :: hds) (⟨c, some i, m⟩ :: l)
def hdA (g : Gx) (h : HD) : Value × Option Nat × (Addr → Value → Option Addr → TS) := (h.c, h.i, fun a cls d D σ H => ∃ ex, tSx g h.i a cls d ex (h.m ex) D σ H)
theorem _root_.L2.PSs.exT {ι : Type} {s : List Stmt} {t : ι → TS} (h : ∀ i, PSs X s (t i)) : PSs X s (fun D σ H => ∃ i, t i D σ H) := ⟨fun pins s σ H D I ⟨i, q⟩ => (h i).run pins s σ H D I q⟩
theorem Hds.toA {hds : List ExceptHandler} {l : List HD} (h : Hds X hds l) : HdsA X hds (l.map (hdA (gx X))) := by
  induction h with
  | nil => exact .nil
  | cons hc hsu r ih => exact .cons hc (fun a oe cls d pn hz hf => PSs.exT fun ex => hsu a oe cls d pn ex hz hf) ih
  | named hc hN hi hln hsu r ih => exact .named hc hN hi hln (fun a oe cls d pn hz hf => PSs.exT fun ex => hsu a oe cls d pn ex hz hf) ih
theorem post_noEr {W : WX} {D : Ends} {c : Cf} {f : Fl} (h : PostS g W D c f.noEr) : PostS g Wf D c f := by
  cases f with
  | er e r A => exact h.elim
  | nx r A => exact h
  | rt s A => exact h
  | bk r A => exact h
  | cn r A => exact h
  | bad => exact h
theorem hd_many {W : WX} {D : Ends} : ∀ {l : List HD} {c : Cf} {σ : L2.St} {H : Hp}, Ok g c σ H → ExOk g c ex cls d → PostS g W D c (hdRun g ex l c.r c.A) → wManyA g.K W D (l.map (hdA g)) cls d σ H
  | [], c, σ, H, ok, hx, h => h c cls d σ H (Ext.refl c) rfl rfl ok hx
  | ⟨cv, none, m⟩ :: l, c, σ, H, ok, hx, h => by
    have h' : PostS g W D c (match exEM g cv ex.cls with | some true => (m ex c.r c.A).noEr | some false => hdRun g ex l c.r c.A | none => .bad) := h
    obtain ⟨C, dd, fs, h1, h2, h3, h4, h5⟩ := id hx
    have em : exEM g cv ex.cls = PySem.W.exmOne g.K cls cv := by unfold exEM; rw [h1, h2]
    rw [em] at h'
    cases e : PySem.W.exmOne g.K cls cv with
    | none => rw [e] at h'; exact h'.elim
    | some b =>
      rw [e] at h'
      cases b with
      | true => exact ⟨true, e, fun _ a ha => ⟨ex, (fun j z => nomatch z), c, ok, hx, post_noEr h'⟩, (fun z => nomatch z)⟩
      | false => exact ⟨false, e, (fun z => nomatch z), fun _ => hd_many ok hx h'⟩
  | ⟨cv, some i, m⟩ :: l, c, σ, H, ok, hx, h => by
    have h' : PostS g W D c (match exEM g cv ex.cls with | some true => (if i < c.r.length then (m ex (c.r.set i none) c.A).unset i else .bad) | some false => hdRun g ex l c.r c.A | none => .bad) := h
    obtain ⟨C, dd, fs, h1, h2, h3, h4, h5⟩ := id hx
    have em : exEM g cv ex.cls = PySem.W.exmOne g.K cls cv := by unfold exEM; rw [h1, h2]
    rw [em] at h'
    cases e : PySem.W.exmOne g.K cls cv with
    | none => rw [e] at h'; exact h'.elim
    | some b =>
      rw [e] at h'
      cases b with
      | false => exact ⟨false, e, (fun z => nomatch z), fun _ => hd_many ok hx h'⟩
      | true =>
        refine ⟨true, e, fun _ a ha => ?_, (fun z => nomatch z)⟩
        obtain ⟨c1, x1, r1, a1, ok1⟩ := ok.hide i (some (.ref a))
        have h5 : PostS g W D c (if i < c.r.length then (m ex (c.r.set i none) c.A).unset i else .bad) := h'
        by_cases hi : i < c.r.length
        · rw [if_pos hi] at h5
          refine ⟨ex, fun j z => by cases z; exact List.getElem?_set_self (by rw [ok.len]; exact hi), c1, ok1, x1.ex hx, ?_⟩
          rw [r1, a1]
          show PostS g Wf _ c1 (m ex (c.r.set i none) c.A)
          cases em2 : m ex (c.r.set i none) c.A with
          | nx r A =>
            rw [em2] at h5
            intro c2 σ2 H2 x2 e1 e2 ok2
            obtain ⟨c3, x3, r3, a3, ok3⟩ := ok2.hide i none
            exact h5 c3 _ H2 (x1.trans (x2.trans x3)) (by rw [r3, e1]) (by rw [a3, e2]) ok3
          | bk r A =>
            rw [em2] at h5
            intro c2 σ2 H2 x2 e1 e2 ok2
            obtain ⟨c3, x3, r3, a3, ok3⟩ := ok2.hide i none
            exact h5 c3 _ H2 (x1.trans (x2.trans x3)) (by rw [r3, e1]) (by rw [a3, e2]) ok3
          | cn r A =>
            rw [em2] at h5
            intro c2 σ2 H2 x2 e1 e2 ok2
            obtain ⟨c3, x3, r3, a3, ok3⟩ := ok2.hide i none
            exact h5 c3 _ H2 (x1.trans (x2.trans x3)) (by rw [r3, e1]) (by rw [a3, e2]) ok3
          | rt s A =>
            rw [em2] at h5
            intro c2 v H2 x2 e1 e2 ok2 f
            exact h5 c2 v H2 (x1.trans x2) e1 e2 ok2 f
          | er e r A => rw [em2] at h5; exact h5.elim
          | bad => rw [em2] at h5; exact h5.elim
        · rw [if_neg hi] at h5
          exact h5.elim
theorem ps_tryD {W : WX} {body : List Stmt} {b : DS} {h₀ : ExceptHandler} {hds : List ExceptHandler} {l : List HD} {pos : Pos} (hs : X.stack = X.env :: X.outer) (hf : X.env.frame = some X.env.locals) (tk : Takes X W)
    (hb : ∀ (W : WX) (pn : List (Addr × Obj)) (xe : Value → Shared → Prop), Takes (X.tr pn xe) W → PassesOwn (model X.prog X.w) X.A X.env xe → PSL (X.tr pn xe) W body b)
    (hh : Hds X (h₀ :: hds) l) : PS1 X W (.Try body (h₀ :: hds) [] [] pos) (sTry (gx X) b l) := by
  refine ⟨(ps_try_manyA (tb := fun W => tS (gx X) W b) hs hf tk (fun W pn xe h1 h2 => (hb W pn xe h1 h2).pss) hh.toA).weak fun D σ H ⟨c, ok, h⟩ => ⟨c, ok, ?_⟩⟩
  have h' : PostS (gx X) W D c (match b c.r c.A with
    | .er e r A => hdRun (gx X) e l r A
    | f => f) := h
  cases e : b c.r c.A with
  | er ex r A =>
    rw [e] at h'
    intro c' cls d σ' H' x e1 e2 ok' hx
    refine hd_many ok' hx ?_
    rw [e1, e2]
    exact PostS.ext x h'
  | nx r A => rw [e] at h'; exact h'
  | rt s A => rw [e] at h'; exact h'
  | bk r A => rw [e] at h'; exact h'
  | cn r A => rw [e] at h'; exact h'
  | bad => rw [e] at h'; exact h'
/-! ### in a suite -/
abbrev tMx {α β : Type} (g : Gx) (R : Cf → L2.St → Hp → β → α → Prop) (i : Nat) (a : Addr) (cls : Value) (d : Option Addr) (ex : Ex) (m : DM α) : L2.St → Hp → (β → Hp → Prop) → Prop := fun σ H Q => σ[i]? = some (some (.ref a)) ∧ ∃ c, Ok g c σ H ∧ ExOk g c ex cls d ∧ Post g R Wf c σ (m c.r c.A) Q
/-- a value, in the suite of the exception ex at a that slot i names -/
structure PDx (X : Cx) (i : Nat) (a : Addr) (cls : Value) (d : Option Addr) (ex : Ex) (e : Expr) (m : DM Dt) : Prop where
  pe : PE X e (tMx (gx X) (RV (gx X)) i a cls d ex m)
structure PFx (X : Cx) (i : Nat) (a : Addr) (cls : Value) (d : Option Addr) (ex : Ex) (e : Expr) (m : DM Sl) : Prop where
  pe : PE X e (tMx (gx X) (RS (gx X)) i a cls d ex m)
structure PBx (X : Cx) (i : Nat) (a : Addr) (cls : Value) (d : Option Addr) (ex : Ex) (e : Expr) (m : DM Bool) : Prop where
  pt : PT X e (tMx (gx X) RT i a cls d ex m)
structure PLx (X : Cx) (i : Nat) (a : Addr) (cls : Value) (d : Option Addr) (ex : Ex) (e : List Expr) (m : DM (List Dt)) : Prop where
  pa : PA X e (tMx (gx X) (RA (gx X)) i a cls d ex m)
variable {e e1 e2 : Expr} {es : List Expr} {m m1 m2 : DM Dt} {ms : DM (List Dt)} {pos p1 p2 p3 : Pos}
theorem pdx_of (h : PD X Wf e m) : PDx X i a cls d ex e m := ⟨h.pe.weak fun σ H Q ⟨_, c, ok, _, q⟩ => ⟨c, ok, q⟩⟩
theorem pfx_of (h : PDx X i a cls d ex e m) : PFx X i a cls d ex e (mSl m) := ⟨h.pe.weak fun σ H Q ⟨h1, c, ok, hx, q⟩ => ⟨h1, c, ok, hx, (Post.bind (R := RV (gx X)) q).mono fun v H1 ⟨c1, s, x1, r1, ok1, f, q1⟩ => q1.ok ok1 f⟩⟩
theorem plx_nil : PLx X i a cls d ex [] mNil := ⟨pa_nil.weak fun σ H Q ⟨_, c, ok, _, q⟩ => q.ok ok .nil⟩
theorem plx_cons (h : PDx X i a cls d ex e m) (hs : PLx X i a cls d ex es ms) (he : starEach (e :: es) X.env = (false, eval e X.env) :: starEach es X.env := by rfl) : PLx X i a cls d ex (e :: es) (mCons m ms) := by
  refine ⟨(pa_cons h.pe hs.pa he).weak fun σ H Q ⟨h1, c, ok, hx, q⟩ => ⟨h1, c, ok, hx, ?_⟩⟩
  refine (Post.bind (R := RV (gx X)) q).mono fun v H1 ⟨c1, d, x1, r1, ok1, f1, q1⟩ => ⟨h1, c1, ok1, x1.ex hx, ?_⟩
  rw [r1]
  exact (Post.bind (R := RA (gx X)) q1).mono fun vs H2 ⟨c2, l, x2, r2, ok2, f2, q2⟩ => q2.ok ok2 (.cons (x2.rep f1) f2)
theorem pdx_tup {x1} (h : PLx X i a cls d ex es ms) : PDx X i a cls d ex (.Tuple es x1 pos) (mTup ms) := by
  refine ⟨(pe_tup h.pa).weak fun σ H Q ⟨h1, c, ok, hx, q⟩ => ⟨h1, c, ok, hx, (Post.bind (R := RA (gx X)) q).mono fun vs H1 ⟨c1, l, x1, r1, ok1, f, q1⟩ => ?_⟩⟩
  split at q1
  · rename_i hl
    refine ⟨le1000 (by rw [f.length]; exact hl), fun p hp => ?_⟩
    obtain ⟨ok2, x2⟩ := ok1.laid (o := .tup vs) hp
    exact q1 _ _ _ x2 rfl rfl ok2 (.tup (SqT.of upd_same) (x2.repL f))
  · exact q1.elim
theorem pfx_lst (h : PLx X i a cls d ex es ms) : PFx X i a cls d ex (.List es pos) (mLst ms) := by
  refine ⟨(pe_lst h.pa).weak fun σ H Q ⟨h1, c, ok, hx, q⟩ => ⟨h1, c, ok, hx, (Post.bind (R := RA (gx X)) q).mono fun vs H1 ⟨c1, l, x1, r1, ok1, f, q1⟩ => ?_⟩⟩
  split at q1
  · rename_i hl
    refine ⟨le1000 (by rw [f.length]; exact hl), fun p hp => ?_⟩
    obtain ⟨ok2, n1, n2, n3⟩ := ok1.made (o := .lst vs) hp
    exact q1 _ _ _ (Ext.refl _) rfl rfl ok2 ⟨p, vs, rfl, upd_same, f, n1, n2, n3⟩
  · exact q1.elim
theorem pdx_if {b : DM Bool} {c0 : Expr} (hb : PBx X i a cls d ex c0 b) (h1 : PDx X i a cls d ex e1 m1) (h2 : PDx X i a cls d ex e2 m2) : PDx X i a cls d ex (.IfExp c0 e1 e2 pos) (mIf b m1 m2) := by
  refine ⟨(pe_ifExp hb.pt h1.pe h2.pe).weak fun σ H Q ⟨hs, c, ok, hx, q⟩ => ⟨hs, c, ok, hx, ?_⟩⟩
  have q' : Post (gx X) (RV (gx X)) Wf c σ ((b c.r c.A).bind fun k A => if k then m1 c.r A else m2 c.r A) Q := q
  refine (Post.bind (R := RT) q').mono fun k H1 ⟨c1, k', x1, r1, ok1, e, q1⟩ => ?_
  cases e
  rw [← r1] at q1
  cases k with
  | true => exact ⟨hs, c1, ok1, x1.ex hx, q1⟩
  | false => exact ⟨hs, c1, ok1, x1.ex hx, q1⟩
/-- ex.f -/
def exFB (g : Gx) (nm f : Str) : Bool := match g.mg nm with
  | some (.ref C) => xfB g.K C && decide (PySem.W.findIn g.K (.ref C) f = some none)
  | _ => false
def mXf (g : Gx) (ex : Ex) (f : Str) : DM Dt := fun _ A => if exFB g ex.cls f = true then match ex.fs.lookup f with
  | some d => .ok d A
  | none => .bad
  else .bad
theorem pdx_fld {n f : Str} (hz : Zc cls d oe) (hf : ∃ vs, oe.data = .fields vs) (hN : X.N[i]? = some n) (hv : Vis X.env.scope n) (hdb : (n == ("__debug__" : Str)) = false := by decide) (hcd : (n == ("__classdict__" : Str)) = false := by decide)
    (hbase : attributeBase (.Name n p1) f X.env (eval (.Name n p1) X.env) = eval (.Name n p1) X.env := by rfl) : PDx (X.suite a ((a, oe) :: pn)) i a cls d ex (.Attribute (.Name n p1) f pos) (mXf (gx X) ex f) := by
  refine ⟨⟨fun pins s σ H Q I ⟨hs, c, ok, hx, q⟩ => ?_⟩⟩
  have q' : Post (gx X) (RV (gx X)) Wf c σ (if exFB (gx X) ex.cls f = true then match ex.fs.lookup f with
    | some d => .ok d c.A
    | none => .bad
    else .bad) Q := q
  obtain ⟨C, dd, fs, h1, h2, h3, h4, h5⟩ := id hx
  by_cases hB : exFB (gx X) ex.cls f = true
  · rw [if_pos hB] at q'
    have hB' : (xfB X.K C && decide (PySem.W.findIn X.K (.ref C) f = some none)) = true := by
      unfold exFB at hB
      rw [h1] at hB
      exact hB
    obtain ⟨b1, b2⟩ := Bool.and_eq_true_iff.mp hB'
    refine (pe_xf (xfB_ok b1) (of_decide_eq_true b2) hz hf (pe_var (X := X.suite a ((a, oe) :: pn)) hN hv hdb hcd) hbase).run pins s σ H Q I ?_
    refine ⟨.ref a, hs, rfl, h2, dd, fs, ?_⟩
    cases e : ex.fs.lookup f with
    | none => rw [e] at q'; exact q'.elim
    | some y =>
      rw [e] at q'
      obtain ⟨v, hv1, hv2⟩ := h5 f y e
      exact ⟨v, h3, ok.fz _ _ h4, hv1, q'.ok ok hv2⟩
  · rw [if_neg hB] at q'
    exact q'.elim
/-- isinstance(ex, C) -/
def isxB (K : PySem.W.Frag) (C : Addr) : Bool := (PySem.W.clsIn K C).isSome && (decide (PySem.W.findIn K (.ref C) "__getattribute__" = some (some (.builtin "BaseException.__getattribute__"))) && (decide (PySem.W.findIn K (.ref C) "__getattr__" = some none) && (decide (PySem.W.subIn K (.ref C) (.type "BaseException") = some true) &&
  (decide (PySem.W.findIn K (.ref C) "__class__" = some (some (.builtin "object.__class__"))) && (decide (PySem.W.specialIn K (.builtin "object.__class__") "__get__" = some (some (.builtin "getset_descriptor.__get__"))) && (decide (PySem.W.takesIn K (.builtin "object.__class__") = some true) && decide (PySem.W.mroIn K C (.type "object") = some true)))))))
def exIS (g : Gx) (nm : Str) (cv : Value) : Option Bool := match g.mg nm with
  | some (.ref C) => if isxB g.K C = true then PySem.W.kitOne g.K (.ref C) cv else none
  | _ => none
def rIsX (K : PySem.W.Frag) (a : Addr) (cls : Value) (d : Option Addr) : List V → Hp → VK → Prop := fun xs H Q => ∃ (D dd : Addr) (fs : List (Str × V)) (c : V) (cv : Value) (b : Bool), cls = .ref D ∧ d = some dd ∧ H dd = some (.xd fs) ∧ isxB K D = true ∧ xs = [.ref a, c] ∧ (∀ u, RelV c u → u = cv) ∧ PySem.W.kitOne K (.ref D) cv = some b ∧ Q (.bl b) H
theorem call_isX (hz : Zc cls d oe) (hf : ∃ vs, oe.data = .fields vs) : CallR (X.suite a ((a, oe) :: pn)) (.builtin "isinstance") (rIsX X.K a cls d) := by
  intro pins s σ H xs us Q I r h
  obtain ⟨D, dd, fs, c, cv, b, rfl, rfl, hdd, hB, rfl, hcv, e, q⟩ := h
  cases r with
  | cons rx rr =>
    cases rr with
    | cons rt rr =>
      cases rr
      cases rx
      have ec := hcv _ rt
      subst ec
      obtain ⟨hget, _⟩ := I.pin (a, oe) (List.mem_append.mpr (.inl List.mem_cons_self))
      obtain ⟨vs, hv⟩ := hf
      have hx : ObjOk X.prog X.w H s.heap dd (.xd fs) := I.hok dd _ hdd
      obtain ⟨mA, hns, hr⟩ := hx
      obtain ⟨od, ho, hl⟩ := lookIn_ns hns
      have J : PySem.W.InstAt s.heap a oe D (some od) := ⟨hget, hz.1, by unfold PySem.W.notCls; rw [hv] <;> rfl, by rw [hz.2]; exact ho⟩
      obtain ⟨b1, hB⟩ := Bool.and_eq_true_iff.mp hB
      obtain ⟨b2, hB⟩ := Bool.and_eq_true_iff.mp hB
      obtain ⟨b3, hB⟩ := Bool.and_eq_true_iff.mp hB
      obtain ⟨b4, hB⟩ := Bool.and_eq_true_iff.mp hB
      obtain ⟨b5, hB⟩ := Bool.and_eq_true_iff.mp hB
      obtain ⟨b6, hB⟩ := Bool.and_eq_true_iff.mp hB
      obtain ⟨b7, b8⟩ := Bool.and_eq_true_iff.mp hB
      exact PySem.W.kia_one (PySem.W.kitx_exc b1 (of_decide_eq_true b2) (of_decide_eq_true b3) (of_decide_eq_true b4) (of_decide_eq_true b5) (of_decide_eq_true b6) (of_decide_eq_true b7) (of_decide_eq_true b8)) I.kIn J e (fun z => nomatch z) fun tk => ⟨.bl b, H, I.kept (t' := tk) fun _ _ z => z, rfl, q⟩
def mIsX (g : Gx) (ex : Ex) (cv : Value) : DM Bool := fun _ A => match exIS g ex.cls cv with
  | some b => .ok b A
  | none => .bad
theorem pbx_is {n x : Str} {cv : Value} {c0 : V} (hz : Zc cls d oe) (hf : ∃ vs, oe.data = .fields vs) (hN : X.N[i]? = some n) (hv : Vis X.env.scope n) (hg : Gl X "isinstance") (hm : X.mg "isinstance" = none)
    (hc : PE (X.suite a ((a, oe) :: pn)) (.Name x p3) (tC c0)) (hcv : ∀ u, RelV c0 u → u = cv) (hdb : (n == ("__debug__" : Str)) = false := by decide) (hcd : (n == ("__classdict__" : Str)) = false := by decide)
    (he2 : starEach [.Name x p3] X.env = (false, eval (.Name x p3) X.env) :: starEach [] X.env := by rfl) (he : starEach [.Name n p2, .Name x p3] X.env = (false, eval (.Name n p2) X.env) :: starEach [.Name x p3] X.env := by rfl) (hpl : (backTo pos (starEach [.Name x p3] X.env)).any (·.1) = false := by rfl) :
    PBx (X.suite a ((a, oe) :: pn)) i a cls d ex (.Call (.Name "isinstance" p1) [.Name n p2, .Name x p3] [] pos) (mIsX (gx X) ex cv) := by
  refine ⟨(pt_val (pe_callB (call_isX hz hf) hg hm (by decide +kernel) (pa_cons (pe_var (X := X.suite a ((a, oe) :: pn)) hN hv hdb hcd) (pa_cons hc pa_nil he2) he) (he := he) (hpl := hpl))).weak fun σ H Q ⟨hs, c, ok, hx, q⟩ => ?_⟩
  have q' : Post (gx X) RT Wf c σ (match exIS (gx X) ex.cls cv with
    | some b => .ok b c.A
    | none => .bad) Q := q
  obtain ⟨C, dd, fs, h1, h2, h3, h4, h5⟩ := id hx
  unfold exIS at q'
  rw [h1] at q'
  simp only at q'
  by_cases hB : isxB X.K C = true
  · rw [if_pos hB] at q'
    cases e : PySem.W.kitOne X.K (.ref C) cv with
    | none => rw [e] at q'; exact q'.elim
    | some b =>
      rw [e] at q'
      exact ⟨_, hs, C, dd, fs, c0, cv, b, h2, h3, ok.fz _ _ h4, hB, rfl, hcv, e, b, rfl, q'.ok ok rfl⟩
  · rw [if_neg hB] at q'
    exact q'.elim
structure PWx (X : Cx) (i : Nat) (a : Addr) (cls : Value) (d : Option Addr) (ex : Ex) (e : Expr) (m : DM Bool) : Prop where
  pw : PW X e (tMx (gx X) RT i a cls d ex m)
theorem pwx_and1 {b : DM Bool} (h : PBx X i a cls d ex e b) : PWx X i a cls d ex (.BoolOp .And [e] pos) b := ⟨pw_and1 h.pt⟩
theorem pwx_and {b b2 : DM Bool} {rest : List Expr} (h : PBx X i a cls d ex e b) (h2 : PWx X i a cls d ex (.BoolOp .And (e2 :: rest) pos) b2) : PWx X i a cls d ex (.BoolOp .And (e :: e2 :: rest) pos) (mAndB b b2) := by
  refine ⟨(pw_and h.pt h2.pw).weak fun σ H Q ⟨hs, c, ok, hx, q⟩ => ⟨hs, c, ok, hx, ?_⟩⟩
  have q' : Post (gx X) RT Wf c σ ((b c.r c.A).bind fun k A => if k then b2 c.r A else .ok false A) Q := q
  refine (Post.bind (R := RT) q').mono fun k H1 ⟨c1, k', x1, r1, ok1, e, q1⟩ => ?_
  cases e
  rw [← r1] at q1
  cases k with
  | true => exact ⟨hs, c1, ok1, x1.ex hx, q1⟩
  | false => exact q1.ok ok1 rfl
theorem pbx_w {b : DM Bool} (h : PWx X i a cls d ex e b) : PBx X i a cls d ex e b := ⟨h.pw.pt⟩
/-! statements of a suite -/
structure PSx (X : Cx) (i : Nat) (a : Addr) (cls : Value) (d : Option Addr) (ex : Ex) (s : List Stmt) (m : DS) : Prop where
  pss : PSs X s (tSx (gx X) (some i) a cls d ex m)
theorem psx_ret {m : DM Sl} (h : PFx X i a cls d ex e m) : PSx X i a cls d ex [.Return (some e) pos] (sRet m) := by
  refine ⟨(pss_one (ps_ret h.pe)).weak fun D σ H ⟨hs, c, ok, hx, q⟩ => ⟨hs i rfl, c, ok, hx, ?_⟩⟩
  have q' := q
  unfold sRet sThen at q'
  cases em : m c.r c.A with
  | er e A =>
    rw [em] at q'
    exact fun c' cls d H' x h1 h2 o r => q' c' cls d σ H' x h1 h2 o r
  | bad => rw [em] at q'; exact q'
  | ok s A =>
    rw [em] at q'
    intro c1 v H1 x1 r1 a1 ok1 f
    obtain ⟨o', x⟩ := ok1.leave
    exact q' _ v H1 (x1.trans x) rfl a1 o' f.leave
def sIfRet (t : DM Bool) (x y : DS) : DS := fun r A => match t r A with
  | .ok true A => match x r A with
    | .rt s A => .rt s A
    | _ => .bad
  | .ok false A => y r A
  | _ => .bad
theorem psx_ifret {c0 : Expr} {xs rest : List Stmt} {t : DM Bool} {x y : DS} (ht : PBx X i a cls d ex c0 t) (hx : PSx X i a cls d ex xs x) (hy : PSx X i a cls d ex rest y) : PSx X i a cls d ex (.If c0 xs [] pos :: rest) (sIfRet t x y) := by
  refine ⟨(pss_cons (ps_if ht.pt hx.pss pss_nil) hy.pss).weak fun D σ H ⟨hs, c, ok, hx, q⟩ => ⟨hs i rfl, c, ok, hx, ?_⟩⟩
  have q' : PostS (gx X) Wf D c (match t c.r c.A with
    | .ok true A => match x c.r A with
      | .rt s A => .rt s A
      | _ => .bad
    | .ok false A => y c.r A
    | _ => .bad) := q
  cases et : t c.r c.A with
  | er e A => rw [et] at q'; exact q'.elim
  | bad => rw [et] at q'; exact q'
  | ok k A =>
    rw [et] at q'
    intro c1 k' H1 x1 r1 a1 ok1 e
    cases e
    cases k with
    | true =>
      have q2 : PostS (gx X) Wf D c (match x c.r A with | .rt s A => .rt s A | _ => .bad) := q'
      refine ⟨hs, c1, ok1, x1.ex hx, ?_⟩
      rw [r1, a1]
      cases exx : x c.r A with
      | rt s A2 => rw [exx] at q2; exact PostS.ext x1 (D := D) (r := .rt s A2) q2
      | nx r A => rw [exx] at q2; exact q2.elim
      | bk r A => rw [exx] at q2; exact q2.elim
      | cn r A => rw [exx] at q2; exact q2.elim
      | er e r A => rw [exx] at q2; exact q2.elim
      | bad => rw [exx] at q2; exact q2.elim
    | false =>
      refine ⟨hs, c1, ok1, x1.ex hx, ?_⟩
      rw [r1, a1]
      exact PostS.ext x1 q'
end
end Pp

set_option Elab.async false
set_option linter.all false
set_option maxRecDepth 100000
set_option maxHeartbeats 1000000
/-! PpN: defs as data, the facts of own errors as Bools, str * int. -/
namespace Pp
open PySem PySem.Spec PyProof.Rows L2

section
variable {P : Program} {w : World} {K : PySem.W.Frag} {mg : Str → Option Value} {base : Heap} {x qual : Str} {params : Arguments} {body : List Stmt} {scope : Scope} {f : Addr} {fd : FuncData}
theorem fn_okD {N ps : List Str} {k : Nat} {m : DS} (F : FunD K x qual params body scope [] [] f fd) (S : FnScope N ps scope)
    (hb : ∀ (cdv : Value) (A : Around) (outer : List Env) (s : Shared) (H : Hp) (E : XK), Room k (A.deeper (envOfC qual scope s.heap.objs.size f cdv)) →
      PSL (cxOf (L2.CX P w) P w K mg base N qual scope f cdv A outer s H E) (fun cls d _ H => E cls d H) body m) :
    FnOk P w K mg base (L2.CX P w) (k + 1) f fd ps (spD ⟨P, w, K, mg⟩ ps.length (fnD N.length m)) := by
  refine F.ok S (fun vs H Q E h => h.1) (fun cdv A outer s H vs Q E hr h => ?_)
  obtain ⟨hl, c, ds, hr0, ok, rp, h⟩ := h
  refine ⟨_, (hb cdv A outer s H E hr).pss, ?_⟩
  obtain ⟨c1, x1, r1, a1, ok1⟩ := ok.start (N := N) rp
  refine ⟨c1, ok1, ?_⟩
  rw [r1, a1]
  have h' : PostF ⟨P, w, K, mg⟩ c (fnD N.length m ds c.A) Q E := h
  unfold fnD at h'
  cases e : m (ds.map (fun d => some (.val d)) ++ List.replicate (N.length - ds.length) none) c.A with
  | nx r A =>
    rw [e] at h'
    intro c' σ' H' x h1 h2 o
    obtain ⟨o', x'⟩ := o.leave
    exact h' _ _ H' ((x1.trans x).trans x') rfl h2 o' .non
  | rt s A =>
    rw [e] at h'
    intro c' v H' x h1 h2 o f
    exact h' _ _ H' (x1.trans x) h1 h2 o f
  | er ex r A =>
    rw [e] at h'
    intro c' cls d σ' H' x h1 h2 o f
    obtain ⟨o', x'⟩ := o.leave
    exact h' _ _ _ H' ((x1.trans x).trans x') rfl h2 o' (x'.ex f)
  | bk r A => rw [e] at h'; exact h'.elim
  | cn r A => rw [e] at h'; exact h'.elim
  | bad => rw [e] at h'; exact h'.elim
theorem init1_okD {N ps : List Str} {k : Nat} {C : Addr} {fl : Str} (F : FunD K x qual params body scope [] [] f fd) (S : FnScope N ps scope) (T : OexC K C) (hno : PySem.W.findIn K (.ref C) fl = some none) (hl : ps.length = 2) (hNl : N.length = 2)
    (hb : ∀ (cdv : Value) (A : Around) (outer : List Env) (s : Shared) (H : Hp) (E : XK), PSs (cxOf (L2.CX P w) P w K mg base N qual scope f cdv A outer s H E) body (tOst K fl (tVar 0) (tVar 1))) :
    FnOk P w K mg base (L2.CX P w) (k + 1) f fd ps (spI1 C fl) := by
  refine F.ok S (fun vs H Q E ⟨a, v, e, _⟩ => by rw [e, hl]; rfl) (fun cdv A outer s H vs Q E hr h => ?_)
  obtain ⟨a, v, e, ha, q⟩ := h
  subst e
  refine ⟨_, hb cdv A outer s H E, ?_⟩
  have hs : L2.start N [V.ref a, v] = [some (.ref a), some v] := by
    unfold L2.start; rw [hNl]; rfl
  rw [hs]
  exact ⟨v, rfl, .ref a, rfl, a, C, rfl, T, hno, .inl ⟨ha, q⟩⟩
theorem init2_okD {N ps : List Str} {k : Nat} {C : Addr} {fl fl2 : Str} (F : FunD K x qual params body scope [] [] f fd) (S : FnScope N ps scope) (T : OexC K C) (hno : PySem.W.findIn K (.ref C) fl = some none) (hno2 : PySem.W.findIn K (.ref C) fl2 = some none) (hl : ps.length = 3) (hNl : N.length = 3)
    (hb : ∀ (cdv : Value) (A : Around) (outer : List Env) (s : Shared) (H : Hp) (E : XK), PSs (cxOf (L2.CX P w) P w K mg base N qual scope f cdv A outer s H E) body (tSeq (tOst K fl (tVar 0) (tVar 1)) (tOst K fl2 (tVar 0) (tVar 2)))) :
    FnOk P w K mg base (L2.CX P w) (k + 1) f fd ps (spI2 C fl fl2) := by
  refine F.ok S (fun vs H Q E ⟨a, v, v2, e, _⟩ => by rw [e, hl]; rfl) (fun cdv A outer s H vs Q E hr h => ?_)
  obtain ⟨a, v, v2, e, ha, q⟩ := h
  subst e
  refine ⟨_, hb cdv A outer s H E, ?_⟩
  have hs : L2.start N [V.ref a, v, v2] = [some (.ref a), some v, some v2] := by
    unfold L2.start; rw [hNl]; rfl
  rw [hs]
  refine ⟨v, rfl, .ref a, rfl, a, C, rfl, T, hno, .inl ⟨ha, fun dx hd hn => ?_⟩⟩
  exact ⟨v2, rfl, .ref a, rfl, a, C, rfl, T, hno2, .inr ⟨dx, [(fl, v)], upd_same, by rw [upd_ne hn]; exact upd_same, (show (1 : Nat) ≤ 900 by decide), q dx hd hn⟩⟩
end
/-! ### own errors -/
def oexB (K : PySem.W.Frag) (C : Addr) : Bool := (match K.lookup C with
  | some ⟨.type "type", _, .cls cd, sl⟩ => (match cd.mro, sl.toList with
    | .ref C' :: bm, [_, _, _, _, some (.builtin n), _] => C' == C && n == "ValueError.__new__" && !cd.hasDel && cd.hasDict && PySem.HandSPX.refsVE bm
    | _, _ => false)
  | _ => false) && (decide (PySem.W.findIn K (.ref C) "__setattr__" = some (some (.builtin "object.__setattr__"))) && (decide (PySem.W.subIn K (.ref C) (.type "BaseException") = some true) && (decide (PySem.W.typeIn K (.ref C) = some (.type "type")) && PySem.W.keepIn K (.ref C))))
theorem oexB_ok {K : PySem.W.Frag} {C : Addr} (h : oexB K C = true) : OexC K C := by
  obtain ⟨h1, h⟩ := Bool.and_eq_true_iff.mp h
  obtain ⟨h2, h⟩ := Bool.and_eq_true_iff.mp h
  obtain ⟨h3, h⟩ := Bool.and_eq_true_iff.mp h
  obtain ⟨h4, h5⟩ := Bool.and_eq_true_iff.mp h
  refine ⟨?_, of_decide_eq_true h2, of_decide_eq_true h3, of_decide_eq_true h4, h5⟩
  split at h1
  · rename_i dd cd sl ho
    split at h1
    · rename_i C' bm k0 k1 k2 k3 n k5 hm hs
      simp only [Bool.and_eq_true, beq_iff_eq, Bool.not_eq_true'] at h1
      obtain ⟨⟨⟨⟨rfl, rfl⟩, hdel⟩, hdc⟩, ht⟩ := h1
      obtain ⟨nm, bs, mro, ns, qn, hd, sn, sub, ab, col, del⟩ := cd
      dsimp only at hm hdel hdc
      subst hm hdel hdc
      have hsl : sl = #[k0, k1, k2, k3, some (.builtin "ValueError.__new__"), k5] := by
        obtain ⟨l⟩ := sl
        simp only at hs
        rw [hs]
      subst hsl
      exact ⟨nm, qn, ns, bs, bm, sn, sub, ab, col, dd, k0, k1, k2, k3, k5, ho, ht⟩
    · cases h1
  · cases h1
/-- an own error: its class, its __init__, the fields it stores -/
def errB (K : PySem.W.Frag) (x : Str) (fs : List Str) : Bool := oexB K (He.ga K x) && (decide (PySem.W.findIn K (.ref (He.ga K x)) "__init__" = some (some (.ref (He.ma K (He.ga K x) "__init__")))) && (decide (PySem.W.typeIn K (.ref (He.ma K (He.ga K x) "__init__")) = some (.type "function")) && fs.all fun f => decide (PySem.W.findIn K (.ref (He.ga K x)) f = some none)))
theorem errB_ok {K : PySem.W.Frag} {x : Str} {fs : List Str} (h : errB K x fs = true) : OexC K (He.ga K x) ∧ PySem.W.findIn K (.ref (He.ga K x)) "__init__" = some (some (.ref (He.ma K (He.ga K x) "__init__"))) ∧
    PySem.W.typeIn K (.ref (He.ma K (He.ga K x) "__init__")) = some (.type "function") ∧ ∀ f ∈ fs, PySem.W.findIn K (.ref (He.ga K x)) f = some none := by
  obtain ⟨h1, h⟩ := Bool.and_eq_true_iff.mp h
  obtain ⟨h2, h⟩ := Bool.and_eq_true_iff.mp h
  obtain ⟨h3, h4⟩ := Bool.and_eq_true_iff.mp h
  exact ⟨oexB_ok h1, of_decide_eq_true h2, of_decide_eq_true h3, fun f hf => of_decide_eq_true (List.all_eq_true.mp h4 f hf)⟩
/-! ### str * int -/
section
variable {X : Cx} {W : WX} {a b : Expr} {ma mb : DM Dt} {pos : Pos}
theorem rep_foldl (c : Nat) : ∀ (n : Nat) (a : Array Nat), (List.replicate n #[c]).foldl (· ++ ·) a = a ++ (List.replicate n c).toArray
  | 0, a => by simp
  | n + 1, a => by
    rw [List.replicate_succ, List.foldl_cons, rep_foldl c n, List.replicate_succ]
    apply Array.toList_inj.mp
    simp
def rMulS : R2 := fun x y H Q => ∃ (c : Nat) (n : Int), x = .str ⟨#[c]⟩ ∧ y = .int n ∧ -(2 ^ 20) ≤ n ∧ n < 2 ^ 20 ∧ Q (.str ⟨(List.replicate n.toNat c).toArray⟩) H
theorem op_mulS : OpR X (binaryOp .Mult) rMulS := by
  intro pins s σ H x y v u Q I rx ry h
  obtain ⟨c, n, rfl, rfl, h1, h2, q⟩ := h
  obtain ⟨t, rfl⟩ := rx
  obtain ⟨t2, rfl⟩ := ry
  refine PySem.P.mul_str ?_ ?_ ?_ ?_
  · have e1 : ¬ n < -(2 ^ 63 : Int) := by omega
    have e2 : ¬ n ≥ 2 ^ 63 := by omega
    rw [decide_eq_false e1, decide_eq_false e2]; rfl
  · intro hn _ hz
    have hz' : (1 : Int) > (2 ^ 63 - 1) / n := hz
    have : (1 : Int) ≤ (2 ^ 63 - 1) / n := by
      rw [Int.le_ediv_iff_mul_le (by omega)]
      omega
    omega
  · intro _ _
    have e : (⟨#[c]⟩ : Str).length * n.toNat = n.toNat := by
      show 1 * n.toNat = n.toNat
      omega
    rw [e]
    unfold Builtin.Str.tooLong
    refine decide_eq_false ?_
    have : sizeLine = 2 ^ 24 := rfl
    omega
  · have fin : ∀ {z : Str} {s' : Shared} {v : Value}, z = ⟨(List.replicate n.toNat c).toArray⟩ → Inv X pins σ H s' → RelV (.str z) v → EP X pins σ Q v s' := fun e I' r => ⟨_, H, I', r, by rw [e]; exact q⟩
    split
    · rename_i hn
      refine ⟨by decide, fin (z := Str.empty) ?_ (I.tok _) ⟨_, rfl⟩⟩
      have e : n.toNat = 0 := by omega
      rw [e]; rfl
    · split
      · rename_i hn h3
        refine fin (z := ⟨#[c]⟩) ?_ I ⟨t, rfl⟩
        have e : n = 1 := by
          rcases Bool.or_eq_true_iff.mp h3 with h | h
          · simpa using h
          · have h' : (1 == 0) = true := h
            cases h'
        subst e; rfl
      · refine ⟨?_, fin (z := ⟨(List.replicate n.toNat #[c]).foldl (· ++ ·) #[]⟩) ?_ (I.tok _) ⟨_, rfl⟩⟩
        · show ((List.replicate n.toNat #[c]).foldl (· ++ ·) #[]).size ≤ sizeLine
          rw [rep_foldl]
          have : sizeLine = 2 ^ 24 := rfl
          simp
          omega
        · rw [rep_foldl]; simp
def dMulC (x y : Dt) (A : Ar) : Rs Dt := match x, y with
  | .str ⟨⟨[c]⟩⟩, .int n => if -(2 ^ 20) ≤ n ∧ n < 2 ^ 20 then .ok (.str ⟨(List.replicate n.toNat c).toArray⟩) A else .bad
  | _, _ => .bad
theorem pd_mulC (ha : PD X W a ma) (hb : PD X W b mb) : PD X W (.BinOp a .Mult b pos) (mBin dMulC ma mb) := by
  refine pd_bin op_mulS (fun c σ H x y dx dy Q ok rx ry h => ?_) ha hb
  unfold dMulC at h
  split at h
  · split at h
    · rename_i hn
      cases rx; cases ry
      exact ⟨_, _, rfl, rfl, hn.1, hn.2, h.ok ok .str⟩
    · exact h.elim
  · exact h.elim
end
end Pp

set_option Elab.async false
set_option linter.all false
set_option maxRecDepth 100000
set_option maxHeartbeats 1000000
/-! PpO: what a law's derivations lean on: facts by places, callable defs. -/
namespace Pp
open PySem PySem.Spec PyProof.Rows L2

/-- the facts of a law: its names, its defs, a Bool more -/
structure Fx (fn : List He.DefD) (fa : List He.Fa) (ex : PySem.W.Frag → Bool) (K : PySem.W.Frag) (mg : Str → Option Value) : Prop where
  hp : ∃ h : Heap, K.In h ∧ h.Ns mainGlobals mg
  d : He.SaysD fa fn K
  ex : ex K = true
section
variable {fn : List He.DefD} {fa : List He.Fa} {ex : PySem.W.Frag → Bool} {K : PySem.W.Frag} {mg : Str → Option Value}
theorem Fx.free_ (F : Fx fn fa ex K mg) (i : Nat) {x : Str} (h : fa[i]? = some (.free x) := by rfl) : mg x = none := by
  obtain ⟨hp, X, G⟩ := F.hp
  exact He.free_ok X G (F.d.fact i h)
theorem Fx.glo_ (F : Fx fn fa ex K mg) (i : Nat) {x : Str} (h : fa[i]? = some (.glo x) := by rfl) : mg x = some (.ref (He.ga K x)) := by
  obtain ⟨hp, X, G⟩ := F.hp
  exact He.glo_ok X G (F.d.fact i h)
theorem Fx.int_ (F : Fx fn fa ex K mg) (i : Nat) {x : Str} {j : Int} (h : fa[i]? = some (.int x j) := by rfl) : ∃ u, mg x = some u ∧ RelV (.int j) u := by
  obtain ⟨hp, X, G⟩ := F.hp
  obtain ⟨t, e⟩ := He.int_ok X G (F.d.fact i h)
  exact ⟨_, e, t, rfl⟩
theorem Fx.str_ (F : Fx fn fa ex K mg) (i : Nat) {x z : Str} (h : fa[i]? = some (.str x z) := by rfl) : ∃ u, mg x = some u ∧ RelV (.str z) u := by
  obtain ⟨hp, X, G⟩ := F.hp
  obtain ⟨t, e⟩ := He.str_ok X G (F.d.fact i h)
  exact ⟨_, e, t, rfl⟩
theorem Fx.def_ (F : Fx fn fa ex K mg) (i : Nat) {d : He.DefD} (h : fn[i]? = some d) : ∃ fd, FunD K d.name d.qual d.params d.body d.scope (d.dvs K) (d.kws K) (He.fAd K d.at_) fd := F.d.def_ i h
end
/-- the def x can be called -/
structure Can (P : Program) (w : World) (K : PySem.W.Frag) (mg : Str → Option Value) (base : Heap) (k : Nat) (x : Str) (n : Nat) (F : Fn) : Prop where
  mk ::
  ex : ∃ (f : Addr) (fd : FuncData) (ps : List Str), FnOk P w K mg base (L2.CX P w) k f fd ps (spD ⟨P, w, K, mg⟩ n F) ∧ mg x = some (.ref f) ∧ PySem.W.keepIn K (.ref f) = true ∧ Binds K fd ps []
/-- the own error x can be made, of one field -/
def CanE1 (P : Program) (w : World) (K : PySem.W.Frag) (mg : Str → Option Value) (base : Heap) (k : Nat) (x f : Str) : Prop :=
  ∃ (C fI : Addr) (fd : FuncData) (ps : List Str), mg x = some (.ref C) ∧ OexC K C ∧ PySem.W.findIn K (.ref C) "__init__" = some (some (.ref fI)) ∧ PySem.W.typeIn K (.ref fI) = some (.type "function") ∧ Binds K fd ps [] ∧ FnOk P w K mg base (L2.CX P w) k fI fd ps (spI1 C f)
def CanE2 (P : Program) (w : World) (K : PySem.W.Frag) (mg : Str → Option Value) (base : Heap) (k : Nat) (x f f2 : Str) : Prop :=
  ∃ (C fI : Addr) (fd : FuncData) (ps : List Str), mg x = some (.ref C) ∧ OexC K C ∧ PySem.W.findIn K (.ref C) "__init__" = some (some (.ref fI)) ∧ PySem.W.typeIn K (.ref fI) = some (.type "function") ∧ Binds K fd ps [] ∧ FnOk P w K mg base (L2.CX P w) k fI fd ps (spI2 C f f2)
section
variable {P : Program} {w : World} {K : PySem.W.Frag} {mg : Str → Option Value} {base : Heap} {x qual : Str} {params : Arguments} {body : List Stmt} {scope : Scope} {f : Addr} {fd : FuncData}
theorem fn_badD {N ps : List Str} {k n : Nat} (F : FunD K x qual params body scope [] [] f fd) (S : FnScope N ps scope) : FnOk P w K mg base (L2.CX P w) (k + 1) f fd ps (spD ⟨P, w, K, mg⟩ n fun _ _ => .bad) :=
  F.ok S (fun vs H Q E h => by
    obtain ⟨_, c, ds, _, _, _, z⟩ := h
    exact z.elim) fun cdv A outer s H vs Q E hr h => by
    obtain ⟨_, c, ds, _, _, _, z⟩ := h
    exact z.elim
end
section
variable {P : Program} {w : World} {K : PySem.W.Frag} {mg : Str → Option Value} {base : Heap} {N : List Str} {qual : Str} {scope : Scope} {f : Addr} {cdv : Value} {A : Around} {outer : List Env} {s : Shared} {H : Hp} {E : XK}
theorem takes_cx : Takes (cxOf (L2.CX P w) P w K mg base N qual scope f cdv A outer s H E) (fun cls d _ H => E cls d H) := takes_of rfl rfl rfl rfl
theorem passes_cx : PassesOwn (model (cxOf (L2.CX P w) P w K mg base N qual scope f cdv A outer s H E).prog (cxOf (L2.CX P w) P w K mg base N qual scope f cdv A outer s H E).w) (cxOf (L2.CX P w) P w K mg base N qual scope f cdv A outer s H E).A (cxOf (L2.CX P w) P w K mg base N qual scope f cdv A outer s H E).env (cxOf (L2.CX P w) P w K mg base N qual scope f cdv A outer s H E).xe := passes_of rfl
end
section
variable {X : Cx} {W : WX} {e e2 : Expr} {es : List Expr} {ms : DM (List Dt)} {pos p : Pos}
theorem pf_callC {k n : Nat} {x : Str} {F : Fn} (G : Can X.prog X.w X.K X.mg X.base k x n F) (hr : Room k X.A) (tk : Takes X W)
    (ha : PL X W (e :: es) ms) (hg : Gl X x := by rfl) (hdb : (x == ("__debug__" : Str)) = false := by decide) (he : starEach (e :: es) X.env = (false, eval e X.env) :: starEach es X.env := by rfl) (hpl : (backTo pos (starEach es X.env)).any (·.1) = false := by rfl) :
    PF X W (.Call (.Name x p) (e :: es) [] pos) (mFn n F ms) := by
  obtain ⟨f, fd, ps, G1, hm, hk, hb⟩ := G.ex
  exact pf_call G1 hr tk hm hk hb ha hg hdb he hpl
theorem ps_raise1C {k : Nat} {x f : Str} (G : CanE1 X.prog X.w X.K X.mg X.base k x f) (hc : X.calm = true) (tk : Takes X W) (hr : Room (k + 1) X.A) (ha : PL X W [e] ms) (hg : Gl X x := by rfl)
    {pos2 : Pos} (hdb : (x == ("__debug__" : Str)) = false := by decide) (he : starEach [e] X.env = (false, eval e X.env) :: starEach [] X.env := by rfl) : PS1 X W (.Raise (some (.Call (.Name x p) [e] [] pos)) none pos2) (sRaise x [f] ms) := by
  obtain ⟨C, fI, fd, ps, hm, T, iC, tI, hb, F1⟩ := G
  exact ps_raise1 F1 hc tk T iC tI hr hb hm ha hg hdb he
theorem ps_raise2C {k : Nat} {x f f2 : Str} (G : CanE2 X.prog X.w X.K X.mg X.base k x f f2) (hff : (f == f2) = false) (hc : X.calm = true) (tk : Takes X W) (hr : Room (k + 1) X.A) (ha : PL X W [e, e2] ms) (hg : Gl X x := by rfl)
    (hdb : (x == ("__debug__" : Str)) = false := by decide) (he : starEach [e, e2] X.env = (false, eval e X.env) :: starEach [e2] X.env := by rfl) {pos2 : Pos} (hpl : (backTo pos (starEach [e2] X.env)).any (·.1) = false := by rfl) : PS1 X W (.Raise (some (.Call (.Name x p) [e, e2] [] pos)) none pos2) (sRaise x [f, f2] ms) := by
  obtain ⟨C, fI, fd, ps, hm, T, iC, tI, hb, F1⟩ := G
  exact ps_raise2 F1 hff hc tk T iC tI hr hb hm ha hg hdb he hpl
theorem psx_plain {a : Addr} {oe : Obj} {cls : Value} {d : Option Addr} {pn : List (Addr × Obj)} {ex : Ex} {ss : List Stmt} {m : DS} (h : PSL (X.suite a ((a, oe) :: pn)) Wf ss m) : PSs (X.suite a ((a, oe) :: pn)) ss (tSx (gx X) none a cls d ex m) :=
  h.pss.weak fun D σ H ⟨_, c, ok, _, q⟩ => ⟨c, ok, q⟩
theorem psx_pss {i : Nat} {a : Addr} {cls : Value} {d : Option Addr} {ex : Ex} {s : List Stmt} {m : DS} (h : PSx X i a cls d ex s m) : PSs X s (tSx (gx X) (some i) a cls d ex m) := h.pss
theorem hds_nil : Hds X [] [] := .nil
theorem hds_cons {x : Str} {c : Value} {m : Ex → DS} {b₀ : Stmt} {suite : List Stmt} {np pos' : Pos} {hds : List ExceptHandler} {l : List HD} (hc : Names X x c)
    (hsu : ∀ (a : Addr) (oe : Obj) (cls : Value) (d : Option Addr) (pn : List (Addr × Obj)) (ex : Ex), Zc cls d oe → (∃ vs, oe.data = .fields vs) → PSs (X.suite a ((a, oe) :: pn)) (b₀ :: suite) (tSx (gx X) none a cls d ex (m ex))) (r : Hds X hds l) :
    Hds X (.ExceptHandler (some (.Name x np)) none (b₀ :: suite) pos' :: hds) (⟨c, none, m⟩ :: l) := .cons hc hsu r
theorem hds_named {x n : Str} {i : Nat} {c : Value} {m : Ex → DS} {b₀ : Stmt} {suite : List Stmt} {np pos' : Pos} {hds : List ExceptHandler} {l : List HD} (hc : Names X x c)
    (hN : X.N.Nodup) (hi : X.N[i]? = some n) (hln : X.env.kindOf n = some .local)
    (hsu : ∀ (a : Addr) (oe : Obj) (cls : Value) (d : Option Addr) (pn : List (Addr × Obj)) (ex : Ex), Zc cls d oe → (∃ vs, oe.data = .fields vs) → PSs (X.suite a ((a, oe) :: pn)) (b₀ :: suite) (tSx (gx X) (some i) a cls d ex (m ex))) (r : Hds X hds l) :
    Hds X (.ExceptHandler (some (.Name x np)) (some n) (b₀ :: suite) pos' :: hds) (⟨c, some i, m⟩ :: l) := .named hc hN hi hln hsu r
end
end Pp

set_option Elab.async false
set_option linter.all false
set_option maxRecDepth 100000
set_option maxHeartbeats 1000000
/-! PpP: a law's end. -/
namespace Pp
open PySem PySem.Spec PyProof.Rows L2
theorem calm_ok {P : Program} {w : World} {K : PySem.W.Frag} {mg : Str → Option Value} {base : Heap} {k : Nat} {f : Addr} {fd : FuncData} {ps : List Str} {sp : Sp} (F : FnOk P w K mg base (L2.CX P w) k f fd ps sp) :
    FnOk P w K mg base L2.CX0 k f fd ps (fun vs H Q _ => sp vs H Q fun _ _ _ => False) := by
  refine ⟨fun vs H Q E h => F.len _ _ _ _ h, fun A outer s H args us vs Q E hr he hb hv hs => codeAny_mono (F.run A outer s H args us vs Q _ hr he hb hv hs) fun r s' h => ?_⟩
  cases r with
  | ok fl => cases fl <;> exact h
  | error e =>
    obtain ⟨_, _, _, _, _, _, _, _, _, _, _, _, z⟩ := h
    exact z.elim
theorem law_sp {g : Gx} {F : Fn} {H : Hp} {a : Addr} {ns : List Int} (hS : SqL g.K H a (ns.map V.int)) (hm : ∃ A, F [.fz (ns.map .int)] [] = .ok (.val (.bl true)) A) : spD g 1 F [.ref a] H (fun v _ => v = .bl true) (fun _ _ _ => False) := by
  obtain ⟨A, e⟩ := hm
  have ok : Ok g { r := [], A := [], F := H, Pr := fun _ => none, loc := fun _ => none } [] H :=
    ⟨fun _ _ e => e, (fun _ _ e => by cases e), fun _ _ _ => rfl, (fun _ _ _ e => by cases e), (fun _ _ e => by cases e), fun _ _ => rfl, rfl, (fun i s e => by simp at e), fun j o e => by simp at e⟩
  refine ⟨rfl, _, [.fz (ns.map .int)], rfl, ok, .cons (.fz hS (RepL.of_ints ns)) .nil, ?_⟩
  show PostF g _ (F [.fz (ns.map .int)] []) _ _
  rw [e]
  intro c' v H' _ _ _ _ f
  cases f
  rfl
end Pp

set_option Elab.async false
set_option linter.all false
set_option maxRecDepth 100000
set_option maxHeartbeats 1000000
/-! PpQ: the calculus of denotations for simp; the law's own small defs: the stream. -/
namespace Pp
open PySem PySem.Spec PyProof.Rows L2
section
variable {α β : Type} {r r' : Ev} {A A' : Ar} {m ma mb : DM Dt} {ms : DM (List Dt)} {t tb : DM Bool} {f : DM Sl}
@[simp] theorem bind_ok (a : α) (A : Ar) (f : α → Ar → Rs β) : (Rs.ok a A).bind f = f a A := rfl
@[simp] theorem bind_er (e : Ex) (A : Ar) (f : α → Ar → Rs β) : (Rs.er e A : Rs α).bind f = .er e A := rfl
@[simp] theorem bind_bad (f : α → Ar → Rs β) : (Rs.bad : Rs α).bind f = .bad := rfl
@[simp] theorem s_mC (d : Dt) : mC d r A = .ok d A := rfl
@[simp] theorem s_mVar (i : Nat) : mVar i r A = match r[i]? with
  | some (some (.val d)) => .ok d A
  | _ => .bad := rfl
@[simp] theorem s_mPeek (i : Nat) : mPeek i r A = match r[i]? with
  | some (some s) => .ok s.dt A
  | _ => .bad := rfl
@[simp] theorem s_dtv (d : Dt) : Sl.dt (.val d) = d := rfl
@[simp] theorem s_dtl (l : List Dt) : Sl.dt (.lst l) = .lst l := rfl
@[simp] theorem s_mBin (g : Dt → Dt → Ar → Rs Dt) : mBin g ma mb r A = (ma r A).bind fun x A => (mb r A).bind fun y A => g x y A := rfl
@[simp] theorem s_mBinF (g : Dt → Dt → Ar → Rs Sl) : mBinF g ma mb r A = (ma r A).bind fun x A => (mb r A).bind fun y A => g x y A := rfl
@[simp] theorem s_mUn (g : Dt → Ar → Rs Dt) : mUn g ma r A = (ma r A).bind fun x A => g x A := rfl
@[simp] theorem s_mCmp (g : Dt → Dt → Ar → Rs Bool) : mCmp g ma mb r A = (ma r A).bind fun x A => (mb r A).bind fun y A => g x y A := rfl
@[simp] theorem s_mOfB : mOfB t r A = (t r A).bind fun b A => .ok (.bl b) A := rfl
@[simp] theorem s_mVal : mVal f r A = (f r A).bind fun s A => .ok s.dt A := rfl
@[simp] theorem s_mSl : mSl m r A = (m r A).bind fun d A => .ok (.val d) A := rfl
@[simp] theorem s_mNil : mNil r A = .ok [] A := rfl
@[simp] theorem s_mCons : mCons m ms r A = (m r A).bind fun d A => (ms r A).bind fun l A => .ok (d :: l) A := rfl
@[simp] theorem s_mTup : mTup ms r A = (ms r A).bind fun l A => if l.length ≤ 1000 then .ok (.tup l) A else .bad := rfl
@[simp] theorem s_mLst : mLst ms r A = (ms r A).bind fun l A => if l.length ≤ 1000 then .ok (.lst l) A else .bad := rfl
@[simp] theorem s_mCall (F : List Dt → Ar → Rs α) : mCall F ms r A = (ms r A).bind fun l A => F l A := rfl
@[simp] theorem s_mFn (n : Nat) (F : Fn) : mFn n F ms r A = (ms r A).bind fun l A => if l.length = n then F l A else .bad := rfl
@[simp] theorem s_mNone : mNone r A = .ok none A := rfl
@[simp] theorem s_mSome : mSome m r A = (m r A).bind fun d A => match d with
  | .int i => .ok (some i) A
  | _ => .bad := rfl
@[simp] theorem s_mCut (lo hi : DO) : mCut m lo hi r A = (m r A).bind fun x A => (lo r A).bind fun i A => (hi r A).bind fun j A => dCut x i j A := rfl
@[simp] theorem s_mIf (a b : DM α) : mIf t a b r A = (t r A).bind fun k A => if k then a r A else b r A := rfl
@[simp] theorem s_mAndB : mAndB t tb r A = (t r A).bind fun k A => if k then tb r A else .ok false A := rfl
@[simp] theorem s_mOrB : mOrB t tb r A = (t r A).bind fun k A => if k then .ok true A else tb r A := rfl
@[simp] theorem s_mNotB : mNotB t r A = (t r A).bind fun k A => .ok (!k) A := rfl
@[simp] theorem s_mTru : mTru m r A = (m r A).bind fun d A => dTru d A := rfl
@[simp] theorem s_mIsN : mIsN m r A = (m r A).bind fun d A => .ok (isNon d) A := rfl
@[simp] theorem s_mNotN : mNotN m r A = (m r A).bind fun d A => .ok (!isNon d) A := rfl
@[simp] theorem s_mAndV : mAndV ma mb r A = (ma r A).bind fun x A => match x with
  | .bl true => mb r A
  | .bl false => .ok (.bl false) A
  | _ => .bad := by
  unfold mAndV
  first | rfl | (congr 1; funext x A; cases x <;> first | rfl | (rename_i b; cases b <;> rfl))
@[simp] theorem s_mNotV : mNotV ma r A = (ma r A).bind fun x A => match x with
  | .bl k => .ok (.bl (!k)) A
  | _ => .bad := by
  unfold mNotV
  first | rfl | skip
@[simp] theorem dTru_bl (b : Bool) : dTru (.bl b) A = .ok b A := rfl
@[simp] theorem isNon_non : isNon .non = true := rfl
@[simp] theorem isNon_int (i : Int) : isNon (.int i) = false := rfl
@[simp] theorem isNon_str (x : Str) : isNon (.str x) = false := rfl
@[simp] theorem isNon_tup (l : List Dt) : isNon (.tup l) = false := rfl
@[simp] theorem isNon_lst (l : List Dt) : isNon (.lst l) = false := rfl
@[simp] theorem isNon_bl (b : Bool) : isNon (.bl b) = false := rfl
@[simp] theorem isNon_obj (j : Nat) : isNon (.obj j) = false := rfl
@[simp] theorem isNon_fz (l : List Dt) : isNon (.fz l) = false := rfl
theorem good_int (i : Int) : Dt.good (.int i) = true := rfl
theorem good_str (x : Str) : Dt.good (.str x) = true := rfl
theorem good_bl (b : Bool) : Dt.good (.bl b) = true := rfl
theorem good_non : Dt.good .non = true := rfl
@[simp] theorem dEq_int (i j : Int) : dEq (.int i) (.int j) A = .ok (decide (i = j)) A := by
  unfold dEq
  rw [if_pos (by rfl)]
  show Rs.ok (PyData.eqv (.int i) (.int j)) A = _
  rw [PyData.eqv]
  by_cases h : i = j <;> simp [h]
@[simp] theorem dEq_str (i j : Str) : dEq (.str i) (.str j) A = .ok (decide (i = j)) A := by
  unfold dEq
  rw [if_pos (by rfl)]
  show Rs.ok (PyData.eqv (.str i) (.str j)) A = _
  rw [PyData.eqv]
  by_cases h : i = j <;> simp [h]
@[simp] theorem dNe_int (i j : Int) : dNe (.int i) (.int j) A = .ok (!decide (i = j)) A := by
  unfold dNe
  rw [if_pos (by rfl)]
  show Rs.ok (!PyData.eqv (.int i) (.int j)) A = _
  rw [PyData.eqv]
  by_cases h : i = j <;> simp [h]
@[simp] theorem dLt_int (i j : Int) : dLt (.int i) (.int j) A = .ok (decide (i < j)) A := rfl
@[simp] theorem dGt_int (i j : Int) : dGt (.int i) (.int j) A = .ok (decide (j < i)) A := rfl
@[simp] theorem dLe_int (i j : Int) : dLe (.int i) (.int j) A = .ok (decide (i ≤ j)) A := rfl
@[simp] theorem dGe_int (i j : Int) : dGe (.int i) (.int j) A = .ok (decide (j ≤ i)) A := rfl
@[simp] theorem dAdd_int (i j : Int) : dAdd (.int i) (.int j) A = .ok (.int (i + j)) A := rfl
@[simp] theorem dAdd_str (i j : Str) : dAdd (.str i) (.str j) A = if i.length + j.length ≤ sizeLine then .ok (.str (i ++ j)) A else .bad := rfl
@[simp] theorem dSub_int (i j : Int) : dSub (.int i) (.int j) A = .ok (.int (i - j)) A := rfl
@[simp] theorem dNeg_int (i : Int) : dNeg (.int i) A = .ok (.int (-i)) A := rfl
@[simp] theorem dInt_int (i : Int) : dInt [.int i] A = .ok (.int i) A := rfl
@[simp] theorem dInt_bl (b : Bool) : dInt [.bl b] A = .ok (.int (if b then 1 else 0)) A := rfl
@[simp] theorem dLen_lst (l : List Dt) : dLen [.lst l] A = .ok (.int (l.length : Nat)) A := rfl
@[simp] theorem dLen_fz (l : List Dt) : dLen [.fz l] A = .ok (.int (l.length : Nat)) A := rfl
@[simp] theorem dLen_tup (l : List Dt) : dLen [.tup l] A = .ok (.int (l.length : Nat)) A := rfl
@[simp] theorem dLen_str (s : Str) : dLen [.str s] A = if s.length ≤ sizeLine then .ok (.int (s.length : Nat)) A else .bad := rfl
@[simp] theorem dIdx_lst (l : List Dt) (i : Int) : dIdx (.lst l) (.int i) A = match atI l i with
  | some d => .ok d A
  | none => .bad := rfl
@[simp] theorem dIdx_tup (l : List Dt) (i : Int) : dIdx (.tup l) (.int i) A = match atI l i with
  | some d => .ok d A
  | none => .bad := rfl
@[simp] theorem dIdx_obj (j : Nat) (i : Int) : dIdx (.obj j) (.int i) A = match A[j]? with
  | some (.box l) => match atI l i with
    | some d => .ok d A
    | none => .bad
  | _ => .bad := rfl
@[simp] theorem dIsi_non (T : String) : dIsi T .non A = match kitB "NoneType" T with | some b => .ok (.bl b) A | none => .bad := rfl
@[simp] theorem dIsi_bl (T : String) (b : Bool) : dIsi T (.bl b) A = match kitB "bool" T with | some b => .ok (.bl b) A | none => .bad := rfl
@[simp] theorem dIsi_int (T : String) (b : Int) : dIsi T (.int b) A = match kitB "int" T with | some b => .ok (.bl b) A | none => .bad := rfl
@[simp] theorem dIsi_str (T : String) (b : Str) : dIsi T (.str b) A = match kitB "str" T with | some b => .ok (.bl b) A | none => .bad := rfl
@[simp] theorem dIsi_tup (T : String) (b : List Dt) : dIsi T (.tup b) A = match kitB "tuple" T with | some b => .ok (.bl b) A | none => .bad := rfl
@[simp] theorem dIsi_lst (T : String) (b : List Dt) : dIsi T (.lst b) A = match kitB "list" T with | some b => .ok (.bl b) A | none => .bad := rfl
/-! statements -/
@[simp] theorem s_seq (a b : DS) : sSeq a b r A = (a r A).bind b := rfl
@[simp] theorem fl_nx (b : DS) : (Fl.nx r A).bind b = b r A := rfl
@[simp] theorem fl_rt (b : DS) (s : Sl) : (Fl.rt s A).bind b = .rt s A := rfl
@[simp] theorem fl_er (b : DS) (e : Ex) : (Fl.er e r A).bind b = .er e r A := rfl
@[simp] theorem fl_bk (b : DS) : (Fl.bk r A).bind b = .bk r A := rfl
@[simp] theorem fl_cn (b : DS) : (Fl.cn r A).bind b = .cn r A := rfl
@[simp] theorem fl_bad (b : DS) : Fl.bad.bind b = .bad := rfl
@[simp] theorem s_set (i : Nat) : sSet i f r A = match f r A with
  | .ok s A => .nx (r.set i (some s)) A
  | .er e A => .er e r A
  | .bad => .bad := by
  unfold sSet sThen
  cases f r A <;> rfl
@[simp] theorem s_ret : sRet f r A = match f r A with
  | .ok s A => .rt s A
  | .er e A => .er e r A
  | .bad => .bad := by
  unfold sRet sThen
  cases f r A <;> rfl
@[simp] theorem s_skip : sSkip r A = .nx r A := rfl
@[simp] theorem s_drop (m : DM α) : sDrop m r A = match m r A with
  | .ok _ A => .nx r A
  | .er e A => .er e r A
  | .bad => .bad := rfl
@[simp] theorem s_if (a b : DS) : sIf t a b r A = match t r A with
  | .ok k A => (if k then a else b) r A
  | .er e A => .er e r A
  | .bad => .bad := by
  unfold sIf sThen
  cases t r A <;> rfl
@[simp] theorem s_retV (i : Nat) : sRetV i r A = match r[i]? with
  | some (some s) => .rt s A
  | _ => .bad := rfl
@[simp] theorem s_raise (c : Str) (fs : List Str) : sRaise c fs ms r A = match ms r A with
  | .ok ds A => if ds.length = fs.length then .er ⟨c, fs.zip ds⟩ r A else .bad
  | .er e A => .er e r A
  | .bad => .bad := rfl
@[simp] theorem s_tgt (td : TD) : sTgt m td r A = match m r A with
  | .ok d A => (match td d r with
    | some r => .nx r A
    | none => .bad)
  | .er e A => .er e r A
  | .bad => .bad := by
  unfold sTgt sThen
  cases m r A <;> rfl
@[simp] theorem s_keep (i : Nat) : sKeep i r A = match r[i]? with
  | some (some s) => .nx (r.set i (some (.val s.dt))) A
  | _ => .bad := rfl
@[simp] theorem s_box (i : Nat) : sBox i r A = match r[i]? with
  | some (some (.lst l)) => .nx (r.set i (some (.val (.obj A.length)))) (A ++ [.box l])
  | _ => .bad := rfl
@[simp] theorem s_mRfN (i : Nat) : mRfN i r A = match r[i]? with
  | some (some (.lst _)) => .ok (.sl i) A
  | some (some (.val (.obj j))) => (match A[j]? with
    | some (.box _) => .ok (.ob j) A
    | _ => .bad)
  | _ => .bad := rfl
@[simp] theorem s_mut (mr : DM Rf) (g : List Dt → List Dt → Option (List Dt)) : sMut mr ms g r A = match mr r A with
  | .ok q A => (match ms r A with
    | .ok ds A => (match q.get r A with
      | some l => (match g l ds with
        | some l' => .nx (q.setR l' r) (q.setA l' A)
        | none => .bad)
      | none => .bad)
    | .er e A => .er e r A
    | .bad => .bad)
  | .er e A => .er e r A
  | .bad => .bad := rfl
@[simp] theorem s_then {γ : Type} (m : DM γ) (k : γ → DS) : sThen m k r A = match m r A with
  | .ok a A => k a r A
  | .er e A => .er e r A
  | .bad => .bad := rfl
@[simp] theorem s_put (mr : DM Rf) : sPut m mr mb r A = sThen m (fun d => sThen mr fun q => sThen mb fun i r A => match i, q.get r A with
  | .int k, some l => match ixN l.length k with
    | some j => .nx (q.setR (l.set j d) r) (q.setA (l.set j d) A)
    | none => .bad
  | _, _ => .bad) r A := rfl
@[simp] theorem rf_getS (i : Nat) : (Rf.sl i).get r A = match r[i]? with
  | some (some (.lst l)) => some l
  | _ => none := rfl
@[simp] theorem rf_getO (j : Nat) : (Rf.ob j).get r A = match A[j]? with
  | some (.box l) => some l
  | _ => none := rfl
@[simp] theorem rf_setRS (i : Nat) (l : List Dt) : (Rf.sl i).setR l r = r.set i (some (.lst l)) := rfl
@[simp] theorem rf_setRO (j : Nat) (l : List Dt) : (Rf.ob j).setR l r = r := rfl
@[simp] theorem rf_setAS (i : Nat) (l : List Dt) : (Rf.sl i).setA l A = A := rfl
@[simp] theorem rf_setAO (j : Nat) (l : List Dt) : (Rf.ob j).setA l A = A.set j (.box l) := rfl
theorem s_fn (n : Nat) (b : DS) (ds : List Dt) : fnD n b ds A = match b (ds.map (fun d => some (.val d)) ++ List.replicate (n - ds.length) none) A with
  | .rt s A => .ok s A
  | .nx _ A => .ok (.val .non) A
  | .er e _ A => .er e A
  | _ => .bad := rfl
end
@[simp] theorem atI3_0 {α : Type} (a b c : α) : atI [a, b, c] 0 = some a := rfl
@[simp] theorem atI3_1 {α : Type} (a b c : α) : atI [a, b, c] 1 = some b := rfl
@[simp] theorem atI3_2 {α : Type} (a b c : α) : atI [a, b, c] 2 = some c := rfl
@[simp] theorem atI2_0 {α : Type} (a b : α) : atI [a, b] 0 = some a := rfl
@[simp] theorem atI2_1 {α : Type} (a b : α) : atI [a, b] 1 = some b := rfl
@[simp] theorem ix3_1 : ixN 3 1 = some 1 := rfl
@[simp] theorem ix3_2 : ixN 3 2 = some 2 := rfl
/-! ### the stream -/
/-- the stream's box -/
abbrev stB (ns : List Int) (c k : Int) : Ob := .box [.lst (ns.map .int), .int c, .int k]
def Bcell : DS := (sIf (mCmp dLt (mVar 2) (mCall dLen (mCons (mBin dIdx (mPeek 0) (mC (.int 0))) mNil))) (sSet 3 (mSl (mCall dAbs (mCons (mBin dIdx (mBin dIdx (mPeek 0) (mC (.int 0))) (mVar 2)) mNil)))) sSkip)
def Bmix : DS := (sIf (mCmp dLt (mVar 3) (mBin dPow (mC (.int 10)) (mC (.int 18)))) (sSeq (sSet 3 (mSl (mBin dMod (mCall dInt (mCons (mBin dAdd (mBin dAdd (mBin dMul (mVar 3) (mC (.int 48271))) (mBin dMul (mVar 2) (mC (.int 69621)))) (mC (.int 11))) mNil)) (mC (.int 2147483647))))) (sSet 3 (mSl (mBin dAdd (mBin dMul (mBin dMod (mCall dInt (mCons (mBin dAdd (mBin dMul (mVar 3) (mC (.int 16807))) (mC (.int 13))) mNil)) (mC (.int 2147483647))) (mC (.int 65537))) (mVar 3))))) sSkip)
def Bput : DS := (sSeq (sPut (mVar 3) (mRfN 0) (mC (.int 1))) (sPut (mBin dAdd (mVar 2) (mC (.int 1))) (mRfN 0) (mC (.int 2))))
def Btail : DS := (sSeq (sSet 4 (mSl (mBin dMod (mCall dInt (mCons (mBin dIdx (mPeek 0) (mC (.int 1))) mNil)) (mVar 1)))) (sSeq (sPut (mBin dFdiv (mBin dIdx (mPeek 0) (mC (.int 1))) (mVar 1)) (mRfN 0) (mC (.int 1))) (sRetV 4)))
def Bnext : DS := (sSeq (sIf (mCmp dEq (mBin dIdx (mPeek 0) (mC (.int 1))) (mC (.int 0))) (sSeq (sSet 2 (mSl (mBin dIdx (mPeek 0) (mC (.int 2))))) (sSeq (sSet 3 (mSl (mBin dAdd (mC (.int 7)) (mVar 2)))) (sSeq Bcell (sSeq Bmix Bput)))) sSkip) Btail)
section
variable {ns : List Int} {c k m : Int} {A : Ar} {j : Nat}
theorem next_tail {x y : Option Sl} (hA : A[j]? = some (stB ns c k)) (hm : 0 < m) (hm2 : m < 1073741824) :
    Btail [some (.val (.obj j)), some (.val (.int m)), x, y, none] A = .rt (.val (.int (c % m))) (A.set j (stB ns (c / m) k)) := by
  simp [Btail, hA, dMod, dFdiv, hm, hm2]
theorem atI_pos {α : Type} {l : List α} {i : Int} (h : 0 ≤ i) (h2 : i < (l.length : Nat)) : atI l i = l[i.toNat]? := by
  unfold atI ixN
  rw [if_pos h, if_pos h2]
  rfl
theorem next_cell (hA : A[j]? = some (stB ns c k)) (hk : 0 ≤ k) : ∃ cell : Int, 0 ≤ cell ∧
    Bcell [some (.val (.obj j)), some (.val (.int m)), some (.val (.int k)), some (.val (.int (7 + k))), none] A = .nx [some (.val (.obj j)), some (.val (.int m)), some (.val (.int k)), some (.val (.int cell)), none] A := by
  by_cases hk2 : k < (ns.length : Nat)
  · have hkn : k.toNat < ns.length := by omega
    have e : atI (ns.map Dt.int) k = some (.int ns[k.toNat]) := by
      rw [atI_pos hk (by rw [List.length_map]; exact hk2)]
      simp [hkn]
    refine ⟨(if ns[k.toNat] < 0 then -ns[k.toNat] else ns[k.toNat]), by split <;> omega, ?_⟩
    simp [Bcell, hA, hk2, e, dAbs]
  · refine ⟨7 + k, by omega, ?_⟩
    simp [Bcell, hA, hk2]
theorem next_mix {cell : Int} (h1 : 0 ≤ cell) (hk : 0 ≤ k) : ∃ c1 : Int, 0 ≤ c1 ∧
    Bmix [some (.val (.obj j)), some (.val (.int m)), some (.val (.int k)), some (.val (.int cell)), none] A = .nx [some (.val (.obj j)), some (.val (.int m)), some (.val (.int k)), some (.val (.int c1)), none] A := by
  by_cases h3 : cell < 10 ^ 18
  · refine ⟨((cell * 48271 + k * 69621 + 11) % 2147483647 * 16807 + 13) % 2147483647 * 65537 + (cell * 48271 + k * 69621 + 11) % 2147483647, ?_, ?_⟩
    · have a1 := Int.emod_nonneg (cell * 48271 + k * 69621 + 11) (b := 2147483647) (by decide)
      have a2 := Int.emod_nonneg ((cell * 48271 + k * 69621 + 11) % 2147483647 * 16807 + 13) (b := 2147483647) (by decide)
      omega
    · have h3' : cell < 1000000000000000000 := by omega
      simp [Bmix, dPow, h3', dMul, dMod]
  · refine ⟨cell, h1, ?_⟩
    have h3' : ¬ cell < 1000000000000000000 := by omega
    simp [Bmix, dPow, h3']
theorem next_put {c1 : Int} (hA : A[j]? = some (stB ns c k)) : Bput [some (.val (.obj j)), some (.val (.int m)), some (.val (.int k)), some (.val (.int c1)), none] A = .nx [some (.val (.obj j)), some (.val (.int m)), some (.val (.int k)), some (.val (.int c1)), none] (A.set j (stB ns c1 (k + 1))) := by
  have hlt : j < A.length := (List.getElem?_eq_some_iff.mp hA).1
  have hs : ∀ o : Ob, (A.set j o)[j]? = some o := fun o => List.getElem?_set_self hlt
  clear hlt
  simp [Bput, hA, hs]
theorem set_same {o : Ob} (hA : A[j]? = some o) : A.set j o = A := List.ext_getElem? fun i => by
  by_cases hi : j = i
  · subst hi; rw [List.getElem?_set_self (List.getElem?_eq_some_iff.mp hA).1, hA]
  · rw [List.getElem?_set_ne hi]
/-- one draw: a number below m; the box stays a stream's -/
theorem next_step (j : Nat) (hA : A[j]? = some (stB ns c k)) (hm : 0 < m) (hm2 : m < 1073741824) (hc : 0 ≤ c) (hk : 0 ≤ k) :
    ∃ d c' k', 0 ≤ d ∧ d < m ∧ 0 ≤ c' ∧ 0 ≤ k' ∧ fnD 5 Bnext [.obj j, .int m] A = .ok (.val (.int d)) (A.set j (stB ns c' k')) := by
  have hlt : j < A.length := (List.getElem?_eq_some_iff.mp hA).1
  by_cases h0 : c = 0
  · subst h0
    obtain ⟨cell, h1, e1⟩ := next_cell (m := m) hA hk
    obtain ⟨c1, h2, e2⟩ := next_mix (A := A) (j := j) (m := m) h1 hk
    have e3 := next_put (m := m) (c1 := c1) hA
    have e4 := next_tail (ns := ns) (c := c1) (k := k + 1) (m := m) (A := A.set j (stB ns c1 (k + 1))) (j := j) (x := some (.val (.int k))) (y := some (.val (.int c1))) (by rw [List.getElem?_set_self hlt]) hm hm2
    refine ⟨c1 % m, c1 / m, k + 1, Int.emod_nonneg _ (by omega), Int.emod_lt_of_pos _ hm, Int.ediv_nonneg h2 (by omega), by omega, ?_⟩
    rw [s_fn]
    simp [Bnext, hA, e1, e2, e3, e4]
  · refine ⟨c % m, c / m, k, Int.emod_nonneg _ (by omega), Int.emod_lt_of_pos _ hm, Int.ediv_nonneg hc (by omega), hk, ?_⟩
    rw [s_fn]
    simp [Bnext, hA, h0, next_tail hA hm hm2]
end
end Pp

set_option Elab.async false
set_option linter.all false
set_option maxRecDepth 100000
set_option maxHeartbeats 1000000
/-! PpR: comprehensions for simp; pick, equality. -/
namespace Pp
open PySem PySem.Spec PyProof.Rows L2
theorem lcGo_pure {gd : Ar → Prop} {t : TD} {b : DM Bool} {e : DM Dt} {rw : Ev} (f : Dt → Dt) (A : Ar) (hg : gd A) : ∀ (ds acc : List Dt), (∀ d ∈ ds, ∃ r, t d rw = some r ∧ b r A = .ok true A ∧ e r A = .ok (f d) A) → lcGo gd t b e rw ds acc A = .ok (.lst (acc ++ ds.map f)) A
  | [], acc, _ => by unfold lcGo; rw [if_pos hg]; simp
  | d :: ds, acc, h => by
    obtain ⟨r, h1, h2, h3⟩ := h d List.mem_cons_self
    unfold lcGo
    rw [if_pos hg, h1]
    simp only [h2, h3]
    rw [lcGo_pure f A hg ds (acc ++ [f d]) fun d' hd => h d' (List.mem_cons_of_mem _ hd)]
    simp
/-- a pure comprehension -/
theorem lc_pure {m : DM Src} {t : TD} {b : DM Bool} {e : DM Dt} {vs : List Nat} {r : Ev} {A A' : Ar} {s : Src} (f : Dt → Dt) (hm : m r A = .ok s A') (hs : lcOk r vs s) (hg : s.gd A') (h : ∀ d ∈ s.ds, ∃ r', t d (wipR r vs) = some r' ∧ b r' A' = .ok true A' ∧ e r' A' = .ok (f d) A') :
    mLc m t b e vs r A = .ok (.lst (s.ds.map f)) A' := by
  unfold mLc
  rw [hm, bind_ok, if_pos hs, lcGo_pure f A' hg s.ds [] h]
  simp
@[simp] theorem k_bb : kitB "bool" "bool" = some true := by decide +kernel
@[simp] theorem k_ib : kitB "int" "bool" = some false := by decide +kernel
@[simp] theorem k_ii : kitB "int" "int" = some true := by decide +kernel
@[simp] theorem k_bi : kitB "bool" "int" = some true := by decide +kernel
@[simp] theorem k_sb : kitB "str" "bool" = some false := by decide +kernel
@[simp] theorem k_si : kitB "str" "int" = some false := by decide +kernel
@[simp] theorem k_ss : kitB "str" "str" = some true := by decide +kernel
@[simp] theorem k_tb : kitB "tuple" "bool" = some false := by decide +kernel
@[simp] theorem k_ti : kitB "tuple" "int" = some false := by decide +kernel
@[simp] theorem k_ts : kitB "tuple" "str" = some false := by decide +kernel
@[simp] theorem k_tt : kitB "tuple" "tuple" = some true := by decide +kernel
@[simp] theorem k_tl : kitB "tuple" "list" = some false := by decide +kernel
@[simp] theorem k_lb : kitB "list" "bool" = some false := by decide +kernel
@[simp] theorem k_li : kitB "list" "int" = some false := by decide +kernel
@[simp] theorem k_ls : kitB "list" "str" = some false := by decide +kernel
@[simp] theorem k_lt : kitB "list" "tuple" = some false := by decide +kernel
@[simp] theorem k_ll : kitB "list" "list" = some true := by decide +kernel
@[simp] theorem k_ns : kitB "NoneType" "str" = some false := by decide +kernel
@[simp] theorem k_is : kitB "int" "str" = some false := by decide +kernel
@[simp] theorem dEq_bl (i j : Bool) {A : Ar} : dEq (.bl i) (.bl j) A = .ok (i == j) A := by
  unfold dEq
  rw [if_pos (by rfl)]
  show Rs.ok (PyData.eqv (.bool i) (.bool j)) A = _
  rw [PyData.eqv]
/-! ### pick -/
def Bpick (nx : Fn) : DS := (sRet (mSl (mBin dIdx (mPeek 1) (mVal (mFn 2 nx (mCons (mVar 0) (mCons (mCall dLen (mCons (mPeek 1) mNil)) mNil)))))))
theorem pick_step {ns : List Int} {c k : Int} {A : Ar} {rows : List Dt} (j : Nat) (hA : A[j]? = some (stB ns c k)) (h1 : rows ≠ []) (h2 : rows.length ≤ 1000000) (hc : 0 ≤ c) (hk : 0 ≤ k) :
    ∃ d c' k', d ∈ rows ∧ 0 ≤ c' ∧ 0 ≤ k' ∧ fnD 2 (Bpick (fnD 5 Bnext)) [.obj j, .lst rows] A = .ok (.val d) (A.set j (stB ns c' k')) := by
  have hp : 0 < rows.length := List.length_pos_iff.mpr h1
  obtain ⟨d, c', k', g1, g2, g3, g4, e⟩ := next_step (m := (rows.length : Nat)) j hA (by omega) (by omega) hc hk
  have hd : d.toNat < rows.length := by omega
  refine ⟨rows[d.toNat], c', k', List.getElem_mem hd, g3, g4, ?_⟩
  have ea : atI rows d = some rows[d.toNat] := by rw [atI_pos g1 g2, List.getElem?_eq_getElem hd]
  rw [s_fn]
  simp [Bpick, e, ea]
/-! ### equality -/
def Bisint : DS := (sRet (mSl (mAndV (mUn (dIsi "int") (mPeek 0)) (mNotV (mUn (dIsi "bool") (mPeek 0))))))
noncomputable def Bequal (n : Fn) : DS := (sSeq (sIf (mIsN (mVar 1)) (sRet (mSl (mOfB (mIsN (mVar 0))))) sSkip) (sSeq (sIf (mTru (mUn (dIsi "bool") (mPeek 1))) (sRet (mSl (mAndV (mUn (dIsi "bool") (mPeek 0)) (mOfB (mCmp dEq (mVar 0) (mVar 1)))))) sSkip) (sSeq (sIf (mTru (mUn (dIsi "int") (mPeek 1))) (sRet (mSl (mAndV (mVal (mFn 1 (fnD 1 Bisint) (mCons (mVar 0) mNil))) (mOfB (mCmp dEq (mVar 0) (mVar 1)))))) sSkip) (sSeq (sIf (mTru (mUn (dIsi "str") (mPeek 1))) (sRet (mSl (mAndV (mUn (dIsi "str") (mPeek 0)) (mOfB (mCmp dEq (mVar 0) (mVar 1)))))) sSkip) (sSeq (sIf (mAndB (mTru (mUn (dIsi "tuple") (mPeek 1))) (mNotB (mTru (mUn (dIsi "tuple") (mPeek 0))))) (sRet (mSl (mC (.bl false)))) sSkip) (sSeq (sIf (mAndB (mTru (mUn (dIsi "list") (mPeek 1))) (mNotB (mTru (mUn (dIsi "list") (mPeek 0))))) (sRet (mSl (mC (.bl false)))) sSkip) (sSeq (sIf (mCmp dNe (mCall dLen (mCons (mPeek 0) mNil)) (mCall dLen (mCons (mPeek 1) mNil))) (sRet (mSl (mC (.bl false)))) sSkip) (sRet (mSl (mCall dAll (mCons (mVal (mLc (mRg1 (mCons (mCall dLen (mCons (mPeek 1) mNil)) mNil)) (gtN 2) mYes (mVal (mFn 2 n (mCons (mBin dIdx (mPeek 0) (mVar 2)) (mCons (mBin dIdx (mPeek 1) (mVar 2)) mNil)))) [2])) mNil)))))))))))
noncomputable def Fequal : Nat → Fn
  | 0 => fun _ _ => .bad
  | n + 1 => fnD 3 (Bequal (Fequal n))
/-- plain data, at most so deep -/
inductive EqD : Nat → Dt → Prop
  | non {n} : EqD (n + 1) .non
  | bl {n b} : EqD (n + 1) (.bl b)
  | int {n i} : EqD (n + 1) (.int i)
  | str {n x} : EqD (n + 1) (.str x)
  | tup {n l} : l.length ≤ 1000000 → (∀ d ∈ l, EqD n d) → EqD (n + 1) (.tup l)
  | lst {n l} : l.length ≤ 1000000 → (∀ d ∈ l, EqD n d) → EqD (n + 1) (.lst l)
theorem s_rg1 {ms : DM (List Dt)} {r : Ev} {A A' : Ar} {l : Nat} (h : ms r A = .ok [.int (l : Nat)] A') (hl : l ≤ 1000000) : mRg1 ms r A = .ok (.pl (rgL 0 l)) A' := by
  unfold mRg1
  rw [h, bind_ok]
  have : -(2 ^ 62 : Int) ≤ (l : Nat) ∧ ((l : Nat) : Int) < 2 ^ 62 := by omega
  simp only [this, and_self, if_true, Int.toNat_natCast]
theorem all_true {A : Ar} (n : Nat) : dAll [.lst (List.replicate n (.bl true))] A = .ok (.bl true) A := by
  have e1 : (List.replicate n (Dt.bl true)).all isBl = true := by
    rw [List.all_eq_true]; intro d hd; rw [(List.mem_replicate.mp hd).2]; rfl
  have e2 : (List.replicate n (Dt.bl true)).all blOf = true := by
    rw [List.all_eq_true]; intro d hd; rw [(List.mem_replicate.mp hd).2]; rfl
  unfold dAll
  simp only [e1, e2, if_true]
/-- the comprehension of the equality: the items, pairwise -/
theorem eq_items {F : Fn} {a b : Dt} {l : List Dt} {A : Ar} (hl : l.length ≤ 1000000) (ha : dLen [b] A = .ok (.int (l.length : Nat)) A) (hi : ∀ i (h : i < l.length), dIdx a (.int (i : Nat)) A = .ok l[i] A ∧ dIdx b (.int (i : Nat)) A = .ok l[i] A) (hF : ∀ d ∈ l, F [d, d] A = .ok (.val (.bl true)) A) :
    mLc (mRg1 (mCons (mCall dLen (mCons (mPeek 1) mNil)) mNil)) (gtN 2) mYes (mVal (mFn 2 F (mCons (mBin dIdx (mPeek 0) (mVar 2)) (mCons (mBin dIdx (mPeek 1) (mVar 2)) mNil)))) [2] [some (.val a), some (.val b), none] A = .ok (.lst (List.replicate l.length (.bl true))) A := by
  have e := lc_pure (m := mRg1 (mCons (mCall dLen (mCons (mPeek 1) mNil)) mNil)) (t := gtN 2) (b := mYes) (e := mVal (mFn 2 F (mCons (mBin dIdx (mPeek 0) (mVar 2)) (mCons (mBin dIdx (mPeek 1) (mVar 2)) mNil)))) (vs := [2]) (r := [some (.val a), some (.val b), none]) (A := A) (A' := A) (fun _ => .bl true)
    (s_rg1 (l := l.length) (by simp [ha]) hl) ⟨by simp [Src.pl, rgL_length, hl], by simp [Src.pl], by simp⟩ trivial (fun d hd => ?_)
  · rw [e]
    congr 2
    rw [List.eq_replicate_iff]
    refine ⟨by simp [Src.pl, rgL_length], fun b hb => ?_⟩
    obtain ⟨_, _, h⟩ := List.mem_map.mp hb
    exact h.symm
  · simp only [Src.pl, rgL, List.mem_map, List.mem_range] at hd
    obtain ⟨i, hi2, rfl⟩ := hd
    refine ⟨[some (.val a), some (.val b), some (.val (.int (0 + (i : Nat))))], by simp [gtN, wipR], rfl, ?_⟩
    obtain ⟨e1, e2⟩ := hi i hi2
    simp [e1, e2, hF _ (List.getElem_mem hi2)]
theorem atI_nat {l : List Dt} {i : Nat} (h : i < l.length) : atI l (i : Nat) = some l[i] := by
  rw [atI_pos (by omega) (by omega)]
  simp [h]
theorem dLen_obj {A : Ar} {j : Nat} {l : List Dt} (hA : A[j]? = some (.box l)) : dLen [.obj j] A = .ok (.int (l.length : Nat)) A := by
  show (match A[j]? with
    | some (.box l) => Rs.ok (Dt.int (l.length : Nat)) A
    | _ => .bad) = _
  rw [hA]
theorem dIsi_obj {A : Ar} {j : Nat} {l : List Dt} (T : String) (hA : A[j]? = some (.box l)) : dIsi T (.obj j) A = match kitB "list" T with | some b => .ok (.bl b) A | none => .bad := by
  show (match (match A[j]? with
    | some (.box _) => some "list"
    | _ => none) with
    | some S => (match kitB S T with
      | some b => Rs.ok (Dt.bl b) A
      | none => Rs.bad)
    | none => Rs.bad) = _
  rw [hA]
/-- the last lines: both of a kind, as long -/
theorem eq_tail {F : Fn} {a b : Dt} {l : List Dt} {A : Ar} (hl : l.length ≤ 1000000) (ha : dLen [a] A = .ok (.int (l.length : Nat)) A) (hb : dLen [b] A = .ok (.int (l.length : Nat)) A) (hi : ∀ i (h : i < l.length), dIdx a (.int (i : Nat)) A = .ok l[i] A ∧ dIdx b (.int (i : Nat)) A = .ok l[i] A) (hF : ∀ d ∈ l, F [d, d] A = .ok (.val (.bl true)) A)
    (hn : isNon b = false) (h1 : dIsi "bool" b A = .ok (.bl false) A) (h2 : dIsi "int" b A = .ok (.bl false) A) (h3 : dIsi "str" b A = .ok (.bl false) A)
    (k1 k2 : Bool) (h4 : dIsi "tuple" b A = .ok (.bl k1) A) (h5 : dIsi "tuple" a A = .ok (.bl k1) A) (h6 : dIsi "list" b A = .ok (.bl k2) A) (h7 : dIsi "list" a A = .ok (.bl k2) A) : fnD 3 (Bequal F) [a, b] A = .ok (.val (.bl true)) A := by
  have e := eq_items (F := F) (a := a) (b := b) (l := l) (A := A) hl hb hi hF
  have e2 := all_true (A := A) l.length
  revert e
  rw [s_fn]
  unfold Bequal
  generalize mLc (mRg1 (mCons (mCall dLen (mCons (mPeek 1) mNil)) mNil)) (gtN 2) mYes (mVal (mFn 2 F (mCons (mBin dIdx (mPeek 0) (mVar 2)) (mCons (mBin dIdx (mPeek 1) (mVar 2)) mNil)))) [2] = M
  intro e
  cases k1 <;> cases k2 <;> simp [e, e2, ha, hb, hn, h1, h2, h3, h4, h5, h6, h7]
/-- a thing equals itself -/
theorem eq_refl {A : Ar} (n : Nat) : ∀ (d : Dt), EqD n d → Fequal n [d, d] A = .ok (.val (.bl true)) A := by
  induction n with
  | zero => intro d h; cases h
  | succ n ih =>
    intro d h
    show fnD 3 (Bequal (Fequal n)) [d, d] A = _
    cases h with
    | non => rw [s_fn]; unfold Bequal; simp
    | bl => rw [s_fn]; unfold Bequal; simp
    | int => rw [s_fn]; unfold Bequal; simp [s_fn, Bisint]
    | str => rw [s_fn]; unfold Bequal; simp
    | @tup _ l hl hd => exact eq_tail (l := l) hl rfl rfl (fun i hi => by simp [atI_nat hi]) (fun d' hd' => ih d' (hd d' hd')) rfl (by simp) (by simp) (by simp) true false (by simp) (by simp) (by simp) (by simp)
    | @lst _ l hl hd => exact eq_tail (l := l) hl rfl rfl (fun i hi => by simp [atI_nat hi]) (fun d' hd' => ih d' (hd d' hd')) rfl (by simp) (by simp) (by simp) false true (by simp) (by simp) (by simp) (by simp)
/-- a shared list equals its items -/
theorem eq_box {A : Ar} {n j : Nat} {l : List Dt} (hA : A[j]? = some (.box l)) (hl : l.length ≤ 1000000) (hd : ∀ d ∈ l, EqD n d) : Fequal (n + 1) [.obj j, .lst l] A = .ok (.val (.bl true)) A :=
  eq_tail (l := l) hl (dLen_obj hA) rfl (fun i hi => by simp [atI_nat hi, hA]) (fun d' hd' => eq_refl n d' (hd d' hd')) rfl (by simp) (by simp) (by simp) false true (by simp) (by rw [dIsi_obj _ hA]; simp) (by simp) (by rw [dIsi_obj _ hA]; simp)
end Pp

set_option Elab.async false
set_option linter.all false
set_option maxRecDepth 100000
set_option maxHeartbeats 4000000
/-! printed by gen.py: the law's defs, what they do (F_..), that they do it (can_..) -/
namespace K72
open PySem PySem.Spec PyProof.Rows L2 Pp
def top (i : Nat) : Stmt := PySem.Challenge.pw_surepast_k72_tokens_of_texts.main.body.getD i (.Pass ⟨0, 0, 0, 0⟩)
abbrev s_check_text : Stmt := top 9
abbrev s_digits_at : Stmt := top 10
abbrev s_token_at : Stmt := top 11
abbrev s_scan : Stmt := top 12
abbrev s_l_stream : Stmt := top 14
abbrev s_l_next : Stmt := top 15
abbrev s_l_is_integer : Stmt := top 16
abbrev s_l_equal : Stmt := top 17
abbrev s_l_pick : Stmt := top 18
abbrev s_l_laid : Stmt := top 19
abbrev s_l_told : Stmt := top 20
abbrev s_law : Stmt := top 21
abbrev s_BadValue : Stmt := inClass (top 2) 0
abbrev s_TextError : Stmt := inClass (top 3) 0
def fns : List He.DefD := [⟨("check_text", none), "check_text", "check_text", defArgs s_check_text, defBody s_check_text, defScope s_check_text, [], []⟩,
  ⟨("digits_at", none), "digits_at", "digits_at", defArgs s_digits_at, defBody s_digits_at, defScope s_digits_at, [], []⟩,
  ⟨("token_at", none), "token_at", "token_at", defArgs s_token_at, defBody s_token_at, defScope s_token_at, [], []⟩,
  ⟨("scan", none), "scan", "scan", defArgs s_scan, defBody s_scan, defScope s_scan, [], []⟩,
  ⟨("_law_stream", none), "_law_stream", "_law_stream", defArgs s_l_stream, defBody s_l_stream, defScope s_l_stream, [], []⟩,
  ⟨("_law_next", none), "_law_next", "_law_next", defArgs s_l_next, defBody s_l_next, defScope s_l_next, [], []⟩,
  ⟨("_law_is_integer", none), "_law_is_integer", "_law_is_integer", defArgs s_l_is_integer, defBody s_l_is_integer, defScope s_l_is_integer, [], []⟩,
  ⟨("_law_equal", none), "_law_equal", "_law_equal", defArgs s_l_equal, defBody s_l_equal, defScope s_l_equal, [], []⟩,
  ⟨("_law_pick", none), "_law_pick", "_law_pick", defArgs s_l_pick, defBody s_l_pick, defScope s_l_pick, [], []⟩,
  ⟨("_law_laid", none), "_law_laid", "_law_laid", defArgs s_l_laid, defBody s_l_laid, defScope s_l_laid, [], []⟩,
  ⟨("_law_told", none), "_law_told", "_law_told", defArgs s_l_told, defBody s_l_told, defScope s_l_told, [], []⟩,
  ⟨("law", none), "law", "law", defArgs s_law, defBody s_law, defScope s_law, [], []⟩,
  ⟨("BadValue", some "__init__"), "__init__", "BadValue.__init__", defArgs s_BadValue, defBody s_BadValue, defScope s_BadValue, [], []⟩,
  ⟨("TextError", some "__init__"), "__init__", "TextError.__init__", defArgs s_TextError, defBody s_TextError, defScope s_TextError, [], []⟩]
def fas : List He.Fa := [.free "isinstance", .free "str", .free "len", .free "list", .free "abs", .free "int", .free "bool", .free "tuple", .free "all", .free "range", .free "enumerate", .free "max", .glo "check_text", .glo "digits_at", .glo "token_at", .glo "scan", .glo "_law_stream", .glo "_law_next", .glo "_law_is_integer", .glo "_law_equal", .glo "_law_pick", .glo "_law_laid", .glo "_law_told", .glo "law", .glo "BadValue", .glo "TextError", .glo "PastError", .int "LONGEST_TEXT" 400, .str "DIGITS" "0123456789", .str "SIGNS" "|,", .int "MOST_DIGITS" 6]
def more (K : PySem.W.Frag) : Bool := decide (PySem.W.exmOne K (.ref (He.ga K "TextError")) (.ref (He.ga K "TextError")) = some true) && decide (PySem.W.exmOne K (.ref (He.ga K "BadValue")) (.ref (He.ga K "TextError")) = some false) && decide (PySem.W.exmOne K (.ref (He.ga K "BadValue")) (.ref (He.ga K "BadValue")) = some true) && xfB K (He.ga K "TextError") && xfB K (He.ga K "BadValue") && isxB K (He.ga K "TextError") && decide (PySem.W.kitOne K (.ref (He.ga K "TextError")) (.ref (He.ga K "PastError")) = some true)
def exf (K : PySem.W.Frag) : Bool := errB K "BadValue" ["name"] && errB K "TextError" ["column", "words"] && more K && true
section
noncomputable def B_check_text (G : Gx) : DS := (sIf (mOrB (mNotB (mTru (mUn (dIsi "str") (mPeek 0)))) (mOrB (mCmp dGt (mCall dLen (mCons (mPeek 0) mNil)) (mC (.int 400))) (mCmp dInS (mC (.str "\n")) (mVar 0)))) (sRaise "BadValue" ["name"] (mCons (mC (.str "text")) mNil)) sSkip)
noncomputable def F_check_text (G : Gx) : Fn := fnD 1 (B_check_text G)
noncomputable def B_digits_at (G : Gx) : DS := (sSeq (sSet 2 (mSl (mVar 1))) (sSeq (sWhile (mAndB (mCmp dLt (mVar 2) (mCall dLen (mCons (mPeek 0) mNil))) (mCmp dInS (mBin dIdx (mPeek 0) (mVar 2)) (mC (.str "0123456789")))) (sSet 2 (mSl (mBin dAdd (mVar 2) (mC (.int 1)))))) (sRet (mCut (mPeek 0) (mSome (mVar 1)) (mSome (mVar 2))))))
noncomputable def F_digits_at (G : Gx) : Fn := fnD 3 (B_digits_at G)
noncomputable def B_token_at (G : Gx) : DS := (sSeq (sIf (mCmp dInS (mBin dIdx (mPeek 0) (mVar 1)) (mC (.str "|,"))) (sRet (mSl (mTup (mCons (mC (.str "sign")) (mCons (mBin dIdx (mPeek 0) (mVar 1)) (mCons (mBin dAdd (mVar 1) (mC (.int 1))) mNil)))))) sSkip) (sSeq (sSet 2 (mFn 2 (F_digits_at G) (mCons (mVar 0) (mCons (mVar 1) mNil)))) (sSeq (sIf (mCmp dEq (mVar 2) (mC (.str ""))) (sRaise "TextError" ["column", "words"] (mCons (mBin dAdd (mVar 1) (mC (.int 1))) (mCons (mC (.str "no token begins here")) mNil))) sSkip) (sSeq (sIf (mCmp dGt (mCall dLen (mCons (mPeek 2) mNil)) (mC (.int 6))) (sRaise "TextError" ["column", "words"] (mCons (mBin dAdd (mVar 1) (mC (.int 1))) (mCons (mC (.str "a number has at most 6 digits")) mNil))) sSkip) (sRet (mSl (mTup (mCons (mC (.str "number")) (mCons (mVar 2) (mCons (mBin dAdd (mVar 1) (mC (.int 1))) mNil))))))))))
noncomputable def F_token_at (G : Gx) : Fn := fnD 3 (B_token_at G)
noncomputable def B_scan (G : Gx) : DS := (sSeq (sDrop (mFn 1 (F_check_text G) (mCons (mVar 0) mNil))) (sSeq (sSet 1 (mLst mNil)) (sSeq (sSet 2 (mSl (mC (.int 0)))) (sSeq (sWhile (mCmp dLt (mVar 2) (mCall dLen (mCons (mPeek 0) mNil))) (sIf (mCmp dEq (mBin dIdx (mPeek 0) (mVar 2)) (mC (.str " "))) (sSet 2 (mSl (mBin dAdd (mVar 2) (mC (.int 1))))) (sSeq (sMut (mRfN 1) (mCons (mVal (mFn 2 (F_token_at G) (mCons (mVar 0) (mCons (mVar 2) mNil)))) mNil) fApp) (sSet 2 (mSl (mBin dAdd (mVar 2) (mCall dLen (mCons (mBin dIdx (mBin dIdx (mPeek 1) (mUn dNeg (mC (.int 1)))) (mC (.int 1))) mNil)))))))) (sSeq (sMut (mRfN 1) (mCons (mTup (mCons (mC (.str "end")) (mCons (mC (.str "")) (mCons (mBin dAdd (mCall dLen (mCons (mPeek 0) mNil)) (mC (.int 1))) mNil)))) mNil) fApp) (sRetV 1))))))
noncomputable def F_scan (G : Gx) : Fn := fnD 3 (B_scan G)
noncomputable def B_l_stream (G : Gx) : DS := (sRet (mLst (mCons (mVal (mCall dList (mCons (mPeek 0) mNil))) (mCons (mC (.int 0)) (mCons (mC (.int 0)) mNil)))))
noncomputable def F_l_stream (G : Gx) : Fn := fnD 1 (B_l_stream G)
noncomputable def B_l_next (G : Gx) : DS := (sSeq (sIf (mCmp dEq (mBin dIdx (mPeek 0) (mC (.int 1))) (mC (.int 0))) (sSeq (sSet 2 (mSl (mBin dIdx (mPeek 0) (mC (.int 2))))) (sSeq (sSet 3 (mSl (mBin dAdd (mC (.int 7)) (mVar 2)))) (sSeq (sIf (mCmp dLt (mVar 2) (mCall dLen (mCons (mBin dIdx (mPeek 0) (mC (.int 0))) mNil))) (sSet 3 (mSl (mCall dAbs (mCons (mBin dIdx (mBin dIdx (mPeek 0) (mC (.int 0))) (mVar 2)) mNil)))) sSkip) (sSeq (sIf (mCmp dLt (mVar 3) (mBin dPow (mC (.int 10)) (mC (.int 18)))) (sSeq (sSet 3 (mSl (mBin dMod (mCall dInt (mCons (mBin dAdd (mBin dAdd (mBin dMul (mVar 3) (mC (.int 48271))) (mBin dMul (mVar 2) (mC (.int 69621)))) (mC (.int 11))) mNil)) (mC (.int 2147483647))))) (sSet 3 (mSl (mBin dAdd (mBin dMul (mBin dMod (mCall dInt (mCons (mBin dAdd (mBin dMul (mVar 3) (mC (.int 16807))) (mC (.int 13))) mNil)) (mC (.int 2147483647))) (mC (.int 65537))) (mVar 3))))) sSkip) (sSeq (sPut (mVar 3) (mRfN 0) (mC (.int 1))) (sPut (mBin dAdd (mVar 2) (mC (.int 1))) (mRfN 0) (mC (.int 2)))))))) sSkip) (sSeq (sSet 4 (mSl (mBin dMod (mCall dInt (mCons (mBin dIdx (mPeek 0) (mC (.int 1))) mNil)) (mVar 1)))) (sSeq (sPut (mBin dFdiv (mBin dIdx (mPeek 0) (mC (.int 1))) (mVar 1)) (mRfN 0) (mC (.int 1))) (sRetV 4))))
noncomputable def F_l_next (G : Gx) : Fn := fnD 5 (B_l_next G)
noncomputable def B_l_is_integer (G : Gx) : DS := (sRet (mSl (mAndV (mUn (dIsi "int") (mPeek 0)) (mNotV (mUn (dIsi "bool") (mPeek 0))))))
noncomputable def F_l_is_integer (G : Gx) : Fn := fnD 1 (B_l_is_integer G)
noncomputable def B_l_equal (G : Gx) (n : Fn) : DS := (sSeq (sIf (mIsN (mVar 1)) (sRet (mSl (mOfB (mIsN (mVar 0))))) sSkip) (sSeq (sIf (mTru (mUn (dIsi "bool") (mPeek 1))) (sRet (mSl (mAndV (mUn (dIsi "bool") (mPeek 0)) (mOfB (mCmp dEq (mVar 0) (mVar 1)))))) sSkip) (sSeq (sIf (mTru (mUn (dIsi "int") (mPeek 1))) (sRet (mSl (mAndV (mVal (mFn 1 (F_l_is_integer G) (mCons (mVar 0) mNil))) (mOfB (mCmp dEq (mVar 0) (mVar 1)))))) sSkip) (sSeq (sIf (mTru (mUn (dIsi "str") (mPeek 1))) (sRet (mSl (mAndV (mUn (dIsi "str") (mPeek 0)) (mOfB (mCmp dEq (mVar 0) (mVar 1)))))) sSkip) (sSeq (sIf (mAndB (mTru (mUn (dIsi "tuple") (mPeek 1))) (mNotB (mTru (mUn (dIsi "tuple") (mPeek 0))))) (sRet (mSl (mC (.bl false)))) sSkip) (sSeq (sIf (mAndB (mTru (mUn (dIsi "list") (mPeek 1))) (mNotB (mTru (mUn (dIsi "list") (mPeek 0))))) (sRet (mSl (mC (.bl false)))) sSkip) (sSeq (sIf (mCmp dNe (mCall dLen (mCons (mPeek 0) mNil)) (mCall dLen (mCons (mPeek 1) mNil))) (sRet (mSl (mC (.bl false)))) sSkip) (sRet (mSl (mCall dAll (mCons (mVal (mLc (mRg1 (mCons (mCall dLen (mCons (mPeek 1) mNil)) mNil)) (gtN 2) mYes (mVal (mFn 2 n (mCons (mBin dIdx (mPeek 0) (mVar 2)) (mCons (mBin dIdx (mPeek 1) (mVar 2)) mNil)))) [2])) mNil)))))))))))
noncomputable def F_l_equal (G : Gx) : Nat → Fn
  | 0 => fun _ _ => .bad
  | n + 1 => fnD 3 (B_l_equal G (F_l_equal G n))
noncomputable def B_l_pick (G : Gx) : DS := (sRet (mSl (mBin dIdx (mPeek 1) (mVal (mFn 2 (F_l_next G) (mCons (mVar 0) (mCons (mCall dLen (mCons (mPeek 1) mNil)) mNil)))))))
noncomputable def F_l_pick (G : Gx) : Fn := fnD 2 (B_l_pick G)
noncomputable def B_l_laid (G : Gx) : DS := (sSeq (sSet 2 (mSl (mC (.str "")))) (sSeq (sSet 3 (mLst mNil)) (sSeq (sFor (mEn (mSrcN 1)) (gtT 2 (gtCons (gtN 4) (gtCons (gtN 5) gtNil))) (sSeq (sSet 6 (mSl (mCall dInt (mCons (mAndV (mOfB (mCmp dGt (mVar 4) (mC (.int 0)))) (mAndV (mOfB (mCmp dInS (mVal (mCut (mBin dIdx (mPeek 1) (mBin dSub (mVar 4) (mC (.int 1)))) (mSome (mUn dNeg (mC (.int 1)))) mNone)) (mC (.str "0123456789")))) (mOfB (mCmp dInS (mVal (mCut (mPeek 5) mNone (mSome (mC (.int 1))))) (mC (.str "0123456789")))))) mNil)))) (sSeq (sSet 2 (mSl (mBin dAdd (mVar 2) (mBin dIdx (mVal (mLst (mCons (mC (.str "")) (mCons (mC (.str " ")) (mCons (mC (.str "  ")) (mCons (mC (.str "   ")) mNil)))))) (mCall dMax2 (mCons (mPeek 6) (mCons (mVal (mFn 2 (F_l_next G) (mCons (mVar 0) (mCons (mC (.int 4)) mNil)))) mNil))))))) (sSeq (sMut (mRfN 3) (mCons (mBin dAdd (mCall dLen (mCons (mPeek 2) mNil)) (mC (.int 1))) mNil) fApp) (sSet 2 (mSl (mBin dAdd (mVar 2) (mVar 5)))))))) (sSeq (sSet 2 (mSl (mBin dAdd (mVar 2) (mBin dIdx (mVal (mLst (mCons (mC (.str "")) (mCons (mC (.str " ")) (mCons (mC (.str "  ")) mNil))))) (mVal (mFn 2 (F_l_next G) (mCons (mVar 0) (mCons (mC (.int 3)) mNil)))))))) (sRet (mSl (mTup (mCons (mVar 2) (mCons (mVal (mBinF dCat (mPeek 3) (mVal (mLst (mCons (mBin dAdd (mCall dLen (mCons (mPeek 2) mNil)) (mC (.int 1))) mNil))))) mNil)))))))))
noncomputable def F_l_laid (G : Gx) : Fn := fnD 7 (B_l_laid G)
noncomputable def B_l_told (G : Gx) : DS := (sTry G (sRet (mFn 1 (F_scan G) (mCons (mVar 0) mNil))) (⟨(.ref (He.ga G.K "TextError")), some 1, fun ex => (sRet (mSl (mIf (mIsX G ex (.ref (He.ga G.K "PastError"))) (mTup (mCons (mXf G ex "column") (mCons (mXf G ex "words") mNil))) (mC .non))))⟩ :: (⟨(.ref (He.ga G.K "BadValue")), some 1, fun ex => (sRet (mSl (mXf G ex "name")))⟩ :: [])))
noncomputable def F_l_told (G : Gx) : Fn := fnD 2 (B_l_told G)
noncomputable def B_law (G : Gx) : DS := (sSeq (sSet 1 (mFn 1 (F_l_stream G) (mCons (mVar 0) mNil))) (sSeq (sBox 1) (sSeq (sSet 2 (mLc (mRg1 (mCons (mVal (mFn 2 (F_l_next G) (mCons (mVar 1) (mCons (mC (.int 21)) mNil)))) mNil)) (gtN 13) mYes (mVal (mFn 2 (F_l_pick G) (mCons (mVar 1) (mCons (mVal (mLst (mCons (mC (.str "0")) (mCons (mC (.str "3")) (mCons (mC (.str "12")) (mCons (mC (.str "999999")) (mCons (mC (.str "000345")) (mCons (mC (.str "678")) (mCons (mC (.str "|")) (mCons (mC (.str ",")) (mCons (mC (.str "|")) (mCons (mC (.str ",")) mNil)))))))))))) mNil)))) [13])) (sSeq (sSet 3 (mSl (mC .non))) (sSeq (sIf (mCmp dEq (mVal (mFn 2 (F_l_next G) (mCons (mVar 1) (mCons (mC (.int 2)) mNil)))) (mC (.int 1))) (sSeq (sSet 4 (mLc (mSrc (mVal (mLst (mCons (mC (.str "A")) (mCons (mC (.str "a")) (mCons (mC (.str "_")) (mCons (mC (.str "+")) (mCons (mC (.str "\t")) (mCons (mC (.str ":")) (mCons (mC (.str ".")) (mCons (mC (.str "(")) (mCons (mC (.str "#")) (mCons (mC (.str "-")) (mCons (mC (.str ";")) (mCons (mC (.str "=")) (mCons (mC (.str "/")) mNil)))))))))))))))) (gtN 14) mYes (mTup (mCons (mVar 14) (mCons (mC (.str "no token begins here")) mNil))) [14])) (sSeq (sSet 4 (mBinF dCat (mPeek 4) (mVal (mLc (mSrc (mVal (mLst (mCons (mC (.str "1000000")) (mCons (mC (.str "0000001")) (mCons (mC (.str "123456789")) mNil)))))) (gtN 16) mYes (mTup (mCons (mVar 16) (mCons (mC (.str "a number has at most 6 digits")) mNil))) [16])))) (sSeq (sKeep 4) (sSeq (sSet 5 (mFn 2 (F_l_next G) (mCons (mVar 1) (mCons (mBin dAdd (mCall dLen (mCons (mPeek 2) mNil)) (mC (.int 1))) mNil)))) (sSeq (sTgt (mVal (mFn 2 (F_l_pick G) (mCons (mVar 1) (mCons (mVar 4) mNil)))) (gtT 2 (gtCons (gtN 6) (gtCons (gtN 3) gtNil)))) (sSeq (sSet 2 (mBinF dCat (mVal (mBinF dCat (mVal (mCut (mPeek 2) mNone (mSome (mVar 5)))) (mVal (mLst (mCons (mVar 6) mNil))))) (mVal (mCut (mPeek 2) (mSome (mVar 5)) mNone)))) (sIf (mCmp dEq (mVal (mFn 2 (F_l_next G) (mCons (mVar 1) (mCons (mC (.int 2)) mNil)))) (mC (.int 1))) (sMut (mRfN 2) (mCons (mBin dIdx (mVal (mFn 2 (F_l_pick G) (mCons (mVar 1) (mCons (mVar 4) mNil)))) (mC (.int 0))) mNil) fApp) sSkip))))))) sSkip) (sSeq (sKeep 2) (sSeq (sTgt (mVal (mFn 2 (F_l_laid G) (mCons (mVar 1) (mCons (mVar 2) mNil)))) (gtT 2 (gtCons (gtN 7) (gtCons (gtN 8) gtNil)))) (sSeq (sIf (mNotN (mVar 3)) (sRet (mFn 2 (F_l_equal G 4) (mCons (mVal (mFn 1 (F_l_told G) (mCons (mVar 7) mNil))) (mCons (mTup (mCons (mBin dIdx (mPeek 8) (mVar 5)) (mCons (mVar 3) mNil))) mNil)))) sSkip) (sSeq (sSet 9 (mBinF dCat (mVal (mLc (mEn (mSrcN 2)) (gtT 2 (gtCons (gtN 15) (gtCons (gtN 6) gtNil))) mYes (mTup (mCons (mIf (mCmp dInS (mVar 6) (mC (.str "|,"))) (mC (.str "sign")) (mC (.str "number"))) (mCons (mVar 6) (mCons (mBin dIdx (mPeek 8) (mVar 15)) mNil)))) [15, 6])) (mVal (mLst (mCons (mTup (mCons (mC (.str "end")) (mCons (mC (.str "")) (mCons (mBin dIdx (mPeek 8) (mUn dNeg (mC (.int 1)))) mNil)))) mNil))))) (sSeq (sKeep 9) (sSeq (sSet 10 (mFn 1 (F_l_told G) (mCons (mVar 7) mNil))) (sSeq (sBox 10) (sSeq (sIf (mNotB (mTru (mVal (mFn 2 (F_l_equal G 4) (mCons (mVar 10) (mCons (mVar 9) mNil)))))) (sRet (mSl (mC (.bl false)))) sSkip) (sSeq (sMut (mRfN 10) (mCons (mC .non) mNil) fApp) (sSeq (sSet 11 (mSl (mBin dMulC (mC (.str " ")) (mBin dSub (mC (.int 400)) (mCall dLen (mCons (mPeek 7) mNil)))))) (sSeq (sSet 12 (mFn 2 (F_l_pick G) (mCons (mVar 1) (mCons (mVal (mLst (mCons (mC .non) (mCons (mVal (mLst (mCons (mVar 7) mNil))) (mCons (mBin dAdd (mVar 7) (mC (.str "\n"))) (mCons (mC (.str "\n")) (mCons (mBin dAdd (mBin dAdd (mVar 11) (mVar 7)) (mC (.str " "))) (mCons (mC (.int 7)) mNil)))))))) mNil)))) (sRet (mSl (mAndV (mVal (mFn 2 (F_l_equal G 4) (mCons (mVal (mFn 1 (F_l_told G) (mCons (mVar 7) mNil))) (mCons (mVar 9) mNil)))) (mAndV (mOfB (mCmp dEq (mVal (mFn 1 (F_l_told G) (mCons (mVar 12) mNil))) (mC (.str "text")))) (mUn (dIsi "list") (mVal (mFn 1 (F_l_told G) (mCons (mBin dAdd (mVar 11) (mVar 7)) mNil))))))))))))))))))))))))
noncomputable def F_law (G : Gx) : Fn := fnD 17 (B_law G)
end
section
variable {P : Program} {w : World} {K : PySem.W.Frag} {mg : Str → Option Value} {base : Heap}
theorem sc_BadValue : FnScope ["self", "name"] ["self", "name"] (defScope s_BadValue) := C8.fnScope_by (by decide +kernel)
theorem err_BadValue (F : Fx fns fas exf K mg) : errB K "BadValue" ["name"] = true := by
  have h := F.ex
  simp only [exf, Bool.and_eq_true] at h
  exact h.1.1.1
theorem can_BadValue (F : Fx fns fas exf K mg) (k : Nat) : CanE1 P w K mg base (k + 1) "BadValue" "name" := by
  obtain ⟨fd, U⟩ := F.def_ 12 rfl
  obtain ⟨e1, e2, e3, e4⟩ := errB_ok (err_BadValue F)
  refine ⟨_, _, _, _, F.glo_ 24, e1, e2, e3, U.bindsN fun _ _ _ _ _ _ us hl => match us, hl with | [_, _], _ => rfl, init1_okD U sc_BadValue e1 (e4 _ (by simp)) rfl rfl fun cdv A outer s H E => ?_⟩
  exact (pss_one (ps_ost (pe_var rfl (.inl rfl)) (pe_var rfl (.inl rfl))))
theorem sc_TextError : FnScope ["self", "column", "words"] ["self", "column", "words"] (defScope s_TextError) := C8.fnScope_by (by decide +kernel)
theorem err_TextError (F : Fx fns fas exf K mg) : errB K "TextError" ["column", "words"] = true := by
  have h := F.ex
  simp only [exf, Bool.and_eq_true] at h
  exact h.1.1.2
theorem can_TextError (F : Fx fns fas exf K mg) (k : Nat) : CanE2 P w K mg base (k + 1) "TextError" "column" "words" := by
  obtain ⟨fd, U⟩ := F.def_ 13 rfl
  obtain ⟨e1, e2, e3, e4⟩ := errB_ok (err_TextError F)
  refine ⟨_, _, _, _, F.glo_ 25, e1, e2, e3, U.bindsN fun _ _ _ _ _ _ us hl => match us, hl with | [_, _, _], _ => rfl, init2_okD U sc_TextError e1 (e4 _ (by simp)) (e4 _ (by simp)) rfl rfl fun cdv A outer s H E => ?_⟩
  exact (pss_cons (ps_ost (pe_var rfl (.inl rfl)) (pe_var rfl (.inl rfl))) (pss_one (ps_ost (pe_var rfl (.inl rfl)) (pe_var rfl (.inl rfl)))))
theorem more_ok (F : Fx fns fas exf K mg) : more K = true := by
  have h := F.ex
  simp only [exf, Bool.and_eq_true] at h
  exact h.1.2
theorem sc_check_text : FnScope ["text"] ["text"] (defScope s_check_text) := C8.fnScope_by (by decide +kernel)
theorem ok_check_text (F : Fx fns fas exf K mg) (k : Nat) (cdv : Value) (A : Around) (outer : List Env) (s : Shared) (H : Hp) (E : XK) (hr : Room (k + 2) (A.deeper (envOfC "check_text" (defScope s_check_text) s.heap.objs.size (He.fAd K ("check_text", none)) cdv))) :
    PSL (cxOf (L2.CX P w) P w K mg base ["text"] "check_text" (defScope s_check_text) (He.fAd K ("check_text", none)) cdv A outer s H E) (fun cls d _ H => E cls d H) (defBody s_check_text) (B_check_text (Gx.mk P w K mg)) := by
  have nd := sc_check_text.nd
  refine psl_one ?x1
  case x1 =>
    refine ps_ifD ?x2 ?x3 ?x4
    case x2 =>
      refine pb_w ?x5
      case x5 =>
        refine pbw_or ?x6 ?x7
        case x6 =>
          refine pb_not ?x8
          case x8 =>
            refine pb_tru ?x9
            case x9 =>
              refine pk_of ?x10
              case x10 =>
                refine pd_isi (T := "str") ?x11 (hm := (F.free_ 0)) (hmT := F.free_ 1)
                case x11 =>
                  exact pk_slot (i := 0)
        case x7 =>
          refine pbw_or ?x12 ?x13
          case x12 =>
            refine pb_gt (hu := hr.units) ?x14 ?x15
            case x14 =>
              refine pd_len ?x16 (hm := (F.free_ 2))
              case x16 =>
                exact pk_slot (i := 0)
            case x15 =>
              exact pd_glob (v := .int 400) rfl (F.int_ 27) (fun _ _ => .int)
          case x13 =>
            refine pbw_or1 ?x17
            case x17 =>
              refine pb_inS ?x18 ?x19
              case x18 =>
                exact pd_str
              case x19 =>
                exact pd_var (i := 0)
    case x3 =>
      refine psl_one ?x20
      case x20 =>
        refine ps_raise1C (can_BadValue F (k + 0)) rfl takes_cx hr ?x21
        case x21 =>
          refine pl_cons ?x22 ?x23
          case x22 =>
            exact pd_str
          case x23 =>
            exact pl_nil
    case x4 =>
      exact psl_nil
theorem can_check_text (F : Fx fns fas exf K mg) (k : Nat) : Can P w K mg base (k + 2 + 1) "check_text" 1 (F_check_text (Gx.mk P w K mg)) := by
  obtain ⟨fd, U⟩ := F.def_ 0 rfl
  have U : FunD K "check_text" "check_text" (defArgs s_check_text) (defBody s_check_text) (defScope s_check_text) [] [] (He.fAd K ("check_text", none)) fd := U
  exact ⟨_, fd, ["text"], fn_okD (k := k + 2) U sc_check_text (fun cdv A outer s H E hr => ok_check_text F k cdv A outer s H E hr), F.glo_ 12, U.kp, (U.bindsN fun _ _ _ _ _ _ us hl => match us, hl with | [_], _ => rfl)⟩
theorem sc_digits_at : FnScope ["text", "at", "end"] ["text", "at"] (defScope s_digits_at) := C8.fnScope_by (by decide +kernel)
theorem ok_digits_at (F : Fx fns fas exf K mg) (k : Nat) (cdv : Value) (A : Around) (outer : List Env) (s : Shared) (H : Hp) (E : XK) (hr : Room (k + 0) (A.deeper (envOfC "digits_at" (defScope s_digits_at) s.heap.objs.size (He.fAd K ("digits_at", none)) cdv))) :
    PSL (cxOf (L2.CX P w) P w K mg base ["text", "at", "end"] "digits_at" (defScope s_digits_at) (He.fAd K ("digits_at", none)) cdv A outer s H E) (fun cls d _ H => E cls d H) (defBody s_digits_at) (B_digits_at (Gx.mk P w K mg)) := by
  have nd := sc_digits_at.nd
  refine psl_cons ?x24 ?x25
  case x24 =>
    refine ps_setD (i := 2) nd ?x26
    case x26 =>
      refine pf_of ?x27
      case x27 =>
        exact pd_var (i := 1)
  case x25 =>
    refine psl_cons ?x28 ?x29
    case x28 =>
      refine ps_whileD passes_cx ?x30 ?x31
      case x30 =>
        refine pb_w ?x32
        case x32 =>
          refine pbw_and ?x33 ?x34
          case x33 =>
            refine pb_lt (hu := hr.units) ?x35 ?x36
            case x35 =>
              exact pd_var (i := 2)
            case x36 =>
              refine pd_len ?x37 (hm := (F.free_ 2))
              case x37 =>
                exact pk_slot (i := 0)
          case x34 =>
            refine pbw_and1 ?x38
            case x38 =>
              refine pb_inS ?x39 ?x40
              case x39 =>
                refine pd_idx ?x41 ?x42
                case x41 =>
                  exact pk_slot (i := 0)
                case x42 =>
                  exact pd_var (i := 2)
              case x40 =>
                exact pd_glob (v := .str "0123456789") rfl (F.str_ 28) (fun _ _ => .str)
      case x31 =>
        refine psl_one ?x43
        case x43 =>
          refine ps_setD (i := 2) nd ?x44
          case x44 =>
            refine pf_of ?x45
            case x45 =>
              refine pd_add ?x46 ?x47
              case x46 =>
                exact pd_var (i := 2)
              case x47 =>
                exact pd_int
    case x29 =>
      refine psl_one ?x48
      case x48 =>
        refine ps_retD ?x49
        case x49 =>
          refine pf_cut ?x50 ?x51 ?x52
          case x50 =>
            exact pk_slot (i := 0)
          case x51 =>
            refine pq_some ?x53
            case x53 =>
              exact pd_var (i := 1)
          case x52 =>
            refine pq_some ?x54
            case x54 =>
              exact pd_var (i := 2)
theorem can_digits_at (F : Fx fns fas exf K mg) (k : Nat) : Can P w K mg base (k + 0 + 1) "digits_at" 2 (F_digits_at (Gx.mk P w K mg)) := by
  obtain ⟨fd, U⟩ := F.def_ 1 rfl
  have U : FunD K "digits_at" "digits_at" (defArgs s_digits_at) (defBody s_digits_at) (defScope s_digits_at) [] [] (He.fAd K ("digits_at", none)) fd := U
  exact ⟨_, fd, ["text", "at"], fn_okD (k := k + 0) U sc_digits_at (fun cdv A outer s H E hr => ok_digits_at F k cdv A outer s H E hr), F.glo_ 13, U.kp, (U.bindsN fun _ _ _ _ _ _ us hl => match us, hl with | [_, _], _ => rfl)⟩
theorem sc_token_at : FnScope ["text", "at", "number"] ["text", "at"] (defScope s_token_at) := C8.fnScope_by (by decide +kernel)
theorem ok_token_at (F : Fx fns fas exf K mg) (k : Nat) (cdv : Value) (A : Around) (outer : List Env) (s : Shared) (H : Hp) (E : XK) (hr : Room (k + 2) (A.deeper (envOfC "token_at" (defScope s_token_at) s.heap.objs.size (He.fAd K ("token_at", none)) cdv))) :
    PSL (cxOf (L2.CX P w) P w K mg base ["text", "at", "number"] "token_at" (defScope s_token_at) (He.fAd K ("token_at", none)) cdv A outer s H E) (fun cls d _ H => E cls d H) (defBody s_token_at) (B_token_at (Gx.mk P w K mg)) := by
  have nd := sc_token_at.nd
  refine psl_cons ?x55 ?x56
  case x55 =>
    refine ps_ifD ?x57 ?x58 ?x59
    case x57 =>
      refine pb_inS ?x60 ?x61
      case x60 =>
        refine pd_idx ?x62 ?x63
        case x62 =>
          exact pk_slot (i := 0)
        case x63 =>
          exact pd_var (i := 1)
      case x61 =>
        exact pd_glob (v := .str "|,") rfl (F.str_ 29) (fun _ _ => .str)
    case x58 =>
      refine psl_one ?x64
      case x64 =>
        refine ps_retD ?x65
        case x65 =>
          refine pf_of ?x66
          case x66 =>
            refine pd_tup ?x67
            case x67 =>
              refine pl_cons ?x68 ?x69
              case x68 =>
                exact pd_str
              case x69 =>
                refine pl_cons ?x70 ?x71
                case x70 =>
                  refine pd_idx ?x72 ?x73
                  case x72 =>
                    exact pk_slot (i := 0)
                  case x73 =>
                    exact pd_var (i := 1)
                case x71 =>
                  refine pl_cons ?x74 ?x75
                  case x74 =>
                    refine pd_add ?x76 ?x77
                    case x76 =>
                      exact pd_var (i := 1)
                    case x77 =>
                      exact pd_int
                  case x75 =>
                    exact pl_nil
    case x59 =>
      exact psl_nil
  case x56 =>
    refine psl_cons ?x78 ?x79
    case x78 =>
      refine ps_setD (i := 2) nd ?x80
      case x80 =>
        refine pf_callC (can_digits_at F (k + 1)) hr takes_cx ?x81
        case x81 =>
          refine pl_cons ?x82 ?x83
          case x82 =>
            exact pd_var (i := 0)
          case x83 =>
            refine pl_cons ?x84 ?x85
            case x84 =>
              exact pd_var (i := 1)
            case x85 =>
              exact pl_nil
    case x79 =>
      refine psl_cons ?x86 ?x87
      case x86 =>
        refine ps_ifD ?x88 ?x89 ?x90
        case x88 =>
          refine pb_eq (hu := hr.units) ?x91 ?x92
          case x91 =>
            exact pd_var (i := 2)
          case x92 =>
            exact pd_str
        case x89 =>
          refine psl_one ?x93
          case x93 =>
            refine ps_raise2C (can_TextError F (k + 0)) rfl rfl takes_cx hr ?x94
            case x94 =>
              refine pl_cons ?x95 ?x96
              case x95 =>
                refine pd_add ?x97 ?x98
                case x97 =>
                  exact pd_var (i := 1)
                case x98 =>
                  exact pd_int
              case x96 =>
                refine pl_cons ?x99 ?x100
                case x99 =>
                  exact pd_str
                case x100 =>
                  exact pl_nil
        case x90 =>
          exact psl_nil
      case x87 =>
        refine psl_cons ?x101 ?x102
        case x101 =>
          refine ps_ifD ?x103 ?x104 ?x105
          case x103 =>
            refine pb_gt (hu := hr.units) ?x106 ?x107
            case x106 =>
              refine pd_len ?x108 (hm := (F.free_ 2))
              case x108 =>
                exact pk_slot (i := 2)
            case x107 =>
              exact pd_glob (v := .int 6) rfl (F.int_ 30) (fun _ _ => .int)
          case x104 =>
            refine psl_one ?x109
            case x109 =>
              refine ps_raise2C (can_TextError F (k + 0)) rfl rfl takes_cx hr ?x110
              case x110 =>
                refine pl_cons ?x111 ?x112
                case x111 =>
                  refine pd_add ?x113 ?x114
                  case x113 =>
                    exact pd_var (i := 1)
                  case x114 =>
                    exact pd_int
                case x112 =>
                  refine pl_cons ?x115 ?x116
                  case x115 =>
                    exact pd_str
                  case x116 =>
                    exact pl_nil
          case x105 =>
            exact psl_nil
        case x102 =>
          refine psl_one ?x117
          case x117 =>
            refine ps_retD ?x118
            case x118 =>
              refine pf_of ?x119
              case x119 =>
                refine pd_tup ?x120
                case x120 =>
                  refine pl_cons ?x121 ?x122
                  case x121 =>
                    exact pd_str
                  case x122 =>
                    refine pl_cons ?x123 ?x124
                    case x123 =>
                      exact pd_var (i := 2)
                    case x124 =>
                      refine pl_cons ?x125 ?x126
                      case x125 =>
                        refine pd_add ?x127 ?x128
                        case x127 =>
                          exact pd_var (i := 1)
                        case x128 =>
                          exact pd_int
                      case x126 =>
                        exact pl_nil
theorem can_token_at (F : Fx fns fas exf K mg) (k : Nat) : Can P w K mg base (k + 2 + 1) "token_at" 2 (F_token_at (Gx.mk P w K mg)) := by
  obtain ⟨fd, U⟩ := F.def_ 2 rfl
  have U : FunD K "token_at" "token_at" (defArgs s_token_at) (defBody s_token_at) (defScope s_token_at) [] [] (He.fAd K ("token_at", none)) fd := U
  exact ⟨_, fd, ["text", "at"], fn_okD (k := k + 2) U sc_token_at (fun cdv A outer s H E hr => ok_token_at F k cdv A outer s H E hr), F.glo_ 14, U.kp, (U.bindsN fun _ _ _ _ _ _ us hl => match us, hl with | [_, _], _ => rfl)⟩
theorem sc_scan : FnScope ["text", "tokens", "at"] ["text"] (defScope s_scan) := C8.fnScope_by (by decide +kernel)
theorem ok_scan (F : Fx fns fas exf K mg) (k : Nat) (cdv : Value) (A : Around) (outer : List Env) (s : Shared) (H : Hp) (E : XK) (hr : Room (k + 3) (A.deeper (envOfC "scan" (defScope s_scan) s.heap.objs.size (He.fAd K ("scan", none)) cdv))) :
    PSL (cxOf (L2.CX P w) P w K mg base ["text", "tokens", "at"] "scan" (defScope s_scan) (He.fAd K ("scan", none)) cdv A outer s H E) (fun cls d _ H => E cls d H) (defBody s_scan) (B_scan (Gx.mk P w K mg)) := by
  have nd := sc_scan.nd
  refine psl_cons ?x129 ?x130
  case x129 =>
    refine ps_exprD ?x131
    case x131 =>
      refine pf_callC (can_check_text F (k + 0)) hr takes_cx ?x132
      case x132 =>
        refine pl_cons ?x133 ?x134
        case x133 =>
          exact pd_var (i := 0)
        case x134 =>
          exact pl_nil
  case x130 =>
    refine psl_cons ?x135 ?x136
    case x135 =>
      refine ps_setD (i := 1) nd ?x137
      case x137 =>
        refine pf_lst ?x138
        case x138 =>
          exact pl_nil
    case x136 =>
      refine psl_cons ?x139 ?x140
      case x139 =>
        refine ps_setD (i := 2) nd ?x141
        case x141 =>
          refine pf_of ?x142
          case x142 =>
            exact pd_int
      case x140 =>
        refine psl_cons ?x143 ?x144
        case x143 =>
          refine ps_whileD passes_cx ?x145 ?x146
          case x145 =>
            refine pb_lt (hu := hr.units) ?x147 ?x148
            case x147 =>
              exact pd_var (i := 2)
            case x148 =>
              refine pd_len ?x149 (hm := (F.free_ 2))
              case x149 =>
                exact pk_slot (i := 0)
          case x146 =>
            refine psl_one ?x150
            case x150 =>
              refine ps_ifD ?x151 ?x152 ?x153
              case x151 =>
                refine pb_eq (hu := hr.units) ?x154 ?x155
                case x154 =>
                  refine pd_idx ?x156 ?x157
                  case x156 =>
                    exact pk_slot (i := 0)
                  case x157 =>
                    exact pd_var (i := 2)
                case x155 =>
                  exact pd_str
              case x152 =>
                refine psl_one ?x158
                case x158 =>
                  refine ps_setD (i := 2) nd ?x159
                  case x159 =>
                    refine pf_of ?x160
                    case x160 =>
                      refine pd_add ?x161 ?x162
                      case x161 =>
                        exact pd_var (i := 2)
                      case x162 =>
                        exact pd_int
              case x153 =>
                refine psl_cons ?x163 ?x164
                case x163 =>
                  refine ps_app ?x165 ?x166
                  case x165 =>
                    exact pr_name (i := 1)
                  case x166 =>
                    refine pl_cons ?x167 ?x168
                    case x167 =>
                      refine pd_of ?x169
                      case x169 =>
                        refine pf_callC (can_token_at F (k + 0)) hr takes_cx ?x170
                        case x170 =>
                          refine pl_cons ?x171 ?x172
                          case x171 =>
                            exact pd_var (i := 0)
                          case x172 =>
                            refine pl_cons ?x173 ?x174
                            case x173 =>
                              exact pd_var (i := 2)
                            case x174 =>
                              exact pl_nil
                    case x168 =>
                      exact pl_nil
                case x164 =>
                  refine psl_one ?x175
                  case x175 =>
                    refine ps_setD (i := 2) nd ?x176
                    case x176 =>
                      refine pf_of ?x177
                      case x177 =>
                        refine pd_add ?x178 ?x179
                        case x178 =>
                          exact pd_var (i := 2)
                        case x179 =>
                          refine pd_len ?x180 (hm := (F.free_ 2))
                          case x180 =>
                            refine pk_of ?x181
                            case x181 =>
                              refine pd_idx ?x182 ?x183
                              case x182 =>
                                refine pk_of ?x184
                                case x184 =>
                                  refine pd_idx ?x185 ?x186
                                  case x185 =>
                                    exact pk_slot (i := 1)
                                  case x186 =>
                                    refine pd_neg ?x187
                                    case x187 =>
                                      exact pd_int
                              case x183 =>
                                exact pd_int
        case x144 =>
          refine psl_cons ?x188 ?x189
          case x188 =>
            refine ps_app ?x190 ?x191
            case x190 =>
              exact pr_name (i := 1)
            case x191 =>
              refine pl_cons ?x192 ?x193
              case x192 =>
                refine pd_tup ?x194
                case x194 =>
                  refine pl_cons ?x195 ?x196
                  case x195 =>
                    exact pd_str
                  case x196 =>
                    refine pl_cons ?x197 ?x198
                    case x197 =>
                      exact pd_str
                    case x198 =>
                      refine pl_cons ?x199 ?x200
                      case x199 =>
                        refine pd_add ?x201 ?x202
                        case x201 =>
                          refine pd_len ?x203 (hm := (F.free_ 2))
                          case x203 =>
                            exact pk_slot (i := 0)
                        case x202 =>
                          exact pd_int
                      case x200 =>
                        exact pl_nil
              case x193 =>
                exact pl_nil
          case x189 =>
            refine psl_one ?x204
            case x204 =>
              exact ps_retV (i := 1)
theorem can_scan (F : Fx fns fas exf K mg) (k : Nat) : Can P w K mg base (k + 3 + 1) "scan" 1 (F_scan (Gx.mk P w K mg)) := by
  obtain ⟨fd, U⟩ := F.def_ 3 rfl
  have U : FunD K "scan" "scan" (defArgs s_scan) (defBody s_scan) (defScope s_scan) [] [] (He.fAd K ("scan", none)) fd := U
  exact ⟨_, fd, ["text"], fn_okD (k := k + 3) U sc_scan (fun cdv A outer s H E hr => ok_scan F k cdv A outer s H E hr), F.glo_ 15, U.kp, (U.bindsN fun _ _ _ _ _ _ us hl => match us, hl with | [_], _ => rfl)⟩
theorem sc_l_stream : FnScope ["_law_script"] ["_law_script"] (defScope s_l_stream) := C8.fnScope_by (by decide +kernel)
theorem ok_l_stream (F : Fx fns fas exf K mg) (k : Nat) (cdv : Value) (A : Around) (outer : List Env) (s : Shared) (H : Hp) (E : XK) (hr : Room (k + 0) (A.deeper (envOfC "_law_stream" (defScope s_l_stream) s.heap.objs.size (He.fAd K ("_law_stream", none)) cdv))) :
    PSL (cxOf (L2.CX P w) P w K mg base ["_law_script"] "_law_stream" (defScope s_l_stream) (He.fAd K ("_law_stream", none)) cdv A outer s H E) (fun cls d _ H => E cls d H) (defBody s_l_stream) (B_l_stream (Gx.mk P w K mg)) := by
  have nd := sc_l_stream.nd
  refine psl_one ?x205
  case x205 =>
    refine ps_retD ?x206
    case x206 =>
      refine pf_lst ?x207
      case x207 =>
        refine pl_cons ?x208 ?x209
        case x208 =>
          refine pd_of ?x210
          case x210 =>
            refine pf_list ?x211 (hm := F.free_ 3)
            case x211 =>
              exact pk_slot (i := 0)
        case x209 =>
          refine pl_cons ?x212 ?x213
          case x212 =>
            exact pd_int
          case x213 =>
            refine pl_cons ?x214 ?x215
            case x214 =>
              exact pd_int
            case x215 =>
              exact pl_nil
theorem can_l_stream (F : Fx fns fas exf K mg) (k : Nat) : Can P w K mg base (k + 0 + 1) "_law_stream" 1 (F_l_stream (Gx.mk P w K mg)) := by
  obtain ⟨fd, U⟩ := F.def_ 4 rfl
  have U : FunD K "_law_stream" "_law_stream" (defArgs s_l_stream) (defBody s_l_stream) (defScope s_l_stream) [] [] (He.fAd K ("_law_stream", none)) fd := U
  exact ⟨_, fd, ["_law_script"], fn_okD (k := k + 0) U sc_l_stream (fun cdv A outer s H E hr => ok_l_stream F k cdv A outer s H E hr), F.glo_ 16, U.kp, (U.bindsN fun _ _ _ _ _ _ us hl => match us, hl with | [_], _ => rfl)⟩
theorem sc_l_next : FnScope ["_law_stream_here", "_law_many", "_law_k", "_law_cell", "_law_digit"] ["_law_stream_here", "_law_many"] (defScope s_l_next) := C8.fnScope_by (by decide +kernel)
theorem ok_l_next (F : Fx fns fas exf K mg) (k : Nat) (cdv : Value) (A : Around) (outer : List Env) (s : Shared) (H : Hp) (E : XK) (hr : Room (k + 0) (A.deeper (envOfC "_law_next" (defScope s_l_next) s.heap.objs.size (He.fAd K ("_law_next", none)) cdv))) :
    PSL (cxOf (L2.CX P w) P w K mg base ["_law_stream_here", "_law_many", "_law_k", "_law_cell", "_law_digit"] "_law_next" (defScope s_l_next) (He.fAd K ("_law_next", none)) cdv A outer s H E) (fun cls d _ H => E cls d H) (defBody s_l_next) (B_l_next (Gx.mk P w K mg)) := by
  have nd := sc_l_next.nd
  refine psl_cons ?x216 ?x217
  case x216 =>
    refine ps_ifD ?x218 ?x219 ?x220
    case x218 =>
      refine pb_eq (hu := hr.units) ?x221 ?x222
      case x221 =>
        refine pd_idx ?x223 ?x224
        case x223 =>
          exact pk_slot (i := 0)
        case x224 =>
          exact pd_int
      case x222 =>
        exact pd_int
    case x219 =>
      refine psl_cons ?x225 ?x226
      case x225 =>
        refine ps_setD (i := 2) nd ?x227
        case x227 =>
          refine pf_of ?x228
          case x228 =>
            refine pd_idx ?x229 ?x230
            case x229 =>
              exact pk_slot (i := 0)
            case x230 =>
              exact pd_int
      case x226 =>
        refine psl_cons ?x231 ?x232
        case x231 =>
          refine ps_setD (i := 3) nd ?x233
          case x233 =>
            refine pf_of ?x234
            case x234 =>
              refine pd_add ?x235 ?x236
              case x235 =>
                exact pd_int
              case x236 =>
                exact pd_var (i := 2)
        case x232 =>
          refine psl_cons ?x237 ?x238
          case x237 =>
            refine ps_ifD ?x239 ?x240 ?x241
            case x239 =>
              refine pb_lt (hu := hr.units) ?x242 ?x243
              case x242 =>
                exact pd_var (i := 2)
              case x243 =>
                refine pd_len ?x244 (hm := (F.free_ 2))
                case x244 =>
                  refine pk_of ?x245
                  case x245 =>
                    refine pd_idx ?x246 ?x247
                    case x246 =>
                      exact pk_slot (i := 0)
                    case x247 =>
                      exact pd_int
            case x240 =>
              refine psl_one ?x248
              case x248 =>
                refine ps_setD (i := 3) nd ?x249
                case x249 =>
                  refine pf_of ?x250
                  case x250 =>
                    refine pd_abs ?x251 (hm := (F.free_ 4))
                    case x251 =>
                      refine pk_of ?x252
                      case x252 =>
                        refine pd_idx ?x253 ?x254
                        case x253 =>
                          refine pk_of ?x255
                          case x255 =>
                            refine pd_idx ?x256 ?x257
                            case x256 =>
                              exact pk_slot (i := 0)
                            case x257 =>
                              exact pd_int
                        case x254 =>
                          exact pd_var (i := 2)
            case x241 =>
              exact psl_nil
          case x238 =>
            refine psl_cons ?x258 ?x259
            case x258 =>
              refine ps_ifD ?x260 ?x261 ?x262
              case x260 =>
                refine pb_lt (hu := hr.units) ?x263 ?x264
                case x263 =>
                  exact pd_var (i := 3)
                case x264 =>
                  refine pd_pow ?x265 ?x266
                  case x265 =>
                    exact pd_int
                  case x266 =>
                    exact pd_int
              case x261 =>
                refine psl_cons ?x267 ?x268
                case x267 =>
                  refine ps_setD (i := 3) nd ?x269
                  case x269 =>
                    refine pf_of ?x270
                    case x270 =>
                      refine pd_mod ?x271 ?x272
                      case x271 =>
                        refine pd_intc ?x273 (hm := (F.free_ 5))
                        case x273 =>
                          refine pk_of ?x274
                          case x274 =>
                            refine pd_add ?x275 ?x276
                            case x275 =>
                              refine pd_add ?x277 ?x278
                              case x277 =>
                                refine pd_mul ?x279 ?x280
                                case x279 =>
                                  exact pd_var (i := 3)
                                case x280 =>
                                  exact pd_int
                              case x278 =>
                                refine pd_mul ?x281 ?x282
                                case x281 =>
                                  exact pd_var (i := 2)
                                case x282 =>
                                  exact pd_int
                            case x276 =>
                              exact pd_int
                      case x272 =>
                        exact pd_int
                case x268 =>
                  refine psl_one ?x283
                  case x283 =>
                    refine ps_setD (i := 3) nd ?x284
                    case x284 =>
                      refine pf_of ?x285
                      case x285 =>
                        refine pd_add ?x286 ?x287
                        case x286 =>
                          refine pd_mul ?x288 ?x289
                          case x288 =>
                            refine pd_mod ?x290 ?x291
                            case x290 =>
                              refine pd_intc ?x292 (hm := (F.free_ 5))
                              case x292 =>
                                refine pk_of ?x293
                                case x293 =>
                                  refine pd_add ?x294 ?x295
                                  case x294 =>
                                    refine pd_mul ?x296 ?x297
                                    case x296 =>
                                      exact pd_var (i := 3)
                                    case x297 =>
                                      exact pd_int
                                  case x295 =>
                                    exact pd_int
                            case x291 =>
                              exact pd_int
                          case x289 =>
                            exact pd_int
                        case x287 =>
                          exact pd_var (i := 3)
              case x262 =>
                exact psl_nil
            case x259 =>
              refine psl_cons ?x298 ?x299
              case x298 =>
                refine ps_put ?x300 ?x301 ?x302
                case x300 =>
                  exact pd_var (i := 3)
                case x301 =>
                  exact pr_name (i := 0)
                case x302 =>
                  exact pd_int
              case x299 =>
                refine psl_one ?x303
                case x303 =>
                  refine ps_put ?x304 ?x305 ?x306
                  case x304 =>
                    refine pd_add ?x307 ?x308
                    case x307 =>
                      exact pd_var (i := 2)
                    case x308 =>
                      exact pd_int
                  case x305 =>
                    exact pr_name (i := 0)
                  case x306 =>
                    exact pd_int
    case x220 =>
      exact psl_nil
  case x217 =>
    refine psl_cons ?x309 ?x310
    case x309 =>
      refine ps_setD (i := 4) nd ?x311
      case x311 =>
        refine pf_of ?x312
        case x312 =>
          refine pd_mod ?x313 ?x314
          case x313 =>
            refine pd_intc ?x315 (hm := (F.free_ 5))
            case x315 =>
              refine pk_of ?x316
              case x316 =>
                refine pd_idx ?x317 ?x318
                case x317 =>
                  exact pk_slot (i := 0)
                case x318 =>
                  exact pd_int
          case x314 =>
            exact pd_var (i := 1)
    case x310 =>
      refine psl_cons ?x319 ?x320
      case x319 =>
        refine ps_put ?x321 ?x322 ?x323
        case x321 =>
          refine pd_fdiv ?x324 ?x325
          case x324 =>
            refine pd_idx ?x326 ?x327
            case x326 =>
              exact pk_slot (i := 0)
            case x327 =>
              exact pd_int
          case x325 =>
            exact pd_var (i := 1)
        case x322 =>
          exact pr_name (i := 0)
        case x323 =>
          exact pd_int
      case x320 =>
        refine psl_one ?x328
        case x328 =>
          exact ps_retV (i := 4)
theorem can_l_next (F : Fx fns fas exf K mg) (k : Nat) : Can P w K mg base (k + 0 + 1) "_law_next" 2 (F_l_next (Gx.mk P w K mg)) := by
  obtain ⟨fd, U⟩ := F.def_ 5 rfl
  have U : FunD K "_law_next" "_law_next" (defArgs s_l_next) (defBody s_l_next) (defScope s_l_next) [] [] (He.fAd K ("_law_next", none)) fd := U
  exact ⟨_, fd, ["_law_stream_here", "_law_many"], fn_okD (k := k + 0) U sc_l_next (fun cdv A outer s H E hr => ok_l_next F k cdv A outer s H E hr), F.glo_ 17, U.kp, (U.bindsN fun _ _ _ _ _ _ us hl => match us, hl with | [_, _], _ => rfl)⟩
theorem sc_l_is_integer : FnScope ["_law_actual"] ["_law_actual"] (defScope s_l_is_integer) := C8.fnScope_by (by decide +kernel)
theorem ok_l_is_integer (F : Fx fns fas exf K mg) (k : Nat) (cdv : Value) (A : Around) (outer : List Env) (s : Shared) (H : Hp) (E : XK) (hr : Room (k + 0) (A.deeper (envOfC "_law_is_integer" (defScope s_l_is_integer) s.heap.objs.size (He.fAd K ("_law_is_integer", none)) cdv))) :
    PSL (cxOf (L2.CX P w) P w K mg base ["_law_actual"] "_law_is_integer" (defScope s_l_is_integer) (He.fAd K ("_law_is_integer", none)) cdv A outer s H E) (fun cls d _ H => E cls d H) (defBody s_l_is_integer) (B_l_is_integer (Gx.mk P w K mg)) := by
  have nd := sc_l_is_integer.nd
  refine psl_one ?x329
  case x329 =>
    refine ps_retD ?x330
    case x330 =>
      refine pf_of ?x331
      case x331 =>
        refine pd_and ?x332 ?x333
        case x332 =>
          refine pd_isi (T := "int") ?x334 (hm := (F.free_ 0)) (hmT := F.free_ 5)
          case x334 =>
            exact pk_slot (i := 0)
        case x333 =>
          refine pd_one ?x335
          case x335 =>
            refine pd_not ?x336
            case x336 =>
              refine pd_isi (T := "bool") ?x337 (hm := (F.free_ 0)) (hmT := F.free_ 6)
              case x337 =>
                exact pk_slot (i := 0)
theorem can_l_is_integer (F : Fx fns fas exf K mg) (k : Nat) : Can P w K mg base (k + 0 + 1) "_law_is_integer" 1 (F_l_is_integer (Gx.mk P w K mg)) := by
  obtain ⟨fd, U⟩ := F.def_ 6 rfl
  have U : FunD K "_law_is_integer" "_law_is_integer" (defArgs s_l_is_integer) (defBody s_l_is_integer) (defScope s_l_is_integer) [] [] (He.fAd K ("_law_is_integer", none)) fd := U
  exact ⟨_, fd, ["_law_actual"], fn_okD (k := k + 0) U sc_l_is_integer (fun cdv A outer s H E hr => ok_l_is_integer F k cdv A outer s H E hr), F.glo_ 18, U.kp, (U.bindsN fun _ _ _ _ _ _ us hl => match us, hl with | [_], _ => rfl)⟩
theorem sc_l_equal : FnScope ["_law_actual", "_law_due", "_law_at"] ["_law_actual", "_law_due"] (defScope s_l_equal) := C8.fnScope_by (by decide +kernel)
theorem ok_l_equal (F : Fx fns fas exf K mg) (k : Nat) (n : Nat) (ih : Can P w K mg base (k + n + 2) "_law_equal" 2 (F_l_equal (Gx.mk P w K mg) n)) (cdv : Value) (A : Around) (outer : List Env) (s : Shared) (H : Hp) (E : XK) (hr : Room (k + n + 2) (A.deeper (envOfC "_law_equal" (defScope s_l_equal) s.heap.objs.size (He.fAd K ("_law_equal", none)) cdv))) :
    PSL (cxOf (L2.CX P w) P w K mg base ["_law_actual", "_law_due", "_law_at"] "_law_equal" (defScope s_l_equal) (He.fAd K ("_law_equal", none)) cdv A outer s H E) (fun cls d _ H => E cls d H) (defBody s_l_equal) (B_l_equal (Gx.mk P w K mg) (F_l_equal (Gx.mk P w K mg) n)) := by
  have nd := sc_l_equal.nd
  refine psl_cons ?x338 ?x339
  case x338 =>
    refine ps_ifD ?x340 ?x341 ?x342
    case x340 =>
      refine pb_isN ?x343
      case x343 =>
        exact pd_var (i := 1)
    case x341 =>
      refine psl_one ?x344
      case x344 =>
        refine ps_retD ?x345
        case x345 =>
          refine pf_of ?x346
          case x346 =>
            refine pd_isN ?x347
            case x347 =>
              exact pd_var (i := 0)
    case x342 =>
      exact psl_nil
  case x339 =>
    refine psl_cons ?x348 ?x349
    case x348 =>
      refine ps_ifD ?x350 ?x351 ?x352
      case x350 =>
        refine pb_tru ?x353
        case x353 =>
          refine pk_of ?x354
          case x354 =>
            refine pd_isi (T := "bool") ?x355 (hm := (F.free_ 0)) (hmT := F.free_ 6)
            case x355 =>
              exact pk_slot (i := 1)
      case x351 =>
        refine psl_one ?x356
        case x356 =>
          refine ps_retD ?x357
          case x357 =>
            refine pf_of ?x358
            case x358 =>
              refine pd_and ?x359 ?x360
              case x359 =>
                refine pd_isi (T := "bool") ?x361 (hm := (F.free_ 0)) (hmT := F.free_ 6)
                case x361 =>
                  exact pk_slot (i := 0)
              case x360 =>
                refine pd_one ?x362
                case x362 =>
                  refine pd_eq (hu := hr.units) ?x363 ?x364
                  case x363 =>
                    exact pd_var (i := 0)
                  case x364 =>
                    exact pd_var (i := 1)
      case x352 =>
        exact psl_nil
    case x349 =>
      refine psl_cons ?x365 ?x366
      case x365 =>
        refine ps_ifD ?x367 ?x368 ?x369
        case x367 =>
          refine pb_tru ?x370
          case x370 =>
            refine pk_of ?x371
            case x371 =>
              refine pd_isi (T := "int") ?x372 (hm := (F.free_ 0)) (hmT := F.free_ 5)
              case x372 =>
                exact pk_slot (i := 1)
        case x368 =>
          refine psl_one ?x373
          case x373 =>
            refine ps_retD ?x374
            case x374 =>
              refine pf_of ?x375
              case x375 =>
                refine pd_and ?x376 ?x377
                case x376 =>
                  refine pd_of ?x378
                  case x378 =>
                    refine pf_callC (can_l_is_integer F (k + n + 1)) hr takes_cx ?x379
                    case x379 =>
                      refine pl_cons ?x380 ?x381
                      case x380 =>
                        exact pd_var (i := 0)
                      case x381 =>
                        exact pl_nil
                case x377 =>
                  refine pd_one ?x382
                  case x382 =>
                    refine pd_eq (hu := hr.units) ?x383 ?x384
                    case x383 =>
                      exact pd_var (i := 0)
                    case x384 =>
                      exact pd_var (i := 1)
        case x369 =>
          exact psl_nil
      case x366 =>
        refine psl_cons ?x385 ?x386
        case x385 =>
          refine ps_ifD ?x387 ?x388 ?x389
          case x387 =>
            refine pb_tru ?x390
            case x390 =>
              refine pk_of ?x391
              case x391 =>
                refine pd_isi (T := "str") ?x392 (hm := (F.free_ 0)) (hmT := F.free_ 1)
                case x392 =>
                  exact pk_slot (i := 1)
          case x388 =>
            refine psl_one ?x393
            case x393 =>
              refine ps_retD ?x394
              case x394 =>
                refine pf_of ?x395
                case x395 =>
                  refine pd_and ?x396 ?x397
                  case x396 =>
                    refine pd_isi (T := "str") ?x398 (hm := (F.free_ 0)) (hmT := F.free_ 1)
                    case x398 =>
                      exact pk_slot (i := 0)
                  case x397 =>
                    refine pd_one ?x399
                    case x399 =>
                      refine pd_eq (hu := hr.units) ?x400 ?x401
                      case x400 =>
                        exact pd_var (i := 0)
                      case x401 =>
                        exact pd_var (i := 1)
          case x389 =>
            exact psl_nil
        case x386 =>
          refine psl_cons ?x402 ?x403
          case x402 =>
            refine ps_ifD ?x404 ?x405 ?x406
            case x404 =>
              refine pb_w ?x407
              case x407 =>
                refine pbw_and ?x408 ?x409
                case x408 =>
                  refine pb_tru ?x410
                  case x410 =>
                    refine pk_of ?x411
                    case x411 =>
                      refine pd_isi (T := "tuple") ?x412 (hm := (F.free_ 0)) (hmT := F.free_ 7)
                      case x412 =>
                        exact pk_slot (i := 1)
                case x409 =>
                  refine pbw_and1 ?x413
                  case x413 =>
                    refine pb_not ?x414
                    case x414 =>
                      refine pb_tru ?x415
                      case x415 =>
                        refine pk_of ?x416
                        case x416 =>
                          refine pd_isi (T := "tuple") ?x417 (hm := (F.free_ 0)) (hmT := F.free_ 7)
                          case x417 =>
                            exact pk_slot (i := 0)
            case x405 =>
              refine psl_one ?x418
              case x418 =>
                refine ps_retD ?x419
                case x419 =>
                  refine pf_of ?x420
                  case x420 =>
                    exact pd_bl
            case x406 =>
              exact psl_nil
          case x403 =>
            refine psl_cons ?x421 ?x422
            case x421 =>
              refine ps_ifD ?x423 ?x424 ?x425
              case x423 =>
                refine pb_w ?x426
                case x426 =>
                  refine pbw_and ?x427 ?x428
                  case x427 =>
                    refine pb_tru ?x429
                    case x429 =>
                      refine pk_of ?x430
                      case x430 =>
                        refine pd_isi (T := "list") ?x431 (hm := (F.free_ 0)) (hmT := F.free_ 3)
                        case x431 =>
                          exact pk_slot (i := 1)
                  case x428 =>
                    refine pbw_and1 ?x432
                    case x432 =>
                      refine pb_not ?x433
                      case x433 =>
                        refine pb_tru ?x434
                        case x434 =>
                          refine pk_of ?x435
                          case x435 =>
                            refine pd_isi (T := "list") ?x436 (hm := (F.free_ 0)) (hmT := F.free_ 3)
                            case x436 =>
                              exact pk_slot (i := 0)
              case x424 =>
                refine psl_one ?x437
                case x437 =>
                  refine ps_retD ?x438
                  case x438 =>
                    refine pf_of ?x439
                    case x439 =>
                      exact pd_bl
              case x425 =>
                exact psl_nil
            case x422 =>
              refine psl_cons ?x440 ?x441
              case x440 =>
                refine ps_ifD ?x442 ?x443 ?x444
                case x442 =>
                  refine pb_ne (hu := hr.units) ?x445 ?x446
                  case x445 =>
                    refine pd_len ?x447 (hm := (F.free_ 2))
                    case x447 =>
                      exact pk_slot (i := 0)
                  case x446 =>
                    refine pd_len ?x448 (hm := (F.free_ 2))
                    case x448 =>
                      exact pk_slot (i := 1)
                case x443 =>
                  refine psl_one ?x449
                  case x449 =>
                    refine ps_retD ?x450
                    case x450 =>
                      refine pf_of ?x451
                      case x451 =>
                        exact pd_bl
                case x444 =>
                  exact psl_nil
              case x441 =>
                refine psl_one ?x452
                case x452 =>
                  refine ps_retD ?x453
                  case x453 =>
                    refine pf_of ?x454
                    case x454 =>
                      refine pd_all rfl ?x455 (hm := (F.free_ 8))
                      case x455 =>
                        refine pk_of ?x456
                        case x456 =>
                          refine pd_of ?x457
                          case x457 =>
                            refine pf_lc (hc := rfl) (hN := nd) (hi := ?x458) (own := [("_law_at", 2)]) (is := [2]) (ok := blkOk_by (by kernel_rfl)) (hv := by decide) (hg := ?x459) (ht := ?x460) (he := ?x461)
                            case x458 =>
                              refine pit_range1 (hg := rfl) (hm := F.free_ 9) ?x462
                              case x462 =>
                                refine pl_cons ?x463 ?x464
                                case x463 =>
                                  refine pd_len ?x465 (hm := (F.free_ 2))
                                  case x465 =>
                                    exact pk_slot (i := 1)
                                case x464 =>
                                  exact pl_nil
                            case x459 =>
                              intro _ _ _ _ _
                              exact pgt_name (i := 2) nd
                            case x460 =>
                              intro _ _ _ _ _
                              exact pbs_nil
                            case x461 =>
                              intro _ _ _ _ _
                              refine pd_of ?x466
                              case x466 =>
                                refine pf_callC ih hr takes0 ?x467
                                case x467 =>
                                  refine pl_cons ?x468 ?x469
                                  case x468 =>
                                    refine pd_idx ?x470 ?x471
                                    case x470 =>
                                      exact pk_slot (i := 0)
                                    case x471 =>
                                      exact pd_var (i := 2)
                                  case x469 =>
                                    refine pl_cons ?x472 ?x473
                                    case x472 =>
                                      refine pd_idx ?x474 ?x475
                                      case x474 =>
                                        exact pk_slot (i := 1)
                                      case x475 =>
                                        exact pd_var (i := 2)
                                    case x473 =>
                                      exact pl_nil
theorem can_l_equal (F : Fx fns fas exf K mg) : ∀ (n k : Nat), Can P w K mg base (k + n + 2) "_law_equal" 2 (F_l_equal (Gx.mk P w K mg) n)
  | 0, k => by
    obtain ⟨fd, U⟩ := F.def_ 7 rfl
    have U : FunD K "_law_equal" "_law_equal" (defArgs s_l_equal) (defBody s_l_equal) (defScope s_l_equal) [] [] (He.fAd K ("_law_equal", none)) fd := U
    exact ⟨_, fd, ["_law_actual", "_law_due"], fn_badD U sc_l_equal, F.glo_ 19, U.kp, (U.bindsN fun _ _ _ _ _ _ us hl => match us, hl with | [_, _], _ => rfl)⟩
  | n + 1, k => by
    obtain ⟨fd, U⟩ := F.def_ 7 rfl
    have U : FunD K "_law_equal" "_law_equal" (defArgs s_l_equal) (defBody s_l_equal) (defScope s_l_equal) [] [] (He.fAd K ("_law_equal", none)) fd := U
    exact ⟨_, fd, ["_law_actual", "_law_due"], fn_okD (k := k + n + 2) U sc_l_equal (fun cdv A outer s H E hr => ok_l_equal F k n (can_l_equal F n k) cdv A outer s H E hr), F.glo_ 19, U.kp, (U.bindsN fun _ _ _ _ _ _ us hl => match us, hl with | [_, _], _ => rfl)⟩
theorem sc_l_pick : FnScope ["_law_stream_here", "_law_rows"] ["_law_stream_here", "_law_rows"] (defScope s_l_pick) := C8.fnScope_by (by decide +kernel)
theorem ok_l_pick (F : Fx fns fas exf K mg) (k : Nat) (cdv : Value) (A : Around) (outer : List Env) (s : Shared) (H : Hp) (E : XK) (hr : Room (k + 1) (A.deeper (envOfC "_law_pick" (defScope s_l_pick) s.heap.objs.size (He.fAd K ("_law_pick", none)) cdv))) :
    PSL (cxOf (L2.CX P w) P w K mg base ["_law_stream_here", "_law_rows"] "_law_pick" (defScope s_l_pick) (He.fAd K ("_law_pick", none)) cdv A outer s H E) (fun cls d _ H => E cls d H) (defBody s_l_pick) (B_l_pick (Gx.mk P w K mg)) := by
  have nd := sc_l_pick.nd
  refine psl_one ?x476
  case x476 =>
    refine ps_retD ?x477
    case x477 =>
      refine pf_of ?x478
      case x478 =>
        refine pd_idx ?x479 ?x480
        case x479 =>
          exact pk_slot (i := 1)
        case x480 =>
          refine pd_of ?x481
          case x481 =>
            refine pf_callC (can_l_next F (k + 0)) hr takes_cx ?x482
            case x482 =>
              refine pl_cons ?x483 ?x484
              case x483 =>
                exact pd_var (i := 0)
              case x484 =>
                refine pl_cons ?x485 ?x486
                case x485 =>
                  refine pd_len ?x487 (hm := (F.free_ 2))
                  case x487 =>
                    exact pk_slot (i := 1)
                case x486 =>
                  exact pl_nil
theorem can_l_pick (F : Fx fns fas exf K mg) (k : Nat) : Can P w K mg base (k + 1 + 1) "_law_pick" 2 (F_l_pick (Gx.mk P w K mg)) := by
  obtain ⟨fd, U⟩ := F.def_ 8 rfl
  have U : FunD K "_law_pick" "_law_pick" (defArgs s_l_pick) (defBody s_l_pick) (defScope s_l_pick) [] [] (He.fAd K ("_law_pick", none)) fd := U
  exact ⟨_, fd, ["_law_stream_here", "_law_rows"], fn_okD (k := k + 1) U sc_l_pick (fun cdv A outer s H E hr => ok_l_pick F k cdv A outer s H E hr), F.glo_ 20, U.kp, (U.bindsN fun _ _ _ _ _ _ us hl => match us, hl with | [_, _], _ => rfl)⟩
theorem sc_l_laid : FnScope ["_law_stream_here", "_law_words", "_law_text", "_law_places", "_law_k", "_law_word", "_law_near"] ["_law_stream_here", "_law_words"] (defScope s_l_laid) := C8.fnScope_by (by decide +kernel)
theorem ok_l_laid (F : Fx fns fas exf K mg) (k : Nat) (cdv : Value) (A : Around) (outer : List Env) (s : Shared) (H : Hp) (E : XK) (hr : Room (k + 1) (A.deeper (envOfC "_law_laid" (defScope s_l_laid) s.heap.objs.size (He.fAd K ("_law_laid", none)) cdv))) :
    PSL (cxOf (L2.CX P w) P w K mg base ["_law_stream_here", "_law_words", "_law_text", "_law_places", "_law_k", "_law_word", "_law_near"] "_law_laid" (defScope s_l_laid) (He.fAd K ("_law_laid", none)) cdv A outer s H E) (fun cls d _ H => E cls d H) (defBody s_l_laid) (B_l_laid (Gx.mk P w K mg)) := by
  have nd := sc_l_laid.nd
  refine psl_cons ?x488 ?x489
  case x488 =>
    refine ps_setD (i := 2) nd ?x490
    case x490 =>
      refine pf_of ?x491
      case x491 =>
        exact pd_str
  case x489 =>
    refine psl_cons ?x492 ?x493
    case x492 =>
      refine ps_setD (i := 3) nd ?x494
      case x494 =>
        refine pf_lst ?x495
        case x495 =>
          exact pl_nil
    case x493 =>
      refine psl_cons ?x496 ?x497
      case x496 =>
        refine ps_forD (is := ([4] ++ ([5] ++ []))) passes_cx rfl ?x498 ?x499 ?x500
        case x498 =>
          refine pit_en (hg := rfl) (hm := F.free_ 10) ?x501
          case x501 =>
            exact pq_name (i := 1)
        case x499 =>
          refine pgt_tup rfl ?x502
          case x502 =>
            refine pgts_cons ?x503 ?x504
            case x503 =>
              exact pgt_name (i := 4) nd
            case x504 =>
              refine pgts_cons ?x505 ?x506
              case x505 =>
                exact pgt_name (i := 5) nd
              case x506 =>
                exact pgts_nil
        case x500 =>
          refine psl_cons ?x507 ?x508
          case x507 =>
            refine ps_setD (i := 6) nd ?x509
            case x509 =>
              refine pf_of ?x510
              case x510 =>
                refine pd_intc ?x511 (hm := (F.free_ 5))
                case x511 =>
                  refine pk_of ?x512
                  case x512 =>
                    refine pd_and ?x513 ?x514
                    case x513 =>
                      refine pd_gt (hu := hr.units) ?x515 ?x516
                      case x515 =>
                        exact pd_var (i := 4)
                      case x516 =>
                        exact pd_int
                    case x514 =>
                      refine pd_and ?x517 ?x518
                      case x517 =>
                        refine pd_inS ?x519 ?x520
                        case x519 =>
                          refine pd_of ?x521
                          case x521 =>
                            refine pf_cut ?x522 ?x523 ?x524
                            case x522 =>
                              refine pk_of ?x525
                              case x525 =>
                                refine pd_idx ?x526 ?x527
                                case x526 =>
                                  exact pk_slot (i := 1)
                                case x527 =>
                                  refine pd_sub ?x528 ?x529
                                  case x528 =>
                                    exact pd_var (i := 4)
                                  case x529 =>
                                    exact pd_int
                            case x523 =>
                              refine pq_some ?x530
                              case x530 =>
                                refine pd_neg ?x531
                                case x531 =>
                                  exact pd_int
                            case x524 =>
                              exact pq_none
                        case x520 =>
                          exact pd_str
                      case x518 =>
                        refine pd_one ?x532
                        case x532 =>
                          refine pd_inS ?x533 ?x534
                          case x533 =>
                            refine pd_of ?x535
                            case x535 =>
                              refine pf_cut ?x536 ?x537 ?x538
                              case x536 =>
                                exact pk_slot (i := 5)
                              case x537 =>
                                exact pq_none
                              case x538 =>
                                refine pq_some ?x539
                                case x539 =>
                                  exact pd_int
                          case x534 =>
                            exact pd_str
          case x508 =>
            refine psl_cons ?x540 ?x541
            case x540 =>
              refine ps_setD (i := 2) nd ?x542
              case x542 =>
                refine pf_of ?x543
                case x543 =>
                  refine pd_add ?x544 ?x545
                  case x544 =>
                    exact pd_var (i := 2)
                  case x545 =>
                    refine pd_idx ?x546 ?x547
                    case x546 =>
                      refine pk_of ?x548
                      case x548 =>
                        refine pd_of ?x549
                        case x549 =>
                          refine pf_lst ?x550
                          case x550 =>
                            refine pl_cons ?x551 ?x552
                            case x551 =>
                              exact pd_str
                            case x552 =>
                              refine pl_cons ?x553 ?x554
                              case x553 =>
                                exact pd_str
                              case x554 =>
                                refine pl_cons ?x555 ?x556
                                case x555 =>
                                  exact pd_str
                                case x556 =>
                                  refine pl_cons ?x557 ?x558
                                  case x557 =>
                                    exact pd_str
                                  case x558 =>
                                    exact pl_nil
                    case x547 =>
                      refine pd_max2 rfl ?x559 ?x560 (hm := (F.free_ 11))
                      case x559 =>
                        exact pk_slot (i := 6)
                      case x560 =>
                        refine pk_of ?x561
                        case x561 =>
                          refine pd_of ?x562
                          case x562 =>
                            refine pf_callC (can_l_next F (k + 0)) hr takes_cx ?x563
                            case x563 =>
                              refine pl_cons ?x564 ?x565
                              case x564 =>
                                exact pd_var (i := 0)
                              case x565 =>
                                refine pl_cons ?x566 ?x567
                                case x566 =>
                                  exact pd_int
                                case x567 =>
                                  exact pl_nil
            case x541 =>
              refine psl_cons ?x568 ?x569
              case x568 =>
                refine ps_app ?x570 ?x571
                case x570 =>
                  exact pr_name (i := 3)
                case x571 =>
                  refine pl_cons ?x572 ?x573
                  case x572 =>
                    refine pd_add ?x574 ?x575
                    case x574 =>
                      refine pd_len ?x576 (hm := (F.free_ 2))
                      case x576 =>
                        exact pk_slot (i := 2)
                    case x575 =>
                      exact pd_int
                  case x573 =>
                    exact pl_nil
              case x569 =>
                refine psl_one ?x577
                case x577 =>
                  refine ps_setD (i := 2) nd ?x578
                  case x578 =>
                    refine pf_of ?x579
                    case x579 =>
                      refine pd_add ?x580 ?x581
                      case x580 =>
                        exact pd_var (i := 2)
                      case x581 =>
                        exact pd_var (i := 5)
      case x497 =>
        refine psl_cons ?x582 ?x583
        case x582 =>
          refine ps_setD (i := 2) nd ?x584
          case x584 =>
            refine pf_of ?x585
            case x585 =>
              refine pd_add ?x586 ?x587
              case x586 =>
                exact pd_var (i := 2)
              case x587 =>
                refine pd_idx ?x588 ?x589
                case x588 =>
                  refine pk_of ?x590
                  case x590 =>
                    refine pd_of ?x591
                    case x591 =>
                      refine pf_lst ?x592
                      case x592 =>
                        refine pl_cons ?x593 ?x594
                        case x593 =>
                          exact pd_str
                        case x594 =>
                          refine pl_cons ?x595 ?x596
                          case x595 =>
                            exact pd_str
                          case x596 =>
                            refine pl_cons ?x597 ?x598
                            case x597 =>
                              exact pd_str
                            case x598 =>
                              exact pl_nil
                case x589 =>
                  refine pd_of ?x599
                  case x599 =>
                    refine pf_callC (can_l_next F (k + 0)) hr takes_cx ?x600
                    case x600 =>
                      refine pl_cons ?x601 ?x602
                      case x601 =>
                        exact pd_var (i := 0)
                      case x602 =>
                        refine pl_cons ?x603 ?x604
                        case x603 =>
                          exact pd_int
                        case x604 =>
                          exact pl_nil
        case x583 =>
          refine psl_one ?x605
          case x605 =>
            refine ps_retD ?x606
            case x606 =>
              refine pf_of ?x607
              case x607 =>
                refine pd_tup ?x608
                case x608 =>
                  refine pl_cons ?x609 ?x610
                  case x609 =>
                    exact pd_var (i := 2)
                  case x610 =>
                    refine pl_cons ?x611 ?x612
                    case x611 =>
                      refine pd_of ?x613
                      case x613 =>
                        refine pf_cat ?x614 ?x615
                        case x614 =>
                          exact pk_slot (i := 3)
                        case x615 =>
                          refine pk_of ?x616
                          case x616 =>
                            refine pd_of ?x617
                            case x617 =>
                              refine pf_lst ?x618
                              case x618 =>
                                refine pl_cons ?x619 ?x620
                                case x619 =>
                                  refine pd_add ?x621 ?x622
                                  case x621 =>
                                    refine pd_len ?x623 (hm := (F.free_ 2))
                                    case x623 =>
                                      exact pk_slot (i := 2)
                                  case x622 =>
                                    exact pd_int
                                case x620 =>
                                  exact pl_nil
                    case x612 =>
                      exact pl_nil
theorem can_l_laid (F : Fx fns fas exf K mg) (k : Nat) : Can P w K mg base (k + 1 + 1) "_law_laid" 2 (F_l_laid (Gx.mk P w K mg)) := by
  obtain ⟨fd, U⟩ := F.def_ 9 rfl
  have U : FunD K "_law_laid" "_law_laid" (defArgs s_l_laid) (defBody s_l_laid) (defScope s_l_laid) [] [] (He.fAd K ("_law_laid", none)) fd := U
  exact ⟨_, fd, ["_law_stream_here", "_law_words"], fn_okD (k := k + 1) U sc_l_laid (fun cdv A outer s H E hr => ok_l_laid F k cdv A outer s H E hr), F.glo_ 21, U.kp, (U.bindsN fun _ _ _ _ _ _ us hl => match us, hl with | [_, _], _ => rfl)⟩
theorem sc_l_told : FnScope ["_law_text", "_law_problem"] ["_law_text"] (defScope s_l_told) := C8.fnScope_by (by decide +kernel)
theorem ok_l_told (F : Fx fns fas exf K mg) (k : Nat) (cdv : Value) (A : Around) (outer : List Env) (s : Shared) (H : Hp) (E : XK) (hr : Room (k + 4) (A.deeper (envOfC "_law_told" (defScope s_l_told) s.heap.objs.size (He.fAd K ("_law_told", none)) cdv))) :
    PSL (cxOf (L2.CX P w) P w K mg base ["_law_text", "_law_problem"] "_law_told" (defScope s_l_told) (He.fAd K ("_law_told", none)) cdv A outer s H E) (fun cls d _ H => E cls d H) (defBody s_l_told) (B_l_told (Gx.mk P w K mg)) := by
  have nd := sc_l_told.nd
  refine psl_one ?x624
  case x624 =>
    refine ps_tryD rfl rfl takes_cx ?x625 ?x626
    case x625 =>
      intro W pn xe htk hpo
      refine psl_one ?x627
      case x627 =>
        refine ps_retD ?x628
        case x628 =>
          refine pf_callC (can_scan F (k + 0)) hr htk ?x629
          case x629 =>
            refine pl_cons ?x630 ?x631
            case x630 =>
              exact pd_var (i := 0)
            case x631 =>
              exact pl_nil
    case x626 =>
      refine hds_named (i := 1) ⟨rfl, by decide, .inl (F.glo_ 25)⟩ nd rfl rfl ?x632 ?x633
      case x632 =>
        intro a oe cls d pn ex hz hf
        refine psx_pss ?x634
        case x634 =>
          refine psx_ret ?x635
          case x635 =>
            refine pfx_of ?x636
            case x636 =>
              refine pdx_if ?x637 ?x638 ?x639
              case x637 =>
                exact pbx_is (c0 := .ref (He.ga K "PastError")) hz hf rfl (.inl rfl) rfl (F.free_ 0) (pe_glob rfl (F.glo_ 26) rfl (by decide)) (fun _ h => h)
              case x638 =>
                refine pdx_tup ?x640
                case x640 =>
                  refine plx_cons ?x641 ?x642
                  case x641 =>
                    exact pdx_fld hz hf rfl (.inl rfl)
                  case x642 =>
                    refine plx_cons ?x643 ?x644
                    case x643 =>
                      exact pdx_fld hz hf rfl (.inl rfl)
                    case x644 =>
                      exact plx_nil
              case x639 =>
                refine pdx_of ?x645
                case x645 =>
                  exact pd_non
      case x633 =>
        refine hds_named (i := 1) ⟨rfl, by decide, .inl (F.glo_ 24)⟩ nd rfl rfl ?x646 ?x647
        case x646 =>
          intro a oe cls d pn ex hz hf
          refine psx_pss ?x648
          case x648 =>
            refine psx_ret ?x649
            case x649 =>
              refine pfx_of ?x650
              case x650 =>
                exact pdx_fld hz hf rfl (.inl rfl)
        case x647 =>
          exact hds_nil
theorem can_l_told (F : Fx fns fas exf K mg) (k : Nat) : Can P w K mg base (k + 4 + 1) "_law_told" 1 (F_l_told (Gx.mk P w K mg)) := by
  obtain ⟨fd, U⟩ := F.def_ 10 rfl
  have U : FunD K "_law_told" "_law_told" (defArgs s_l_told) (defBody s_l_told) (defScope s_l_told) [] [] (He.fAd K ("_law_told", none)) fd := U
  exact ⟨_, fd, ["_law_text"], fn_okD (k := k + 4) U sc_l_told (fun cdv A outer s H E hr => ok_l_told F k cdv A outer s H E hr), F.glo_ 22, U.kp, (U.bindsN fun _ _ _ _ _ _ us hl => match us, hl with | [_], _ => rfl)⟩
theorem sc_law : FnScope ["_law_script", "_law_stream_here", "_law_words", "_law_problem", "_law_strange", "_law_at", "_law_word", "_law_text", "_law_places", "_law_due", "_law_told_here", "_law_blank", "_law_bad", "_law_turn", "_law_sign", "_law_k", "_law_number"] ["_law_script"] (defScope s_law) := C8.fnScope_by (by decide +kernel)
theorem ok_law (F : Fx fns fas exf K mg) (k : Nat) (cdv : Value) (A : Around) (outer : List Env) (s : Shared) (H : Hp) (E : XK) (hr : Room (k + 6) (A.deeper (envOfC "law" (defScope s_law) s.heap.objs.size (He.fAd K ("law", none)) cdv))) :
    PSL (cxOf (L2.CX P w) P w K mg base ["_law_script", "_law_stream_here", "_law_words", "_law_problem", "_law_strange", "_law_at", "_law_word", "_law_text", "_law_places", "_law_due", "_law_told_here", "_law_blank", "_law_bad", "_law_turn", "_law_sign", "_law_k", "_law_number"] "law" (defScope s_law) (He.fAd K ("law", none)) cdv A outer s H E) (fun cls d _ H => E cls d H) (defBody s_law) (B_law (Gx.mk P w K mg)) := by
  have nd := sc_law.nd
  refine psl_cons ?x651 ?x652
  case x651 =>
    refine ps_setD (i := 1) nd ?x653
    case x653 =>
      refine pf_callC (can_l_stream F (k + 5)) hr takes_cx ?x654
      case x654 =>
        refine pl_cons ?x655 ?x656
        case x655 =>
          exact pd_var (i := 0)
        case x656 =>
          exact pl_nil
  case x652 =>
    refine psl_box ?x657
    case x657 =>
      refine psl_cons ?x658 ?x659
      case x658 =>
        refine ps_setLcD (i := 2) (hc := rfl) (hN := nd) (hi := ?x660) (own := [("_law_turn", 13)]) (is := [13]) (ok := blkOk_by (by kernel_rfl)) (hv := by decide) (hg := ?x661) (ht := ?x662) (he := ?x663) (hsw := sw_true rfl rfl rfl rfl)
        case x660 =>
          refine pit_range1 (hg := rfl) (hm := F.free_ 9) ?x664
          case x664 =>
            refine pl_cons ?x665 ?x666
            case x665 =>
              refine pd_of ?x667
              case x667 =>
                refine pf_callC (can_l_next F (k + 5)) hr takes_cx ?x668
                case x668 =>
                  refine pl_cons ?x669 ?x670
                  case x669 =>
                    exact pd_var (i := 1)
                  case x670 =>
                    refine pl_cons ?x671 ?x672
                    case x671 =>
                      exact pd_int
                    case x672 =>
                      exact pl_nil
            case x666 =>
              exact pl_nil
        case x661 =>
          intro _ _ _ _ _
          exact pgt_name (i := 13) nd
        case x662 =>
          intro _ _ _ _ _
          exact pbs_nil
        case x663 =>
          intro _ _ _ _ _
          refine pd_of ?x673
          case x673 =>
            refine pf_callC (can_l_pick F (k + 4)) hr takes0 ?x674
            case x674 =>
              refine pl_cons ?x675 ?x676
              case x675 =>
                exact pd_var (i := 1)
              case x676 =>
                refine pl_cons ?x677 ?x678
                case x677 =>
                  refine pd_of ?x679
                  case x679 =>
                    refine pf_lst ?x680
                    case x680 =>
                      refine pl_cons ?x681 ?x682
                      case x681 =>
                        exact pd_str
                      case x682 =>
                        refine pl_cons ?x683 ?x684
                        case x683 =>
                          exact pd_str
                        case x684 =>
                          refine pl_cons ?x685 ?x686
                          case x685 =>
                            exact pd_str
                          case x686 =>
                            refine pl_cons ?x687 ?x688
                            case x687 =>
                              exact pd_str
                            case x688 =>
                              refine pl_cons ?x689 ?x690
                              case x689 =>
                                exact pd_str
                              case x690 =>
                                refine pl_cons ?x691 ?x692
                                case x691 =>
                                  exact pd_str
                                case x692 =>
                                  refine pl_cons ?x693 ?x694
                                  case x693 =>
                                    exact pd_str
                                  case x694 =>
                                    refine pl_cons ?x695 ?x696
                                    case x695 =>
                                      exact pd_str
                                    case x696 =>
                                      refine pl_cons ?x697 ?x698
                                      case x697 =>
                                        exact pd_str
                                      case x698 =>
                                        refine pl_cons ?x699 ?x700
                                        case x699 =>
                                          exact pd_str
                                        case x700 =>
                                          exact pl_nil
                case x678 =>
                  exact pl_nil
      case x659 =>
        refine psl_cons ?x701 ?x702
        case x701 =>
          refine ps_setD (i := 3) nd ?x703
          case x703 =>
            refine pf_of ?x704
            case x704 =>
              exact pd_non
        case x702 =>
          refine psl_cons ?x705 ?x706
          case x705 =>
            refine ps_ifD ?x707 ?x708 ?x709
            case x707 =>
              refine pb_eq (hu := hr.units) ?x710 ?x711
              case x710 =>
                refine pd_of ?x712
                case x712 =>
                  refine pf_callC (can_l_next F (k + 5)) hr takes_cx ?x713
                  case x713 =>
                    refine pl_cons ?x714 ?x715
                    case x714 =>
                      exact pd_var (i := 1)
                    case x715 =>
                      refine pl_cons ?x716 ?x717
                      case x716 =>
                        exact pd_int
                      case x717 =>
                        exact pl_nil
              case x711 =>
                exact pd_int
            case x708 =>
              refine psl_cons ?x718 ?x719
              case x718 =>
                refine ps_setLcD (i := 4) (hc := rfl) (hN := nd) (hi := ?x720) (own := [("_law_sign", 14)]) (is := [14]) (ok := blkOk_by (by kernel_rfl)) (hv := by decide) (hg := ?x721) (ht := ?x722) (he := ?x723) (hsw := sw_true rfl rfl rfl rfl)
                case x720 =>
                  refine pit_seq ?x724
                  case x724 =>
                    refine pq_of ?x725
                    case x725 =>
                      refine pd_of ?x726
                      case x726 =>
                        refine pf_lst ?x727
                        case x727 =>
                          refine pl_cons ?x728 ?x729
                          case x728 =>
                            exact pd_str
                          case x729 =>
                            refine pl_cons ?x730 ?x731
                            case x730 =>
                              exact pd_str
                            case x731 =>
                              refine pl_cons ?x732 ?x733
                              case x732 =>
                                exact pd_str
                              case x733 =>
                                refine pl_cons ?x734 ?x735
                                case x734 =>
                                  exact pd_str
                                case x735 =>
                                  refine pl_cons ?x736 ?x737
                                  case x736 =>
                                    exact pd_str
                                  case x737 =>
                                    refine pl_cons ?x738 ?x739
                                    case x738 =>
                                      exact pd_str
                                    case x739 =>
                                      refine pl_cons ?x740 ?x741
                                      case x740 =>
                                        exact pd_str
                                      case x741 =>
                                        refine pl_cons ?x742 ?x743
                                        case x742 =>
                                          exact pd_str
                                        case x743 =>
                                          refine pl_cons ?x744 ?x745
                                          case x744 =>
                                            exact pd_str
                                          case x745 =>
                                            refine pl_cons ?x746 ?x747
                                            case x746 =>
                                              exact pd_str
                                            case x747 =>
                                              refine pl_cons ?x748 ?x749
                                              case x748 =>
                                                exact pd_str
                                              case x749 =>
                                                refine pl_cons ?x750 ?x751
                                                case x750 =>
                                                  exact pd_str
                                                case x751 =>
                                                  refine pl_cons ?x752 ?x753
                                                  case x752 =>
                                                    exact pd_str
                                                  case x753 =>
                                                    exact pl_nil
                case x721 =>
                  intro _ _ _ _ _
                  exact pgt_name (i := 14) nd
                case x722 =>
                  intro _ _ _ _ _
                  exact pbs_nil
                case x723 =>
                  intro _ _ _ _ _
                  refine pd_tup ?x754
                  case x754 =>
                    refine pl_cons ?x755 ?x756
                    case x755 =>
                      exact pd_var (i := 14)
                    case x756 =>
                      refine pl_cons ?x757 ?x758
                      case x757 =>
                        exact pd_str
                      case x758 =>
                        exact pl_nil
              case x719 =>
                refine psl_cons ?x759 ?x760
                case x759 =>
                  refine ps_setD (i := 4) nd ?x761
                  case x761 =>
                    refine pf_cat ?x762 ?x763
                    case x762 =>
                      exact pk_slot (i := 4)
                    case x763 =>
                      refine pk_of ?x764
                      case x764 =>
                        refine pd_of ?x765
                        case x765 =>
                          refine pf_lc (hc := rfl) (hN := nd) (hi := ?x766) (own := [("_law_number", 16)]) (is := [16]) (ok := blkOk_by (by kernel_rfl)) (hv := by decide) (hg := ?x767) (ht := ?x768) (he := ?x769)
                          case x766 =>
                            refine pit_seq ?x770
                            case x770 =>
                              refine pq_of ?x771
                              case x771 =>
                                refine pd_of ?x772
                                case x772 =>
                                  refine pf_lst ?x773
                                  case x773 =>
                                    refine pl_cons ?x774 ?x775
                                    case x774 =>
                                      exact pd_str
                                    case x775 =>
                                      refine pl_cons ?x776 ?x777
                                      case x776 =>
                                        exact pd_str
                                      case x777 =>
                                        refine pl_cons ?x778 ?x779
                                        case x778 =>
                                          exact pd_str
                                        case x779 =>
                                          exact pl_nil
                          case x767 =>
                            intro _ _ _ _ _
                            exact pgt_name (i := 16) nd
                          case x768 =>
                            intro _ _ _ _ _
                            exact pbs_nil
                          case x769 =>
                            intro _ _ _ _ _
                            refine pd_tup ?x780
                            case x780 =>
                              refine pl_cons ?x781 ?x782
                              case x781 =>
                                exact pd_var (i := 16)
                              case x782 =>
                                refine pl_cons ?x783 ?x784
                                case x783 =>
                                  exact pd_str
                                case x784 =>
                                  exact pl_nil
                case x760 =>
                  refine psl_keep ?x785
                  case x785 =>
                    refine psl_cons ?x786 ?x787
                    case x786 =>
                      refine ps_setD (i := 5) nd ?x788
                      case x788 =>
                        refine pf_callC (can_l_next F (k + 5)) hr takes_cx ?x789
                        case x789 =>
                          refine pl_cons ?x790 ?x791
                          case x790 =>
                            exact pd_var (i := 1)
                          case x791 =>
                            refine pl_cons ?x792 ?x793
                            case x792 =>
                              refine pd_add ?x794 ?x795
                              case x794 =>
                                refine pd_len ?x796 (hm := (F.free_ 2))
                                case x796 =>
                                  exact pk_slot (i := 2)
                              case x795 =>
                                exact pd_int
                            case x793 =>
                              exact pl_nil
                    case x787 =>
                      refine psl_cons ?x797 ?x798
                      case x797 =>
                        refine ps_tgtD (is := ([6] ++ ([3] ++ []))) ?x799 ?x800
                        case x799 =>
                          refine pd_of ?x801
                          case x801 =>
                            refine pf_callC (can_l_pick F (k + 4)) hr takes_cx ?x802
                            case x802 =>
                              refine pl_cons ?x803 ?x804
                              case x803 =>
                                exact pd_var (i := 1)
                              case x804 =>
                                refine pl_cons ?x805 ?x806
                                case x805 =>
                                  exact pd_var (i := 4)
                                case x806 =>
                                  exact pl_nil
                        case x800 =>
                          refine pgt_tup rfl ?x807
                          case x807 =>
                            refine pgts_cons ?x808 ?x809
                            case x808 =>
                              exact pgt_name (i := 6) nd
                            case x809 =>
                              refine pgts_cons ?x810 ?x811
                              case x810 =>
                                exact pgt_name (i := 3) nd
                              case x811 =>
                                exact pgts_nil
                      case x798 =>
                        refine psl_cons ?x812 ?x813
                        case x812 =>
                          refine ps_setD (i := 2) nd ?x814
                          case x814 =>
                            refine pf_cat ?x815 ?x816
                            case x815 =>
                              refine pk_of ?x817
                              case x817 =>
                                refine pd_of ?x818
                                case x818 =>
                                  refine pf_cat ?x819 ?x820
                                  case x819 =>
                                    refine pk_of ?x821
                                    case x821 =>
                                      refine pd_of ?x822
                                      case x822 =>
                                        refine pf_cut ?x823 ?x824 ?x825
                                        case x823 =>
                                          exact pk_slot (i := 2)
                                        case x824 =>
                                          exact pq_none
                                        case x825 =>
                                          refine pq_some ?x826
                                          case x826 =>
                                            exact pd_var (i := 5)
                                  case x820 =>
                                    refine pk_of ?x827
                                    case x827 =>
                                      refine pd_of ?x828
                                      case x828 =>
                                        refine pf_lst ?x829
                                        case x829 =>
                                          refine pl_cons ?x830 ?x831
                                          case x830 =>
                                            exact pd_var (i := 6)
                                          case x831 =>
                                            exact pl_nil
                            case x816 =>
                              refine pk_of ?x832
                              case x832 =>
                                refine pd_of ?x833
                                case x833 =>
                                  refine pf_cut ?x834 ?x835 ?x836
                                  case x834 =>
                                    exact pk_slot (i := 2)
                                  case x835 =>
                                    refine pq_some ?x837
                                    case x837 =>
                                      exact pd_var (i := 5)
                                  case x836 =>
                                    exact pq_none
                        case x813 =>
                          refine psl_one ?x838
                          case x838 =>
                            refine ps_ifD ?x839 ?x840 ?x841
                            case x839 =>
                              refine pb_eq (hu := hr.units) ?x842 ?x843
                              case x842 =>
                                refine pd_of ?x844
                                case x844 =>
                                  refine pf_callC (can_l_next F (k + 5)) hr takes_cx ?x845
                                  case x845 =>
                                    refine pl_cons ?x846 ?x847
                                    case x846 =>
                                      exact pd_var (i := 1)
                                    case x847 =>
                                      refine pl_cons ?x848 ?x849
                                      case x848 =>
                                        exact pd_int
                                      case x849 =>
                                        exact pl_nil
                              case x843 =>
                                exact pd_int
                            case x840 =>
                              refine psl_one ?x850
                              case x850 =>
                                refine ps_app ?x851 ?x852
                                case x851 =>
                                  exact pr_name (i := 2)
                                case x852 =>
                                  refine pl_cons ?x853 ?x854
                                  case x853 =>
                                    refine pd_idx ?x855 ?x856
                                    case x855 =>
                                      refine pk_of ?x857
                                      case x857 =>
                                        refine pd_of ?x858
                                        case x858 =>
                                          refine pf_callC (can_l_pick F (k + 4)) hr takes_cx ?x859
                                          case x859 =>
                                            refine pl_cons ?x860 ?x861
                                            case x860 =>
                                              exact pd_var (i := 1)
                                            case x861 =>
                                              refine pl_cons ?x862 ?x863
                                              case x862 =>
                                                exact pd_var (i := 4)
                                              case x863 =>
                                                exact pl_nil
                                    case x856 =>
                                      exact pd_int
                                  case x854 =>
                                    exact pl_nil
                            case x841 =>
                              exact psl_nil
            case x709 =>
              exact psl_nil
          case x706 =>
            refine psl_keep ?x864
            case x864 =>
              refine psl_cons ?x865 ?x866
              case x865 =>
                refine ps_tgtD (is := ([7] ++ ([8] ++ []))) ?x867 ?x868
                case x867 =>
                  refine pd_of ?x869
                  case x869 =>
                    refine pf_callC (can_l_laid F (k + 4)) hr takes_cx ?x870
                    case x870 =>
                      refine pl_cons ?x871 ?x872
                      case x871 =>
                        exact pd_var (i := 1)
                      case x872 =>
                        refine pl_cons ?x873 ?x874
                        case x873 =>
                          exact pd_var (i := 2)
                        case x874 =>
                          exact pl_nil
                case x868 =>
                  refine pgt_tup rfl ?x875
                  case x875 =>
                    refine pgts_cons ?x876 ?x877
                    case x876 =>
                      exact pgt_name (i := 7) nd
                    case x877 =>
                      refine pgts_cons ?x878 ?x879
                      case x878 =>
                        exact pgt_name (i := 8) nd
                      case x879 =>
                        exact pgts_nil
              case x866 =>
                refine psl_cons ?x880 ?x881
                case x880 =>
                  refine ps_ifD ?x882 ?x883 ?x884
                  case x882 =>
                    refine pb_notN ?x885
                    case x885 =>
                      exact pd_var (i := 3)
                  case x883 =>
                    refine psl_one ?x886
                    case x886 =>
                      refine ps_retD ?x887
                      case x887 =>
                        refine pf_callC (can_l_equal F 4 (k + 0)) hr takes_cx ?x888
                        case x888 =>
                          refine pl_cons ?x889 ?x890
                          case x889 =>
                            refine pd_of ?x891
                            case x891 =>
                              refine pf_callC (can_l_told F (k + 1)) hr takes_cx ?x892
                              case x892 =>
                                refine pl_cons ?x893 ?x894
                                case x893 =>
                                  exact pd_var (i := 7)
                                case x894 =>
                                  exact pl_nil
                          case x890 =>
                            refine pl_cons ?x895 ?x896
                            case x895 =>
                              refine pd_tup ?x897
                              case x897 =>
                                refine pl_cons ?x898 ?x899
                                case x898 =>
                                  refine pd_idx ?x900 ?x901
                                  case x900 =>
                                    exact pk_slot (i := 8)
                                  case x901 =>
                                    exact pd_var (i := 5)
                                case x899 =>
                                  refine pl_cons ?x902 ?x903
                                  case x902 =>
                                    exact pd_var (i := 3)
                                  case x903 =>
                                    exact pl_nil
                            case x896 =>
                              exact pl_nil
                  case x884 =>
                    exact psl_nil
                case x881 =>
                  refine psl_cons ?x904 ?x905
                  case x904 =>
                    refine ps_setD (i := 9) nd ?x906
                    case x906 =>
                      refine pf_cat ?x907 ?x908
                      case x907 =>
                        refine pk_of ?x909
                        case x909 =>
                          refine pd_of ?x910
                          case x910 =>
                            refine pf_lc (hc := rfl) (hN := nd) (hi := ?x911) (own := [("_law_k", 15), ("_law_word", 6)]) (is := ([15] ++ ([6] ++ []))) (ok := blkOk_by (by kernel_rfl)) (hv := by decide) (hg := ?x912) (ht := ?x913) (he := ?x914)
                            case x911 =>
                              refine pit_en (hg := rfl) (hm := F.free_ 10) ?x915
                              case x915 =>
                                exact pq_name (i := 2)
                            case x912 =>
                              intro _ _ _ _ _
                              refine pgt_tup rfl ?x916
                              case x916 =>
                                refine pgts_cons ?x917 ?x918
                                case x917 =>
                                  exact pgt_name (i := 15) nd
                                case x918 =>
                                  refine pgts_cons ?x919 ?x920
                                  case x919 =>
                                    exact pgt_name (i := 6) nd
                                  case x920 =>
                                    exact pgts_nil
                            case x913 =>
                              intro _ _ _ _ _
                              exact pbs_nil
                            case x914 =>
                              intro _ _ _ _ _
                              refine pd_tup ?x921
                              case x921 =>
                                refine pl_cons ?x922 ?x923
                                case x922 =>
                                  refine pd_if ?x924 ?x925 ?x926
                                  case x924 =>
                                    refine pb_inS ?x927 ?x928
                                    case x927 =>
                                      exact pd_var (i := 6)
                                    case x928 =>
                                      exact pd_str
                                  case x925 =>
                                    exact pd_str
                                  case x926 =>
                                    exact pd_str
                                case x923 =>
                                  refine pl_cons ?x929 ?x930
                                  case x929 =>
                                    exact pd_var (i := 6)
                                  case x930 =>
                                    refine pl_cons ?x931 ?x932
                                    case x931 =>
                                      refine pd_idx ?x933 ?x934
                                      case x933 =>
                                        exact pk_slot (i := 8)
                                      case x934 =>
                                        exact pd_var (i := 15)
                                    case x932 =>
                                      exact pl_nil
                      case x908 =>
                        refine pk_of ?x935
                        case x935 =>
                          refine pd_of ?x936
                          case x936 =>
                            refine pf_lst ?x937
                            case x937 =>
                              refine pl_cons ?x938 ?x939
                              case x938 =>
                                refine pd_tup ?x940
                                case x940 =>
                                  refine pl_cons ?x941 ?x942
                                  case x941 =>
                                    exact pd_str
                                  case x942 =>
                                    refine pl_cons ?x943 ?x944
                                    case x943 =>
                                      exact pd_str
                                    case x944 =>
                                      refine pl_cons ?x945 ?x946
                                      case x945 =>
                                        refine pd_idx ?x947 ?x948
                                        case x947 =>
                                          exact pk_slot (i := 8)
                                        case x948 =>
                                          refine pd_neg ?x949
                                          case x949 =>
                                            exact pd_int
                                      case x946 =>
                                        exact pl_nil
                              case x939 =>
                                exact pl_nil
                  case x905 =>
                    refine psl_keep ?x950
                    case x950 =>
                      refine psl_cons ?x951 ?x952
                      case x951 =>
                        refine ps_setD (i := 10) nd ?x953
                        case x953 =>
                          refine pf_callC (can_l_told F (k + 1)) hr takes_cx ?x954
                          case x954 =>
                            refine pl_cons ?x955 ?x956
                            case x955 =>
                              exact pd_var (i := 7)
                            case x956 =>
                              exact pl_nil
                      case x952 =>
                        refine psl_box ?x957
                        case x957 =>
                          refine psl_cons ?x958 ?x959
                          case x958 =>
                            refine ps_ifD ?x960 ?x961 ?x962
                            case x960 =>
                              refine pb_not ?x963
                              case x963 =>
                                refine pb_tru ?x964
                                case x964 =>
                                  refine pk_of ?x965
                                  case x965 =>
                                    refine pd_of ?x966
                                    case x966 =>
                                      refine pf_callC (can_l_equal F 4 (k + 0)) hr takes_cx ?x967
                                      case x967 =>
                                        refine pl_cons ?x968 ?x969
                                        case x968 =>
                                          exact pd_var (i := 10)
                                        case x969 =>
                                          refine pl_cons ?x970 ?x971
                                          case x970 =>
                                            exact pd_var (i := 9)
                                          case x971 =>
                                            exact pl_nil
                            case x961 =>
                              refine psl_one ?x972
                              case x972 =>
                                refine ps_retD ?x973
                                case x973 =>
                                  refine pf_of ?x974
                                  case x974 =>
                                    exact pd_bl
                            case x962 =>
                              exact psl_nil
                          case x959 =>
                            refine psl_cons ?x975 ?x976
                            case x975 =>
                              refine ps_app ?x977 ?x978
                              case x977 =>
                                exact pr_name (i := 10)
                              case x978 =>
                                refine pl_cons ?x979 ?x980
                                case x979 =>
                                  exact pd_non
                                case x980 =>
                                  exact pl_nil
                            case x976 =>
                              refine psl_cons ?x981 ?x982
                              case x981 =>
                                refine ps_setD (i := 11) nd ?x983
                                case x983 =>
                                  refine pf_of ?x984
                                  case x984 =>
                                    refine pd_mulC ?x985 ?x986
                                    case x985 =>
                                      exact pd_str
                                    case x986 =>
                                      refine pd_sub ?x987 ?x988
                                      case x987 =>
                                        exact pd_int
                                      case x988 =>
                                        refine pd_len ?x989 (hm := (F.free_ 2))
                                        case x989 =>
                                          exact pk_slot (i := 7)
                              case x982 =>
                                refine psl_cons ?x990 ?x991
                                case x990 =>
                                  refine ps_setD (i := 12) nd ?x992
                                  case x992 =>
                                    refine pf_callC (can_l_pick F (k + 4)) hr takes_cx ?x993
                                    case x993 =>
                                      refine pl_cons ?x994 ?x995
                                      case x994 =>
                                        exact pd_var (i := 1)
                                      case x995 =>
                                        refine pl_cons ?x996 ?x997
                                        case x996 =>
                                          refine pd_of ?x998
                                          case x998 =>
                                            refine pf_lst ?x999
                                            case x999 =>
                                              refine pl_cons ?x1000 ?x1001
                                              case x1000 =>
                                                exact pd_non
                                              case x1001 =>
                                                refine pl_cons ?x1002 ?x1003
                                                case x1002 =>
                                                  refine pd_of ?x1004
                                                  case x1004 =>
                                                    refine pf_lst ?x1005
                                                    case x1005 =>
                                                      refine pl_cons ?x1006 ?x1007
                                                      case x1006 =>
                                                        exact pd_var (i := 7)
                                                      case x1007 =>
                                                        exact pl_nil
                                                case x1003 =>
                                                  refine pl_cons ?x1008 ?x1009
                                                  case x1008 =>
                                                    refine pd_add ?x1010 ?x1011
                                                    case x1010 =>
                                                      exact pd_var (i := 7)
                                                    case x1011 =>
                                                      exact pd_str
                                                  case x1009 =>
                                                    refine pl_cons ?x1012 ?x1013
                                                    case x1012 =>
                                                      exact pd_str
                                                    case x1013 =>
                                                      refine pl_cons ?x1014 ?x1015
                                                      case x1014 =>
                                                        refine pd_add ?x1016 ?x1017
                                                        case x1016 =>
                                                          refine pd_add ?x1018 ?x1019
                                                          case x1018 =>
                                                            exact pd_var (i := 11)
                                                          case x1019 =>
                                                            exact pd_var (i := 7)
                                                        case x1017 =>
                                                          exact pd_str
                                                      case x1015 =>
                                                        refine pl_cons ?x1020 ?x1021
                                                        case x1020 =>
                                                          exact pd_int
                                                        case x1021 =>
                                                          exact pl_nil
                                        case x997 =>
                                          exact pl_nil
                                case x991 =>
                                  refine psl_one ?x1022
                                  case x1022 =>
                                    refine ps_retD ?x1023
                                    case x1023 =>
                                      refine pf_of ?x1024
                                      case x1024 =>
                                        refine pd_and ?x1025 ?x1026
                                        case x1025 =>
                                          refine pd_of ?x1027
                                          case x1027 =>
                                            refine pf_callC (can_l_equal F 4 (k + 0)) hr takes_cx ?x1028
                                            case x1028 =>
                                              refine pl_cons ?x1029 ?x1030
                                              case x1029 =>
                                                refine pd_of ?x1031
                                                case x1031 =>
                                                  refine pf_callC (can_l_told F (k + 1)) hr takes_cx ?x1032
                                                  case x1032 =>
                                                    refine pl_cons ?x1033 ?x1034
                                                    case x1033 =>
                                                      exact pd_var (i := 7)
                                                    case x1034 =>
                                                      exact pl_nil
                                              case x1030 =>
                                                refine pl_cons ?x1035 ?x1036
                                                case x1035 =>
                                                  exact pd_var (i := 9)
                                                case x1036 =>
                                                  exact pl_nil
                                        case x1026 =>
                                          refine pd_and ?x1037 ?x1038
                                          case x1037 =>
                                            refine pd_eq (hu := hr.units) ?x1039 ?x1040
                                            case x1039 =>
                                              refine pd_of ?x1041
                                              case x1041 =>
                                                refine pf_callC (can_l_told F (k + 1)) hr takes_cx ?x1042
                                                case x1042 =>
                                                  refine pl_cons ?x1043 ?x1044
                                                  case x1043 =>
                                                    exact pd_var (i := 12)
                                                  case x1044 =>
                                                    exact pl_nil
                                            case x1040 =>
                                              exact pd_str
                                          case x1038 =>
                                            refine pd_one ?x1045
                                            case x1045 =>
                                              refine pd_isi (T := "list") ?x1046 (hm := (F.free_ 0)) (hmT := F.free_ 3)
                                              case x1046 =>
                                                refine pk_of ?x1047
                                                case x1047 =>
                                                  refine pd_of ?x1048
                                                  case x1048 =>
                                                    refine pf_callC (can_l_told F (k + 1)) hr takes_cx ?x1049
                                                    case x1049 =>
                                                      refine pl_cons ?x1050 ?x1051
                                                      case x1050 =>
                                                        refine pd_add ?x1052 ?x1053
                                                        case x1052 =>
                                                          exact pd_var (i := 11)
                                                        case x1053 =>
                                                          exact pd_var (i := 7)
                                                      case x1051 =>
                                                        exact pl_nil
theorem can_law (F : Fx fns fas exf K mg) (k : Nat) : Can P w K mg base (k + 6 + 1) "law" 1 (F_law (Gx.mk P w K mg)) := by
  obtain ⟨fd, U⟩ := F.def_ 11 rfl
  have U : FunD K "law" "law" (defArgs s_law) (defBody s_law) (defScope s_law) [] [] (He.fAd K ("law", none)) fd := U
  exact ⟨_, fd, ["_law_script"], fn_okD (k := k + 6) U sc_law (fun cdv A outer s H E hr => ok_law F k cdv A outer s H E hr), F.glo_ 23, U.kp, (U.bindsN fun _ _ _ _ _ _ us hl => match us, hl with | [_], _ => rfl)⟩
end
end K72

set_option Elab.async false
set_option linter.all false
set_option maxRecDepth 100000
set_option maxHeartbeats 0
namespace K72
open PySem PySem.Spec PyProof.Rows L2 Pp
abbrev R : PySem.W.OpenRow := PySem.W.OpenLaw.row PySem.Challenge.rw_surepast_k72_tokens_of_texts
abbrev hk : PySem.W.Hook := He.hookX 6 fas fns [] [] exf
def ob (s : PySem.W.SharedT) : He.AlX := He.obsX 6 fas fns [] [] exf (HandSHeadRun.getT s)
theorem ob_eq (s : PySem.W.SharedT) : ob s = hk.obs s.abs := He.obsX_eq (HandSHeadRun.getT_eq s)
def loose : List PySem.Str := ["PastError", "BadValue", "TextError", "DIGITS", "SIGNS", "LONGEST_TEXT", "MOST_DIGITS", "check_text", "digits_at", "token_at", "scan", "_law_stream", "_law_next", "_law_is_integer", "_law_equal", "_law_pick", "_law_laid", "_law_told"]
theorem run (w : World) : HandSHeadRun.RunEq R (PySem.W.view R.prog [21]) hk ob 4000 loose w := by
  intro os
  kernel_rfl

theorem fin {P : Program} {w : World} {K : PySem.W.Frag} {mg : Str → Option Value} {f : Addr} (F : Fx fns fas exf K mg) (hf : mg ("law" : Str) = some (.ref f)) :
    ∃ fd : FuncData, (∀ (s : Shared) (v : Value), BindsTo s fd ⟨[v], []⟩ [("_law_script", v)]) ∧ ∀ base : Heap, FnOk P w K mg base L2.CX0 9 f fd ["_law_script"] (fun vs H Q _ => spD ⟨P, w, K, mg⟩ 1 (F_law ⟨P, w, K, mg⟩) vs H Q fun _ _ _ => False) := by
  obtain ⟨fd, U⟩ := F.def_ 11 rfl
  have U : FunD K "law" "law" (defArgs s_law) (defBody s_law) (defScope s_law) [] [] (He.fAd K ("law", none)) fd := U
  have e : mg "law" = some (.ref (He.ga K "law")) := F.glo_ 23
  rw [e] at hf
  cases hf
  refine ⟨fd, fun s v => U.bindsA (ps := ["_law_script"]) (fun _ _ _ _ _ _ us hl => match us, hl with | [_], _ => rfl) s [v] rfl, fun base => ?_⟩
  refine calm_ok (FnOk.mono (fn_okD (k := 0 + 6) U sc_law (fun cdv A outer s H E hr => ok_law F 0 cdv A outer s H E hr)) (by decide))
theorem holds_of (hm : ∀ (G : Gx) (ns : List Int), ns.length ≤ 63 → Fx fns fas exf G.K G.mg → ∃ A, F_law G [.fz (ns.map .int)] [] = .ok (.val (.bl true)) A) : PySem.Challenge.rw_surepast_k72_tokens_of_texts.Holds := by
  open PySem PySem.W PySem.Calls PyProof.Rows in
  w_on; o_law
  refine HandSHeadRun.head_any (r := OpenLaw.row PySem.Challenge.rw_surepast_k72_tokens_of_texts) (q := PySem.W.view (OpenLaw.row PySem.Challenge.rw_surepast_k72_tokens_of_texts).prog [21]) (H := hk) (ob := ob) (M := 4000) (loose := loose) (d := HandSHeadRun.topDef (OpenLaw.row PySem.Challenge.rw_surepast_k72_tokens_of_texts).prog 21) (kwd := []) ob_eq
    (by kernel_rfl) (fun s => by kernel_rfl) run (by kernel_rfl) (by kernel_rfl) (by kernel_rfl) (by rfl) (by first | assumption | decide +kernel) (by decide +kernel) ⟨rfl, rfl, rfl, rfl, rfl, by decide +kernel⟩ ?hw ?hc
  case hw => w_witness2
  case hc =>
    refine L2.walk_ofE (l := PySem.Challenge.rw_surepast_k72_tokens_of_texts) (n := 63) (k := 9) (x := "_law_script") (CX := L2.CX0) rfl (by decide) (by kernel_rfl) ⟨rfl, by decide, by decide⟩ ?F (fun _ _ _ _ z => z)
    intro w mg fa h Y G hmg0
    obtain ⟨K, KX, c⟩ := Y
    have hmg : mg ("law" : PySem.Str) = some (.ref fa) := by
      have e : (HandSHeadRun.topDef (OpenLaw.row PySem.Challenge.rw_surepast_k72_tokens_of_texts).prog 21).name = ("law" : PySem.Str) := by kernel_rfl
      rw [← e]
      exact hmg0
    have sd : He.SaysD fas fns K := congrArg (fun z : He.AlT => z.1) c.t
    have FX : Fx fns fas exf K mg := ⟨⟨h, KX, G⟩, sd, c.more⟩
    obtain ⟨fd, hb, hF⟩ := fin (P := (PySem.Challenge.rw_surepast_k72_tokens_of_texts).prog) (w := w) FX hmg
    exact ⟨K, fd, (fun vs H Q _ => spD ⟨(PySem.Challenge.rw_surepast_k72_tokens_of_texts).prog, w, K, mg⟩ 1 (F_law ⟨(PySem.Challenge.rw_surepast_k72_tokens_of_texts).prog, w, K, mg⟩) vs H Q fun _ _ _ => False), KX, hb, fun H a ns hl _ hS => law_sp (g := ⟨(PySem.Challenge.rw_surepast_k72_tokens_of_texts).prog, w, K, mg⟩) hS (hm ⟨(PySem.Challenge.rw_surepast_k72_tokens_of_texts).prog, w, K, mg⟩ ns hl FX), fun base _ _ => hF base⟩
end K72

set_option Elab.async false
set_option linter.all false
set_option maxRecDepth 100000
set_option maxHeartbeats 1000000
namespace K72
open PySem PySem.Spec PyProof.Rows L2 Pp
theorem seq_nx {a b : DS} {r r' : Ev} {A A' : Ar} (h : a r A = .nx r' A') : sSeq a b r A = b r' A' := by rw [s_seq, h, fl_nx]
theorem seq_rt {a b : DS} {r : Ev} {A A' : Ar} {s : Sl} (h : a r A = .rt s A') : sSeq a b r A = .rt s A' := by rw [s_seq, h, fl_rt]
theorem seq_er {a b : DS} {r r' : Ev} {A A' : Ar} {e : Ex} (h : a r A = .er e r' A') : sSeq a b r A = .er e r' A' := by rw [s_seq, h, fl_er]
/-! ### texts as lists of code points -/
abbrev ST (t : List Nat) : Dt := .str ⟨t.toArray⟩
def isD (c : Nat) : Bool := decide (c ∈ (Str.ofString "0123456789").cps.toList)
def isS (c : Nat) : Bool := decide (c ∈ (Str.ofString "|,").cps.toList)
theorem len_st (t : List Nat) : (⟨t.toArray⟩ : Str).length = t.length := by simp [Str.length]
theorem in_one (c : Nat) (x : Str) (A : Ar) : dInS (.str ⟨#[c]⟩) (.str x) A = .ok (decide (c ∈ x.cps.toList)) A := by
  show Rs.ok (!(Builtin.Str.occurrences x ⟨#[c]⟩ 0 x.length 1).isEmpty) A = _
  rw [PySem.StrLaws.found_one]
theorem in_dig (c : Nat) (A : Ar) : dInS (.str ⟨#[c]⟩) (.str "0123456789") A = .ok (isD c) A := in_one c _ A
theorem in_sign (c : Nat) (A : Ar) : dInS (.str ⟨#[c]⟩) (.str "|,") A = .ok (isS c) A := in_one c _ A
theorem idx_st {t : List Nat} {i : Nat} {A : Ar} (h : i < t.length) (hz : t.length ≤ 1000) : dIdx (ST t) (.int (i : Nat)) A = .ok (.str ⟨#[t[i]]⟩) A := by
  show (if (⟨t.toArray⟩ : Str).length ≤ sizeLine then (match atI (⟨t.toArray⟩ : Str).cps.toList (i : Nat) with
    | some c => Rs.ok (Dt.str ⟨#[c]⟩) A
    | none => Rs.bad) else Rs.bad) = _
  rw [len_st, if_pos (Nat.le_trans hz (by decide))]
  have e : atI (⟨t.toArray⟩ : Str).cps.toList (i : Nat) = some t[i] := by
    show atI t (i : Nat) = some t[i]
    rw [atI_pos (by omega) (by omega)]
    simp [h]
  rw [e]
theorem len_ok {t : List Nat} {A : Ar} (hz : t.length ≤ 1000) : dLen [ST t] A = .ok (.int (t.length : Nat)) A := by
  rw [dLen_str, len_st, if_pos (Nat.le_trans hz (by decide))]
theorem cut_st {t : List Nat} {a b : Nat} {A : Ar} (hz : t.length ≤ 1000) (ha : a ≤ b) (hb : b ≤ t.length) : dCut (ST t) (some (a : Nat)) (some (b : Nat)) A = .ok (.val (ST ((t.drop a).take (b - a)))) A := by
  show (if (⟨t.toArray⟩ : Str).length ≤ sizeLine then Rs.ok (Sl.val (.str (cutS ⟨t.toArray⟩ (some (a : Nat)) (some (b : Nat))))) A else Rs.bad) = _
  rw [len_st, if_pos (Nat.le_trans hz (by decide))]
  unfold cutS
  rw [len_st, HT.sIx_nat, HT.sIx_nat, Nat.min_eq_left hb, Nat.min_eq_left (Nat.le_trans ha hb)]
/-! ### digits_at -/
abbrev Wdig : DM Bool := (mAndB (mCmp dLt (mVar 2) (mCall dLen (mCons (mPeek 0) mNil))) (mCmp dInS (mBin dIdx (mPeek 0) (mVar 2)) (mC (.str "0123456789"))))
abbrev Bdig : DS := (sSet 2 (mSl (mBin dAdd (mVar 2) (mC (.int 1)))))
abbrev rdig (t : List Nat) (a e : Nat) : Ev := [some (.val (ST t)), some (.val (.int (a : Nat))), some (.val (.int (e : Nat)))]
theorem dig_loop {t : List Nat} {a : Nat} {A : Ar} (hz : t.length ≤ 1000) : ∀ (n e : Nat), t.length - e = n → e ≤ t.length → sWhile Wdig Bdig (rdig t a e) A = .nx (rdig t a (e + ((t.drop e).takeWhile isD).length)) A := by
  intro n
  induction n with
  | zero =>
    intro e h1 h2
    have he : e = t.length := by omega
    subst he
    rw [sWhile_step]
    have e1 : Wdig (rdig t a t.length) A = .ok false A := by simp [len_ok hz]
    rw [e1]
    simp
  | succ n ih =>
    intro e h1 h2
    have hlt : e < t.length := by omega
    rw [sWhile_step]
    have e1 : Wdig (rdig t a e) A = .ok (isD t[e]) A := by
      have e2 := idx_st (A := A) hlt hz
      simp [len_ok hz, hlt, e2, in_dig]
    rw [e1, List.drop_eq_getElem_cons hlt, List.takeWhile_cons]
    cases hd : isD t[e] with
    | false => simp
    | true =>
      have e3 : Bdig (rdig t a e) A = .nx (rdig t a (e + 1)) A := by simp
      simp only [e3]
      rw [ih (e + 1) (by omega) (by omega)]
      simp
      omega
theorem take_run (t : List Nat) : t.take (t.takeWhile isD).length = t.takeWhile isD := by
  induction t with
  | nil => rfl
  | cons c t ih =>
    rw [List.takeWhile_cons]
    split
    · simp [ih]
    · rfl
theorem digits_at (G : Gx) {t : List Nat} {a : Nat} {A : Ar} (hz : t.length ≤ 1000) (ha : a ≤ t.length) : F_digits_at G [ST t, .int (a : Nat)] A = .ok (.val (ST ((t.drop a).takeWhile isD))) A := by
  have hl : ((t.drop a).takeWhile isD).length ≤ (t.drop a).length := (List.takeWhile_sublist _).length_le
  rw [List.length_drop] at hl
  have e := dig_loop (a := a) (A := A) hz _ a rfl ha
  have e2 := cut_st (A := A) (a := a) (b := a + ((t.drop a).takeWhile isD).length) hz (by omega) (by omega)
  rw [Nat.add_sub_cancel_left, take_run, Int.natCast_add] at e2
  show fnD 3 (B_digits_at G) _ A = _
  rw [s_fn]
  have e0 : B_digits_at G (List.map (fun d => some (Sl.val d)) [ST t, .int (a : Nat)] ++ List.replicate (3 - [ST t, Dt.int (a : Nat)].length) none) A = .rt (.val (ST ((t.drop a).takeWhile isD))) A := by
    unfold B_digits_at
    rw [seq_nx (r' := rdig t a a) (A' := A) (by simp), seq_nx e]
    simp [e2]
  rw [e0]
/-! ### token_at -/
/-- a token -/
def tok (w : List Nat) (a : Nat) : Dt := .tup [.str (if isS (w.headD 0) then "sign" else "number"), ST w, .int ((a + 1 : Nat) : Int)]
def terr (a : Nat) (words : Str) : Ex := ⟨"TextError", [("column", .int ((a + 1 : Nat) : Int)), ("words", .str words)]⟩
theorem token_at (G : Gx) {t : List Nat} {a : Nat} {A : Ar} (hz : t.length ≤ 1000) (ha : a < t.length) : F_token_at G [ST t, .int (a : Nat)] A =
    if isS t[a] then .ok (.val (tok [t[a]] a)) A else if (t.drop a).takeWhile isD = [] then .er (terr a "no token begins here") A else if 6 < ((t.drop a).takeWhile isD).length then .er (terr a "a number has at most 6 digits") A else .ok (.val (.tup [.str "number", ST ((t.drop a).takeWhile isD), .int ((a + 1 : Nat) : Int)])) A := by
  have e1 := idx_st (A := A) ha hz
  have e2 := digits_at G (A := A) hz (Nat.le_of_lt ha)
  have hl : ((t.drop a).takeWhile isD).length ≤ (t.drop a).length := (List.takeWhile_sublist _).length_le
  rw [List.length_drop] at hl
  generalize (t.drop a).takeWhile isD = w at *
  have hw : w.length ≤ 1000 := by omega
  have e3 := len_ok (A := A) hw
  have e4 : decide ((⟨w.toArray⟩ : Str) = Str.ofString "") = decide (w = []) := by
    cases w with
    | nil => rfl
    | cons c w =>
      have h1 : (⟨(c :: w).toArray⟩ : Str) ≠ Str.ofString "" := fun h => by
        have h2 := congrArg (fun z : Str => z.cps.size) h
        have h3 : (Str.ofString "").cps.size = 0 := by decide +kernel
        rw [h3] at h2
        simp at h2
      rw [decide_eq_false h1, decide_eq_false (by simp)]
  show fnD 3 (B_token_at G) _ A = _
  rw [s_fn]
  unfold B_token_at
  cases hs : isS t[a] with
  | true => simp [e1, in_sign, tok, hs]
  | false =>
    by_cases hw0 : w = []
    · have hE : (⟨#[]⟩ : Str) = Str.ofString "" := rfl
      simp [e1, in_sign, hs, e2, hw0, hE, terr]
    · by_cases h6 : 6 < w.length
      · have h6' : (6 : Int) < (w.length : Nat) := by omega
        simp [e1, in_sign, hs, e2, e3, e4, hw0, h6, h6', terr]
      · have h6' : ¬ (6 : Int) < (w.length : Nat) := by omega
        simp [e1, in_sign, hs, e2, e3, e4, hw0, h6, h6']
/-! ### scan -/
/-- a word that is a token here: a sign, or a number of at most six digits that ends here -/
def Good (w rest : List Nat) : Prop := (∃ c, w = [c] ∧ isS c = true) ∨ (w ≠ [] ∧ (∀ c ∈ w, isD c = true) ∧ w.length ≤ 6 ∧ ∀ c r, rest = c :: r → isD c = false)
/-- a word that is none -/
def Bad (w rest : List Nat) (words : Str) : Prop := (∃ c, w = [c] ∧ isS c = false ∧ isD c = false ∧ c ≠ 32 ∧ words = "no token begins here") ∨
  (6 < w.length ∧ (∀ c ∈ w, isD c = true) ∧ (∀ c r, rest = c :: r → isD c = false) ∧ words = "a number has at most 6 digits")
theorem run_of {w rest : List Nat} (h : ∀ c ∈ w, isD c = true) (hr : ∀ c r, rest = c :: r → isD c = false) : (w ++ rest).takeWhile isD = w := by
  induction w with
  | nil =>
    cases rest with
    | nil => rfl
    | cons c r => simp [hr c r rfl]
  | cons c w ih =>
    rw [List.cons_append, List.takeWhile_cons, if_pos (h c List.mem_cons_self), ih fun d hd => h d (List.mem_cons_of_mem _ hd)]
theorem isS_isD {c : Nat} (h : isD c = true) : isS c = false := by
  have h' : c ∈ (Str.ofString "0123456789").cps.toList := of_decide_eq_true h
  have e : (Str.ofString "0123456789").cps.toList = [48, 49, 50, 51, 52, 53, 54, 55, 56, 57] := by decide +kernel
  rw [e] at h'
  have e2 : (Str.ofString "|,").cps.toList = [124, 44] := by decide +kernel
  unfold isS
  rw [e2]
  simp at h' ⊢
  omega
theorem token_good (G : Gx) {pre w rest : List Nat} {A : Ar} (hz : (pre ++ (w ++ rest)).length ≤ 1000) (hw : Good w rest) : F_token_at G [ST (pre ++ (w ++ rest)), .int (pre.length : Nat)] A = .ok (.val (tok w pre.length)) A ∧ 0 < w.length := by
  have hd : (pre ++ (w ++ rest)).drop pre.length = w ++ rest := List.drop_left
  rcases hw with ⟨c, rfl, hc⟩ | ⟨h1, h2, h3, h4⟩
  · have ha : pre.length < (pre ++ ([c] ++ rest)).length := by simp
    have hg : (pre ++ ([c] ++ rest))[pre.length]'ha = c := by simp
    rw [token_at G hz ha, hg, if_pos hc]
    exact ⟨rfl, by simp⟩
  · have hl : 0 < w.length := List.length_pos_iff.mpr h1
    have ha : pre.length < (pre ++ (w ++ rest)).length := by simp; omega
    have hg : (pre ++ (w ++ rest))[pre.length]'ha = w[0] := by simp [List.getElem_append, hl]
    have hc := h2 _ (List.getElem_mem hl)
    have hh : w.headD 0 = w[0] := by
      cases w with
      | nil => simp at hl
      | cons c w => rfl
    rw [token_at G hz ha, hg, isS_isD hc, hd, run_of h2 h4]
    refine ⟨?_, hl⟩
    rw [if_neg (by simp), if_neg h1, if_neg (by omega)]
    unfold tok
    rw [hh, isS_isD hc]
    simp
theorem token_bad (G : Gx) {pre w rest : List Nat} {words : Str} {A : Ar} (hz : (pre ++ (w ++ rest)).length ≤ 1000) (hw : Bad w rest words) : F_token_at G [ST (pre ++ (w ++ rest)), .int (pre.length : Nat)] A = .er (terr pre.length words) A ∧ ∃ c w', w = c :: w' ∧ c ≠ 32 := by
  have hd : (pre ++ (w ++ rest)).drop pre.length = w ++ rest := List.drop_left
  rcases hw with ⟨c, rfl, hc, hc2, hc3, rfl⟩ | ⟨h1, h2, h4, rfl⟩
  · have ha : pre.length < (pre ++ ([c] ++ rest)).length := by simp
    have hg : (pre ++ ([c] ++ rest))[pre.length]'ha = c := by simp
    rw [token_at G hz ha, hg, hc, hd]
    refine ⟨?_, c, [], rfl, hc3⟩
    rw [if_neg (by simp)]
    simp [hc2]
  · have hl : 0 < w.length := by omega
    have ha : pre.length < (pre ++ (w ++ rest)).length := by simp; omega
    have hg : (pre ++ (w ++ rest))[pre.length]'ha = w[0] := by simp [List.getElem_append, hl]
    have hc := h2 _ (List.getElem_mem hl)
    rw [token_at G hz ha, hg, isS_isD hc, hd, run_of h2 h4]
    refine ⟨?_, ?_⟩
    · rw [if_neg (by simp), if_neg (by intro z; rw [z] at hl; simp at hl), if_pos h1]
    · cases w with
      | nil => simp at hl
      | cons c w =>
        refine ⟨c, w, rfl, fun z => ?_⟩
        have hc' : isD c = true := h2 c List.mem_cons_self
        subst z
        have : isD 32 = false := by decide +kernel
        rw [this] at hc'
        cases hc'
/-- blanks and words, blanks behind -/
def flat : List (Nat × List Nat) → Nat → List Nat
  | [], tl => List.replicate tl 32
  | (g, w) :: s, tl => List.replicate g 32 ++ (w ++ flat s tl)
def toks : Nat → List (Nat × List Nat) → List Dt
  | _, [] => []
  | a, (g, w) :: s => tok w (a + g) :: toks (a + g + w.length) s
def GoodAll : List (Nat × List Nat) → List Nat → Prop
  | [], _ => True
  | (g, w) :: s, r => Good w (flat s 0 ++ r) ∧ GoodAll s r
abbrev rsc (t : List Nat) (l : List Dt) (a : Nat) : Ev := [some (.val (ST t)), some (.lst l), some (.val (.int (a : Nat)))]
abbrev Wsc : DM Bool := (mCmp dLt (mVar 2) (mCall dLen (mCons (mPeek 0) mNil)))
noncomputable abbrev Bsc (G : Gx) : DS := (sIf (mCmp dEq (mBin dIdx (mPeek 0) (mVar 2)) (mC (.str " "))) (sSet 2 (mSl (mBin dAdd (mVar 2) (mC (.int 1))))) (sSeq (sMut (mRfN 1) (mCons (mVal (mFn 2 (F_token_at G) (mCons (mVar 0) (mCons (mVar 2) mNil)))) mNil) fApp) (sSet 2 (mSl (mBin dAdd (mVar 2) (mCall dLen (mCons (mBin dIdx (mBin dIdx (mPeek 1) (mUn dNeg (mC (.int 1)))) (mC (.int 1))) mNil)))))))
theorem blank_eq (c : Nat) : decide ((⟨#[c]⟩ : Str) = Str.ofString " ") = decide (c = 32) := by
  have e : Str.ofString " " = ⟨#[32]⟩ := by decide +kernel
  rw [e]
  by_cases h : c = 32
  · subst h; simp
  · rw [decide_eq_false h, decide_eq_false]
    intro z
    have z2 : #[c] = #[32] := congrArg Str.cps z
    simp at z2
    exact h z2
theorem blank_eq' (c : Nat) : ((⟨#[c]⟩ : Str) = Str.ofString " ") = (c = 32) := by
  have h := blank_eq c
  simpa using h
theorem sc_test {t : List Nat} {l : List Dt} {a : Nat} {A : Ar} (hz : t.length ≤ 1000) : Wsc (rsc t l a) A = .ok (decide (a < t.length)) A := by
  simp [len_ok hz]
theorem sc_blank (G : Gx) {t : List Nat} {l : List Dt} {a : Nat} {A : Ar} (hz : t.length ≤ 1000) (ha : a < t.length) (h : t[a] = 32) : Bsc G (rsc t l a) A = .nx (rsc t l (a + 1)) A := by
  have e := idx_st (A := A) ha hz
  rw [h] at e
  have e2 : (⟨#[32]⟩ : Str) = Str.ofString " " := by decide +kernel
  simp [e, e2]
theorem atI_last {l : List Dt} {d : Dt} : atI (l ++ [d]) (-1) = some d := by
  unfold atI ixN
  rw [if_neg (by omega), if_pos (by simp; omega)]
  have e : ((-1 : Int) + ((l ++ [d]).length : Nat)).toNat = l.length := by simp; omega
  rw [e]
  simp
theorem sc_token (G : Gx) {t w : List Nat} {l : List Dt} {a : Nat} {A : Ar} (hz : t.length ≤ 1000) (ha : a < t.length) (h : t[a] ≠ 32) (hl : l.length ≤ 1000) (hw : w.length ≤ 1000) (ht : F_token_at G [ST t, .int (a : Nat)] A = .ok (.val (tok w a)) A) : Bsc G (rsc t l a) A = .nx (rsc t (l ++ [tok w a]) (a + w.length)) A := by
  have e := idx_st (A := A) ha hz
  have h' : ¬ (⟨#[t[a]]⟩ : Str) = Str.ofString " " := by rw [blank_eq']; exact h
  have hl' : l.length < 1000000 := by omega
  have e1 : dIdx (tok w a) (.int 1) A = .ok (ST w) A := by
    unfold tok
    simp
  have e2 := len_ok (A := A) hw
  have e3 := atI_last (l := l) (d := tok w a)
  simp [e, h', ht, fApp, hl', e3, e1, e2]
theorem sc_err (G : Gx) {t : List Nat} {l : List Dt} {a : Nat} {A : Ar} {x : Ex} (hz : t.length ≤ 1000) (ha : a < t.length) (h : t[a] ≠ 32) (ht : F_token_at G [ST t, .int (a : Nat)] A = .er x A) : Bsc G (rsc t l a) A = .er x (rsc t l a) A := by
  have e := idx_st (A := A) ha hz
  have h' : ¬ (⟨#[t[a]]⟩ : Str) = Str.ofString " " := by rw [blank_eq']; exact h
  simp [e, h', ht]
theorem sc_blanks (G : Gx) {t : List Nat} {l : List Dt} {A : Ar} (hz : t.length ≤ 1000) : ∀ (g : Nat) (pre rest : List Nat), t = pre ++ (List.replicate g 32 ++ rest) → sWhile Wsc (Bsc G) (rsc t l pre.length) A = sWhile Wsc (Bsc G) (rsc t l (pre.length + g)) A
  | 0, _, _, _ => rfl
  | g + 1, pre, rest, h => by
    have hlt : pre.length < t.length := by rw [h]; simp; omega
    have hg : t[pre.length] = 32 := by
      subst h
      rw [List.getElem_append_right (Nat.le_refl _)]
      simp [List.replicate_succ]
    rw [sWhile_step, sc_test hz, decide_eq_true hlt]
    simp only [sc_blank G hz hlt hg]
    have ih := sc_blanks G hz g (l := l) (A := A) (pre ++ [32]) rest (by rw [h, List.replicate_succ]; simp)
    rw [List.length_append, List.length_singleton] at ih
    rw [ih, Nat.add_assoc, Nat.add_comm 1 g]
theorem good_head {w rest : List Nat} (h : Good w rest) : ∃ c w', w = c :: w' ∧ c ≠ 32 := by
  rcases h with ⟨c, rfl, hc⟩ | ⟨h1, h2, _, _⟩
  · refine ⟨c, [], rfl, fun z => ?_⟩
    subst z
    have : isS 32 = false := by decide +kernel
    rw [this] at hc; cases hc
  · cases w with
    | nil => exact absurd rfl h1
    | cons c w =>
      refine ⟨c, w, rfl, fun z => ?_⟩
      subst z
      have hc := h2 32 List.mem_cons_self
      have : isD 32 = false := by decide +kernel
      rw [this] at hc; cases hc
theorem flat_add (s : List (Nat × List Nat)) (tl : Nat) : flat s tl = flat s 0 ++ List.replicate tl 32 := by
  induction s with
  | nil => simp [flat]
  | cons p s ih =>
    obtain ⟨g, w⟩ := p
    rw [flat, flat, ih]
    simp
/-- good words are scanned, rest stays ahead -/
theorem sc_words (G : Gx) {t : List Nat} {A : Ar} (hz : t.length ≤ 1000) : ∀ (s : List (Nat × List Nat)) (pre rest : List Nat) (l : List Dt), t = pre ++ (flat s 0 ++ rest) → GoodAll s rest → l.length + s.length ≤ 1000 →
    sWhile Wsc (Bsc G) (rsc t l pre.length) A = sWhile Wsc (Bsc G) (rsc t (l ++ toks pre.length s) (pre.length + (flat s 0).length)) A
  | [], pre, rest, l, h, _, _ => by simp [toks, flat]
  | (g, w) :: s, pre, rest, l, h, hg, hl => by
    obtain ⟨h1, h2⟩ := hg
    have h3 : t = pre ++ (List.replicate g 32 ++ (w ++ (flat s 0 ++ rest))) := by rw [h]; simp [flat]
    rw [sc_blanks G hz g pre _ h3]
    have h4 : t = (pre ++ List.replicate g 32) ++ (w ++ (flat s 0 ++ rest)) := by rw [h3]; simp
    obtain ⟨e1, hw⟩ := token_good (A := A) G (pre := pre ++ List.replicate g 32) (w := w) (rest := flat s 0 ++ rest) (by rw [← h4]; exact hz) h1
    rw [← h4] at e1
    have hpl : (pre ++ List.replicate g 32).length = pre.length + g := by simp
    rw [hpl] at e1
    have hlt : pre.length + g < t.length := by rw [h4]; simp; omega
    obtain ⟨c, w', rfl, hc⟩ := good_head h1
    have hne : t[pre.length + g] ≠ 32 := by
      have : t[pre.length + g]'hlt = c := by
        subst h4
        rw [List.getElem_append_right (by simp)]
        simp
      rw [this]; exact hc
    have hwl : (c :: w').length ≤ 1000 := by
      rw [h4] at hz
      simp at hz ⊢
      omega
    simp only [List.length_cons] at hl
    rw [sWhile_step, sc_test hz, decide_eq_true hlt]
    have hl0 : l.length ≤ 1000 := by omega
    simp only [sc_token G hz hlt hne hl0 hwl e1]
    have ih := sc_words (A := A) G hz s (pre ++ List.replicate g 32 ++ (c :: w')) rest (l ++ [tok (c :: w') (pre.length + g)]) (by rw [h4]; simp) h2 (by simp; omega)
    have hpl2 : (pre ++ List.replicate g 32 ++ (c :: w')).length = pre.length + g + (c :: w').length := by simp; omega
    rw [hpl2] at ih
    rw [ih]
    have e5 : l ++ [tok (c :: w') (pre.length + g)] ++ toks (pre.length + g + (c :: w').length) s = l ++ toks pre.length ((g, c :: w') :: s) := by simp [toks]
    have e6 : pre.length + g + (c :: w').length + (flat s 0).length = pre.length + (flat ((g, c :: w') :: s) 0).length := by simp [flat]; omega
    rw [e5, e6]
/-! check_text, scan -/
theorem in_nl (t : List Nat) (A : Ar) : dInS (.str (Str.ofString "\n")) (ST t) A = .ok (decide (10 ∈ t)) A := by
  have e : Str.ofString "\n" = ⟨#[10]⟩ := by decide +kernel
  rw [e, in_one]
theorem check_ok (G : Gx) {t : List Nat} {A : Ar} (hz : t.length ≤ 400) (hn : 10 ∉ t) : F_check_text G [ST t] A = .ok (.val .non) A := by
  show fnD 1 (B_check_text G) _ A = _
  rw [s_fn]
  unfold B_check_text
  have e1 := len_ok (A := A) (t := t) (by omega)
  have e2 : ¬ (400 : Int) < (t.length : Nat) := by omega
  simp [-dLen_str, e1, e2, in_nl, hn]
def badV : Ex := ⟨"BadValue", [("name", .str "text")]⟩
theorem check_long (G : Gx) {t : List Nat} {A : Ar} (hz : 400 < t.length) (hz2 : t.length ≤ 1000) : F_check_text G [ST t] A = .er badV A := by
  show fnD 1 (B_check_text G) _ A = _
  rw [s_fn]
  unfold B_check_text
  have e1 := len_ok (A := A) hz2
  have e2 : (400 : Int) < (t.length : Nat) := by omega
  simp [-dLen_str, e1, e2, badV]
theorem check_nl (G : Gx) {t : List Nat} {A : Ar} (hz2 : t.length ≤ 1000) (hn : 10 ∈ t) : F_check_text G [ST t] A = .er badV A := by
  show fnD 1 (B_check_text G) _ A = _
  rw [s_fn]
  unfold B_check_text
  have e1 := len_ok (A := A) hz2
  by_cases e2 : (400 : Int) < (t.length : Nat)
  · simp [-dLen_str, e1, e2, badV]
  · simp [-dLen_str, e1, e2, in_nl, hn, badV]
theorem check_other (G : Gx) {d : Dt} {A : Ar} (h : dIsi "str" d A = .ok (.bl false) A) : F_check_text G [d] A = .er badV A := by
  show fnD 1 (B_check_text G) _ A = _
  rw [s_fn]
  unfold B_check_text
  simp [h, badV]
theorem scan_err (G : Gx) {d : Dt} {A : Ar} (h : F_check_text G [d] A = .er badV A) : F_scan G [d] A = .er badV A := by
  show fnD 3 (B_scan G) _ A = _
  rw [s_fn]
  unfold B_scan
  simp [h]
def endTok (n : Nat) : Dt := .tup [.str "end", .str "", .int ((n + 1 : Nat) : Int)]
theorem scan_start (G : Gx) {t : List Nat} {A : Ar} {R : Fl} {rest : DS} (hz : t.length ≤ 400) (hn : 10 ∉ t) : (sSeq (sDrop (mFn 1 (F_check_text G) (mCons (mVar 0) mNil))) (sSeq (sSet 1 (mLst mNil)) (sSeq (sSet 2 (mSl (mC (.int 0)))) rest))) [some (.val (ST t)), none, none] A = rest (rsc t [] 0) A := by
  have h := check_ok (A := A) G hz hn
  simp [h]
  rfl
theorem toks_length : ∀ (s : List (Nat × List Nat)) (a : Nat), (toks a s).length = s.length
  | [], _ => rfl
  | (g, w) :: s, a => by simp [toks, toks_length s]
theorem scan_good (G : Gx) {s : List (Nat × List Nat)} {tl : Nat} {A : Ar} (hz : (flat s tl).length ≤ 400) (hn : 10 ∉ flat s tl) (hs : GoodAll s (List.replicate tl 32)) (hl : s.length ≤ 900) :
    F_scan G [ST (flat s tl)] A = .ok (.lst (toks 0 s ++ [endTok (flat s tl).length])) A := by
  have hz1 : (flat s tl).length ≤ 1000 := by omega
  have e1 := sc_words G (A := A) hz1 s [] (List.replicate tl 32) [] (by rw [flat_add]; simp) hs (by simp; omega)
  have e2 := sc_blanks G (A := A) (l := toks 0 s) hz1 tl (flat s 0) [] (by rw [flat_add]; simp)
  have e3 : (flat s 0).length + tl = (flat s tl).length := by rw [flat_add s tl]; simp
  rw [e3] at e2
  have e4 : sWhile Wsc (Bsc G) (rsc (flat s tl) [] 0) A = .nx (rsc (flat s tl) (toks 0 s) (flat s tl).length) A := by
    have e1' : sWhile Wsc (Bsc G) (rsc (flat s tl) [] 0) A = sWhile Wsc (Bsc G) (rsc (flat s tl) (toks 0 s) (flat s 0).length) A := by simpa using e1
    rw [e1', e2, sWhile_step, sc_test hz1]
    simp
  show fnD 3 (B_scan G) _ A = _
  rw [s_fn]
  have e5 : B_scan G [some (.val (ST (flat s tl))), none, none] A = .rt (.lst (toks 0 s ++ [endTok (flat s tl).length])) A := by
    unfold B_scan
    rw [scan_start G (R := .bad) hz hn, seq_nx e4]
    have e6 := len_ok (A := A) hz1
    have e7 : (toks 0 s).length < 1000000 := by rw [toks_length]; omega
    simp [-dLen_str, e6, fApp, e7, endTok]
  show (match B_scan G [some (.val (ST (flat s tl))), none, none] A with
    | .rt s A => Rs.ok s A
    | .nx _ A => .ok (.val .non) A
    | .er e _ A => .er e A
    | _ => .bad) = _
  rw [e5]
theorem scan_bad (G : Gx) {s : List (Nat × List Nat)} {g : Nat} {w rest : List Nat} {words : Str} {A : Ar} (hz : (flat s 0 ++ (List.replicate g 32 ++ (w ++ rest))).length ≤ 400) (hn : 10 ∉ flat s 0 ++ (List.replicate g 32 ++ (w ++ rest))) (hs : GoodAll s (List.replicate g 32 ++ (w ++ rest))) (hb : Bad w rest words) (hl : s.length ≤ 900) :
    F_scan G [ST (flat s 0 ++ (List.replicate g 32 ++ (w ++ rest)))] A = .er (terr ((flat s 0).length + g) words) A := by
  generalize ht : flat s 0 ++ (List.replicate g 32 ++ (w ++ rest)) = t at *
  have hz1 : t.length ≤ 1000 := by omega
  have e1 := sc_words G (A := A) hz1 s [] (List.replicate g 32 ++ (w ++ rest)) [] (by rw [← ht]; simp) hs (by simp; omega)
  have e2 := sc_blanks G (A := A) (l := toks 0 s) hz1 g (flat s 0) (w ++ rest) ht.symm
  have h4 : t = (flat s 0 ++ List.replicate g 32) ++ (w ++ rest) := by rw [← ht]; simp
  obtain ⟨e3, c, w', rfl, hc⟩ := token_bad (A := A) G (pre := flat s 0 ++ List.replicate g 32) (w := w) (rest := rest) (by rw [← h4]; exact hz1) hb
  rw [← h4] at e3
  have hpl : (flat s 0 ++ List.replicate g 32).length = (flat s 0).length + g := by simp
  rw [hpl] at e3
  have hlt : (flat s 0).length + g < t.length := by rw [h4]; simp
  have hne : t[(flat s 0).length + g] ≠ 32 := by
    have : t[(flat s 0).length + g]'hlt = c := by
      subst h4
      rw [List.getElem_append_right (by simp)]
      simp
    rw [this]; exact hc
  have e4 : sWhile Wsc (Bsc G) (rsc t [] 0) A = .er (terr ((flat s 0).length + g) words) (rsc t (toks 0 s) ((flat s 0).length + g)) A := by
    have e1' : sWhile Wsc (Bsc G) (rsc t [] 0) A = sWhile Wsc (Bsc G) (rsc t (toks 0 s) (flat s 0).length) A := by simpa using e1
    rw [e1', e2, sWhile_step, sc_test hz1, decide_eq_true hlt]
    simp only [sc_err G hz1 hlt hne e3]
  show fnD 3 (B_scan G) _ A = _
  rw [s_fn]
  have e5 : B_scan G [some (.val (ST t)), none, none] A = .er (terr ((flat s 0).length + g) words) (rsc t (toks 0 s) ((flat s 0).length + g)) A := by
    unfold B_scan
    rw [scan_start G (R := .bad) hz hn, seq_er e4]
  show (match B_scan G [some (.val (ST t)), none, none] A with
    | .rt s A => Rs.ok s A
    | .nx _ A => .ok (.val .non) A
    | .er e _ A => .er e A
    | _ => .bad) = _
  rw [e5]
/-! ### told -/
section
variable {G : Gx} (F : Fx fns fas exf G.K G.mg)
include F
theorem mo : (((((PySem.W.exmOne G.K (.ref (He.ga G.K "TextError")) (.ref (He.ga G.K "TextError")) = some true ∧ PySem.W.exmOne G.K (.ref (He.ga G.K "BadValue")) (.ref (He.ga G.K "TextError")) = some false) ∧ PySem.W.exmOne G.K (.ref (He.ga G.K "BadValue")) (.ref (He.ga G.K "BadValue")) = some true) ∧ xfB G.K (He.ga G.K "TextError") = true) ∧ xfB G.K (He.ga G.K "BadValue") = true) ∧ isxB G.K (He.ga G.K "TextError") = true) ∧ PySem.W.kitOne G.K (.ref (He.ga G.K "TextError")) (.ref (He.ga G.K "PastError")) = some true := by
  have h := more_ok F
  simp only [more, Bool.and_eq_true, decide_eq_true_eq] at h
  exact h
theorem exem1 : exEM G (.ref (He.ga G.K "TextError")) "TextError" = some true := by
  have h := F.glo_ 25 (x := "TextError")
  unfold exEM
  rw [h]
  exact (mo F).1.1.1.1.1.1
theorem exem2 : exEM G (.ref (He.ga G.K "TextError")) "BadValue" = some false := by
  have h := F.glo_ 24 (x := "BadValue")
  unfold exEM
  rw [h]
  exact (mo F).1.1.1.1.1.2
theorem exem3 : exEM G (.ref (He.ga G.K "BadValue")) "BadValue" = some true := by
  have h := F.glo_ 24 (x := "BadValue")
  unfold exEM
  rw [h]
  exact (mo F).1.1.1.1.2
theorem exis1 : exIS G "TextError" (.ref (He.ga G.K "PastError")) = some true := by
  have h := F.glo_ 25 (x := "TextError")
  unfold exIS
  rw [h]
  simp only [(mo F).1.2, if_true]
  exact (mo F).2
theorem exfb1 (f : Str) (hf : f ∈ (["column", "words"] : List Str)) : exFB G "TextError" f = true := by
  have h := F.glo_ 25 (x := "TextError")
  unfold exFB
  rw [h]
  have h2 := (errB_ok (err_TextError F)).2.2.2 f hf
  simp only [(mo F).1.1.1.2, h2, decide_true, Bool.and_self]
theorem exfb2 : exFB G "BadValue" "name" = true := by
  have h := F.glo_ 24 (x := "BadValue")
  unfold exFB
  rw [h]
  have h2 := (errB_ok (err_BadValue F)).2.2.2 "name" (by simp)
  simp only [(mo F).1.1.2, h2, decide_true, Bool.and_self]
omit F in
theorem told_list {d : Dt} {s : Sl} {A : Ar} (h : F_scan G [d] A = .ok s A) : F_l_told G [d] A = .ok s A := by
  show fnD 2 (B_l_told G) _ A = _
  rw [s_fn]
  unfold B_l_told sTry
  simp [h]
theorem told_text {d : Dt} {a : Nat} {words : Str} {A : Ar} (h : F_scan G [d] A = .er (terr a words) A) : F_l_told G [d] A = .ok (.val (.tup [.int ((a + 1 : Nat) : Int), .str words])) A := by
  show fnD 2 (B_l_told G) _ A = _
  rw [s_fn]
  unfold B_l_told sTry
  have e1 := exfb1 F "column" (by simp)
  have e2 := exfb1 F "words" (by simp)
  have l1 : List.lookup (Str.ofString "column") [(Str.ofString "column", Dt.int ((a + 1 : Nat) : Int)), (Str.ofString "words", .str words)] = some (.int ((a + 1 : Nat) : Int)) := by
    rw [List.lookup_cons, beq_self_eq_true]
  have l2 : List.lookup (Str.ofString "words") [(Str.ofString "column", Dt.int ((a + 1 : Nat) : Int)), (Str.ofString "words", .str words)] = some (.str words) := by
    rw [List.lookup_cons, show (Str.ofString "words" == Str.ofString "column") = false from by decide, List.lookup_cons, beq_self_eq_true]
  unfold terr at h
  generalize Dt.int ((a + 1 : Nat) : Int) = c at *
  simp [h, hdRun, exem1 F, mIsX, exis1 F, mXf, e1, e2, l1, l2, Fl.unset]
theorem told_bad {d : Dt} {A : Ar} (h : F_scan G [d] A = .er badV A) : F_l_told G [d] A = .ok (.val (.str "text")) A := by
  show fnD 2 (B_l_told G) _ A = _
  rw [s_fn]
  unfold B_l_told sTry
  have l1 : List.lookup (Str.ofString "name") [(Str.ofString "name", Dt.str (Str.ofString "text"))] = some (.str "text") := by
    rw [List.lookup_cons, beq_self_eq_true]
  simp [h, hdRun, badV, exem2 F, exem3 F, mXf, exfb2 F, l1, Fl.unset]
end
end K72

set_option Elab.async false
set_option linter.all false
set_option maxRecDepth 100000
set_option maxHeartbeats 1000000
namespace K72
open PySem PySem.Spec PyProof.Rows L2 Pp
/-! ### laid -/
theorem add_st {a b : List Nat} {A : Ar} (h : a.length + b.length ≤ 1000) : dAdd (ST a) (ST b) A = .ok (ST (a ++ b)) A := by
  rw [dAdd_str, len_st, len_st, if_pos (Nat.le_trans h (by decide))]
  have e : (⟨a.toArray⟩ : Str) ++ (⟨b.toArray⟩ : Str) = ⟨(a ++ b).toArray⟩ := by
    show Str.mk (a.toArray ++ b.toArray) = _
    simp
  rw [e]
theorem cut_last {w : List Nat} {A : Ar} (hz : w.length ≤ 1000) (hw : w ≠ []) : dCut (ST w) (some (-1)) none A = .ok (.val (.str ⟨#[w.getLast hw]⟩)) A := by
  show (if (⟨w.toArray⟩ : Str).length ≤ sizeLine then Rs.ok (Sl.val (.str (cutS ⟨w.toArray⟩ (some (-1)) none))) A else Rs.bad) = _
  rw [len_st, if_pos (Nat.le_trans hz (by decide))]
  have hl : 0 < w.length := List.length_pos_iff.mpr hw
  unfold cutS
  rw [len_st]
  have e1 : HT.sIx w.length 0 (some (-1)) = w.length - 1 := by
    show (if (-1 : Int) < 0 then ((-1) + (w.length : Int)).toNat else min (-1 : Int).toNat w.length) = _
    rw [if_pos (by omega)]
    omega
  have e2 : HT.sIx w.length w.length none = w.length := rfl
  rw [e1, e2]
  have e3 : (w.drop (w.length - 1)).take (w.length - (w.length - 1)) = [w.getLast hw] := by
    obtain ⟨w', c, rfl⟩ : ∃ w' c, w = w' ++ [c] := ⟨w.dropLast, w.getLast hw, (List.dropLast_concat_getLast hw).symm⟩
    simp
  show Rs.ok (Sl.val (Dt.str ⟨((w.drop (w.length - 1)).take (w.length - (w.length - 1))).toArray⟩)) A = _
  rw [e3]
theorem cut_head {w : List Nat} {A : Ar} (hz : w.length ≤ 1000) (hw : w ≠ []) : dCut (ST w) none (some 1) A = .ok (.val (.str ⟨#[w.head hw]⟩)) A := by
  show (if (⟨w.toArray⟩ : Str).length ≤ sizeLine then Rs.ok (Sl.val (.str (cutS ⟨w.toArray⟩ none (some 1)))) A else Rs.bad) = _
  rw [len_st, if_pos (Nat.le_trans hz (by decide))]
  have hl : 0 < w.length := List.length_pos_iff.mpr hw
  unfold cutS
  rw [len_st]
  have e1 : HT.sIx w.length 0 none = 0 := rfl
  have e2 : HT.sIx w.length w.length (some 1) = 1 := by
    have := HT.sIx_nat w.length w.length 1
    rw [Nat.min_eq_left hl] at this
    exact this
  rw [e1, e2]
  cases w with
  | nil => exact absurd rfl hw
  | cons c w => rfl
def lastD (w : List Nat) : Bool := isD (w.getLastD 32)
def headD (w : List Nat) : Bool := isD (w.headD 32)
def Adj (s : List (Nat × List Nat)) : Prop := ∀ i a b, s[i]? = some a → s[i + 1]? = some b → lastD a.2 = true → headD b.2 = true → 1 ≤ b.1
def places : Nat → List (Nat × List Nat) → List Dt
  | _, [] => []
  | a, (g, w) :: s => .int ((a + g + 1 : Nat) : Int) :: places (a + g + w.length) s
theorem flat_snoc (p : List (Nat × List Nat)) (g : Nat) (w : List Nat) : flat (p ++ [(g, w)]) 0 = flat p 0 ++ List.replicate g 32 ++ w := by
  induction p with
  | nil => simp [flat]
  | cons q p ih => obtain ⟨g', w'⟩ := q; simp [flat, ih]
theorem places_snoc (p : List (Nat × List Nat)) (g : Nat) (w : List Nat) : ∀ a, places a (p ++ [(g, w)]) = places a p ++ [.int ((a + (flat p 0).length + g + 1 : Nat) : Int)] := by
  induction p with
  | nil => intro a; simp [places, flat]
  | cons q p ih =>
    obtain ⟨g', w'⟩ := q
    intro a
    simp only [List.cons_append, places, ih, flat, List.length_append, List.length_replicate]
    congr 4
    omega
theorem adj_snoc {p : List (Nat × List Nat)} {g : Nat} {w : List Nat} (h : Adj p) (hn : ∀ q, p.getLast? = some q → lastD q.2 = true → headD w = true → 1 ≤ g) : Adj (p ++ [(g, w)]) := by
  intro i a b ha hb h1 h2
  have hi := (List.getElem?_eq_some_iff.mp hb).1
  rw [List.length_append, List.length_singleton] at hi
  have hi2 : i < p.length := by omega
  rw [List.getElem?_append_left hi2] at ha
  by_cases h3 : i + 1 < p.length
  · rw [List.getElem?_append_left h3] at hb
    exact h i a b ha hb h1 h2
  · have h4 : i + 1 = p.length := by omega
    rw [List.getElem?_append_right (by omega), h4, Nat.sub_self] at hb
    cases hb
    refine hn a ?_ h1 h2
    rw [List.getLast?_eq_getElem?, ← h4]
    exact ha
theorem places_length : ∀ (s : List (Nat × List Nat)) (a : Nat), (places a s).length = s.length
  | [], _ => rfl
  | (g, w) :: s, a => by simp [places, places_length s]
/-- the test of nearness -/
abbrev Mnear : DM Dt := (mCall dInt (mCons (mAndV (mOfB (mCmp dGt (mVar 4) (mC (.int 0)))) (mAndV (mOfB (mCmp dInS (mVal (mCut (mBin dIdx (mPeek 1) (mBin dSub (mVar 4) (mC (.int 1)))) (mSome (mUn dNeg (mC (.int 1)))) mNone)) (mC (.str "0123456789")))) (mOfB (mCmp dInS (mVal (mCut (mPeek 5) mNone (mSome (mC (.int 1))))) (mC (.str "0123456789")))))) mNil))
theorem near_ok {p : List (Nat × List Nat)} {w : List Nat} {rest : List (List Nat)} {o : Dt} {x y z : Option Sl} {A : Ar} (hw : w ≠ []) (hz : w.length ≤ 1000) (hp : ∀ q ∈ p, q.2 ≠ [] ∧ q.2.length ≤ 1000) :
    ∃ n : Nat, n ≤ 1 ∧ (∀ q, p.getLast? = some q → lastD q.2 = true → headD w = true → n = 1) ∧
      Mnear [some (.val o), some (.val (.lst ((p.map (·.2) ++ w :: rest).map ST))), x, y, some (.val (.int (p.length : Nat))), some (.val (ST w)), z] A = .ok (.int (n : Nat)) A := by
  have e2 := cut_head (A := A) hz hw
  have eh : headD w = isD (w.head hw) := by
    cases w with
    | nil => exact absurd rfl hw
    | cons c w => rfl
  by_cases h0 : p = []
  · subst h0
    refine ⟨0, by omega, fun q h => by simp at h, ?_⟩
    simp
  · obtain ⟨p', q, rfl⟩ : ∃ p' q, p = p' ++ [q] := ⟨p.dropLast, p.getLast h0, (List.dropLast_concat_getLast h0).symm⟩
    have hq := hp q (by simp)
    have e1 := cut_last (A := A) hq.2 hq.1
    have el : lastD q.2 = isD (q.2.getLast hq.1) := by
      unfold lastD
      rw [List.getLastD_eq_getLast?, List.getLast?_eq_some_getLast hq.1]
      rfl
    have ei : atI (((p' ++ [q]).map (·.2) ++ w :: rest).map ST) (((p' ++ [q]).length : Nat) - 1 : Int) = some (ST q.2) := by
      have e : (((p' ++ [q]).length : Nat) - 1 : Int) = (p'.length : Nat) := by simp
      rw [e, atI_pos (by omega) (by simp; omega)]
      simp
    have eg : (0 : Int) < (((p' ++ [q]).length : Nat) : Int) := by rw [List.length_append, List.length_singleton]; omega
    refine ⟨if lastD q.2 && headD w then 1 else 0, by split <;> omega, fun q' h h1 h2 => ?_, ?_⟩
    · simp at h
      subst h
      rw [h1, h2]; rfl
    · rw [el, eh]
      generalize ((p' ++ [q]).map (·.2) ++ w :: rest).map ST = L at *
      generalize (((p' ++ [q]).length : Nat) : Int) = N at *
      simp [eg, ei, e1, e2, in_dig]
      cases isD (q.2.getLast hq.1) <;> cases isD (w.head hw) <;> simp
abbrev Mgap (nx : Fn) : DM Dt := (mBin dIdx (mVal (mLst (mCons (mC (.str "")) (mCons (mC (.str " ")) (mCons (mC (.str "  ")) (mCons (mC (.str "   ")) mNil)))))) (mCall dMax2 (mCons (mPeek 6) (mCons (mVal (mFn 2 nx (mCons (mVar 0) (mCons (mC (.int 4)) mNil)))) mNil))))
theorem gap_ok {ns : List Int} {c k : Int} {A : Ar} {j n : Nat} {x y z u v : Option Sl} (hA : A[j]? = some (stB ns c k)) (hc : 0 ≤ c) (hk : 0 ≤ k) (hn : n ≤ 1) :
    ∃ (g : Nat) (c' k' : Int), g ≤ 3 ∧ (n = 1 → 1 ≤ g) ∧ 0 ≤ c' ∧ 0 ≤ k' ∧ Mgap (fnD 5 Bnext) [some (.val (.obj j)), x, y, z, u, v, some (.val (.int (n : Nat)))] A = .ok (ST (List.replicate g 32)) (A.set j (stB ns c' k')) := by
  obtain ⟨d, c', k', g1, g2, g3, g4, e⟩ := next_step (m := 4) j hA (by decide) (by decide) hc hk
  have hd : ∃ d' : Nat, d = d' ∧ d' < 4 := ⟨d.toNat, by omega, by omega⟩
  obtain ⟨d', rfl, hd'⟩ := hd
  have s0 : Str.ofString "" = ⟨#[]⟩ := by decide +kernel
  have s1 : Str.ofString " " = ⟨#[32]⟩ := by decide +kernel
  have s2 : Str.ofString "  " = ⟨#[32, 32]⟩ := by decide +kernel
  have s3 : Str.ofString "   " = ⟨#[32, 32, 32]⟩ := by decide +kernel
  have i0 : ∀ (a b c d : Dt), atI [a, b, c, d] 0 = some a := fun _ _ _ _ => rfl
  have i1 : ∀ (a b c d : Dt), atI [a, b, c, d] 1 = some b := fun _ _ _ _ => rfl
  have i2 : ∀ (a b c d : Dt), atI [a, b, c, d] 2 = some c := fun _ _ _ _ => rfl
  have i3 : ∀ (a b c d : Dt), atI [a, b, c, d] 3 = some d := fun _ _ _ _ => rfl
  refine ⟨max n d', c', k', by omega, by omega, g3, g4, ?_⟩
  have hn' : n = 0 ∨ n = 1 := by omega
  have hd2 : d' = 0 ∨ d' = 1 ∨ d' = 2 ∨ d' = 3 := by omega
  rcases hn' with rfl | rfl <;> rcases hd2 with rfl | rfl | rfl | rfl <;> simp at e <;> simp [e, dMax2, i0, i1, i2, i3, s0, s1, s2, s3, List.replicate]
abbrev rla (o W : Dt) (t : List Nat) (pl : List Dt) (x y z : Option Sl) : Ev := [some (.val o), some (.val W), some (.val (ST t)), some (.lst pl), x, y, z]
abbrev Blb (nx : Fn) : DS := (sSeq (sSet 6 (mSl Mnear)) (sSeq (sSet 2 (mSl (mBin dAdd (mVar 2) (Mgap nx)))) (sSeq (sMut (mRfN 3) (mCons (mBin dAdd (mCall dLen (mCons (mPeek 2) mNil)) (mC (.int 1))) mNil) fApp) (sSet 2 (mSl (mBin dAdd (mVar 2) (mVar 5)))))))
theorem lb_ok {ns : List Int} {c k : Int} {A : Ar} {j : Nat} {p : List (Nat × List Nat)} {w : List Nat} {rest : List (List Nat)} {z : Option Sl} (hA : A[j]? = some (stB ns c k)) (hc : 0 ≤ c) (hk : 0 ≤ k)
    (hw : w ≠ []) (hp : ∀ q ∈ p, q.2 ≠ [] ∧ q.2.length ≤ 1000) (hz : (flat p 0).length + 3 + w.length ≤ 900) (hpl : p.length ≤ 900) :
    ∃ (g : Nat) (c' k' : Int) (z' : Option Sl), g ≤ 3 ∧ (∀ q, p.getLast? = some q → lastD q.2 = true → headD w = true → 1 ≤ g) ∧ 0 ≤ c' ∧ 0 ≤ k' ∧
      Blb (fnD 5 Bnext) (rla (.obj j) (.lst ((p.map (·.2) ++ w :: rest).map ST)) (flat p 0) (places 0 p) (some (.val (.int (p.length : Nat)))) (some (.val (ST w))) z) A =
        .nx (rla (.obj j) (.lst ((p.map (·.2) ++ w :: rest).map ST)) (flat (p ++ [(g, w)]) 0) (places 0 (p ++ [(g, w)])) (some (.val (.int (p.length : Nat)))) (some (.val (ST w))) z') (A.set j (stB ns c' k')) := by
  obtain ⟨n, hn, hn2, e1⟩ := near_ok (p := p) (w := w) (rest := rest) (o := .obj j) (x := some (.val (ST (flat p 0)))) (y := some (.lst (places 0 p))) (z := z) (A := A) hw (by omega) hp
  obtain ⟨g, c', k', g1, g2, g3, g4, e2⟩ := gap_ok (n := n) (x := some (.val (.lst ((p.map (·.2) ++ w :: rest).map ST)))) (y := some (.val (ST (flat p 0)))) (z := some (.lst (places 0 p))) (u := some (.val (.int (p.length : Nat)))) (v := some (.val (ST w))) hA hc hk hn
  refine ⟨g, c', k', some (.val (.int (n : Nat))), g1, fun q h1 h2 h3 => g2 (hn2 q h1 h2 h3), g3, g4, ?_⟩
  unfold Blb
  generalize hM : Mnear = M at *
  generalize hMg : Mgap (fnD 5 Bnext) = Mg at *
  have e3 := add_st (a := flat p 0) (b := List.replicate g 32) (A := A.set j (stB ns c' k')) (by simp; omega)
  have e4 := len_ok (t := flat p 0 ++ List.replicate g 32) (A := A.set j (stB ns c' k')) (by simp; omega)
  have e5 := add_st (a := flat p 0 ++ List.replicate g 32) (b := w) (A := A.set j (stB ns c' k')) (by simp; omega)
  have e6 : (places 0 p).length < 1000000 := by rw [places_length]; omega
  rw [flat_snoc, places_snoc]
  have e7 : ((0 + (flat p 0).length + g + 1 : Nat) : Int) = (((flat p 0 ++ List.replicate g 32).length : Nat) : Int) + 1 := by simp
  rw [e7]
  generalize (p.map (·.2) ++ w :: rest).map ST = L at *
  simp only [ST] at e3 e4 e5
  simp [-dLen_str, -dAdd_str, -List.append_assoc, e1, e2, e3, e4, e5, fApp, e6]
theorem flat_len : ∀ (p : List (Nat × List Nat)), (∀ q ∈ p, q.1 ≤ 3 ∧ q.2.length ≤ 9) → (flat p 0).length ≤ 12 * p.length
  | [], _ => by simp [flat]
  | (g, w) :: p, h => by
    have h1 : g ≤ 3 ∧ w.length ≤ 9 := h (g, w) List.mem_cons_self
    have h2 := flat_len p fun q hq => h q (List.mem_cons_of_mem _ hq)
    simp only [flat, List.length_append, List.length_replicate, List.length_cons] at h2 ⊢
    omega
def WOk (w : List Nat) : Prop := w ≠ [] ∧ w.length ≤ 9
theorem la_loop {ns : List Int} {j : Nat} : ∀ (rest : List (List Nat)) (p : List (Nat × List Nat)) (c k : Int) (A : Ar) (x y z : Option Sl), A[j]? = some (stB ns c k) → 0 ≤ c → 0 ≤ k → (∀ q ∈ p, q.1 ≤ 3 ∧ WOk q.2) → (∀ w ∈ rest, WOk w) → p.length + rest.length ≤ 30 → Adj p →
    ∃ (q : List (Nat × List Nat)) (c' k' : Int) (x' y' z' : Option Sl), q.map (·.2) = rest ∧ (∀ s ∈ q, s.1 ≤ 3) ∧ Adj (p ++ q) ∧ 0 ≤ c' ∧ 0 ≤ k' ∧
      foGo (fun _ => True) (gtT 2 (gtCons (gtN 4) (gtCons (gtN 5) gtNil))) (Blb (fnD 5 Bnext)) (enL p.length (rest.map ST)) (rla (.obj j) (.lst ((p.map (·.2) ++ rest).map ST)) (flat p 0) (places 0 p) x y z) A =
        .nx (rla (.obj j) (.lst ((p.map (·.2) ++ rest).map ST)) (flat (p ++ q) 0) (places 0 (p ++ q)) x' y' z') (A.set j (stB ns c' k'))
  | [], p, c, k, A, x, y, z, hA, hc, hk, hp, _, _, ha => by
    refine ⟨[], c, k, x, y, z, rfl, (fun s hs => nomatch hs), by simpa using ha, hc, hk, ?_⟩
    rw [set_same hA]
    simp [enL, foGo]
  | w :: rest, p, c, k, A, x, y, z, hA, hc, hk, hp, hr, hn, ha => by
    have hlt : j < A.length := (List.getElem?_eq_some_iff.mp hA).1
    have hw := hr w List.mem_cons_self
    have hfl := flat_len p fun q hq => ⟨(hp q hq).1, (hp q hq).2.2⟩
    simp only [List.length_cons] at hn
    obtain ⟨g, c1, k1, z1, g1, g2, g3, g4, e⟩ := lb_ok (p := p) (w := w) (rest := rest) (z := z) hA hc hk hw.1 (fun q hq => ⟨(hp q hq).2.1, Nat.le_trans (hp q hq).2.2 (by decide)⟩) (by have := hw.2; omega) (by omega)
    have e1 : (p ++ [(g, w)]).length = p.length + 1 := by simp
    have e2 : (p ++ [(g, w)]).map (·.2) ++ rest = p.map (·.2) ++ w :: rest := by simp
    obtain ⟨q, c2, k2, x2, y2, z2, h1, h2, h3, h4, h5, h6⟩ := la_loop rest (p ++ [(g, w)]) c1 k1 (A.set j (stB ns c1 k1)) (some (.val (.int (p.length : Nat)))) (some (.val (ST w))) z1 (List.getElem?_set_self hlt) g3 g4
      (fun q hq => by
        rcases List.mem_append.mp hq with hq | hq
        · exact hp q hq
        · rw [List.mem_singleton.mp hq]; exact ⟨g1, hw⟩)
      (fun w' hw' => hr w' (List.mem_cons_of_mem _ hw')) (by rw [e1]; omega) (adj_snoc ha g2)
    refine ⟨(g, w) :: q, c2, k2, x2, y2, z2, by simp [h1], fun s hs => ?_, by simpa using h3, h4, h5, ?_⟩
    · rcases List.mem_cons.mp hs with rfl | hs
      · exact g1
      · exact h2 s hs
    · rw [e1, e2] at h6
      rw [List.set_set] at h6
      have e3 : p ++ (g, w) :: q = (p ++ [(g, w)]) ++ q := by simp
      rw [e3, ← h6]
      rw [List.map_cons, enL, foGo, if_pos trivial]
      have e4 : gtT 2 (gtCons (gtN 4) (gtCons (gtN 5) gtNil)) (.tup [.int (p.length : Nat), ST w]) (rla (.obj j) (.lst ((p.map (·.2) ++ w :: rest).map ST)) (flat p 0) (places 0 p) x y z) = some (rla (.obj j) (.lst ((p.map (·.2) ++ w :: rest).map ST)) (flat p 0) (places 0 p) (some (.val (.int (p.length : Nat)))) (some (.val (ST w))) z) := by
        simp [gtT, gtCons, gtN, gtNil]
      rw [e4]
      simp only [e]
theorem laid_ok (G : Gx) {ns : List Int} {j : Nat} {c k : Int} {A : Ar} {ws : List (List Nat)} (hA : A[j]? = some (stB ns c k)) (hc : 0 ≤ c) (hk : 0 ≤ k) (hw : ∀ w ∈ ws, WOk w) (hn : ws.length ≤ 30) :
    ∃ (s : List (Nat × List Nat)) (tl : Nat) (c' k' : Int), s.map (·.2) = ws ∧ (∀ q ∈ s, q.1 ≤ 3) ∧ tl ≤ 2 ∧ Adj s ∧ 0 ≤ c' ∧ 0 ≤ k' ∧
      F_l_laid G [.obj j, .lst (ws.map ST)] A = .ok (.val (.tup [ST (flat s tl), .lst (places 0 s ++ [.int (((flat s tl).length + 1 : Nat) : Int)])])) (A.set j (stB ns c' k')) := by
  have hlt : j < A.length := (List.getElem?_eq_some_iff.mp hA).1
  obtain ⟨s, c1, k1, x1, y1, z1, h1, h2, h3, h4, h5, h6⟩ := la_loop ws [] c k A none none none hA hc hk (fun q hq => nomatch hq) hw (by simpa using hn) (fun i a b h => by simp at h)
  simp only [List.map_nil, List.nil_append, List.length_nil] at h6 h3
  obtain ⟨d, c2, k2, g1, g2, g3, g4, e⟩ := next_step (m := 3) (ns := ns) (c := c1) (k := k1) (A := A.set j (stB ns c1 k1)) j (List.getElem?_set_self hlt) (by decide) (by decide) h4 h5
  obtain ⟨tl, rfl, htl⟩ : ∃ tl : Nat, d = tl ∧ tl < 3 := ⟨d.toNat, by omega, by omega⟩
  rw [List.set_set] at e
  refine ⟨s, tl, c2, k2, h1, h2, by omega, h3, g3, g4, ?_⟩
  have hfl := flat_len s fun q hq => ⟨h2 q hq, (hw q.2 (by rw [← h1]; exact List.mem_map_of_mem hq)).2⟩
  have hsl : s.length = ws.length := by rw [← h1]; simp
  have e3 := add_st (a := flat s 0) (b := List.replicate tl 32) (A := A.set j (stB ns c2 k2)) (by simp; omega)
  rw [← flat_add] at e3
  have e4 := len_ok (t := flat s tl) (A := A.set j (stB ns c2 k2)) (by rw [flat_add]; simp; omega)
  have s0 : Str.ofString "" = ⟨#[]⟩ := by decide +kernel
  have s1 : Str.ofString " " = ⟨#[32]⟩ := by decide +kernel
  have s2 : Str.ofString "  " = ⟨#[32, 32]⟩ := by decide +kernel
  have et : atI [Dt.str (Str.ofString ""), Dt.str (Str.ofString " "), Dt.str (Str.ofString "  ")] (tl : Nat) = some (ST (List.replicate tl 32)) := by
    have hd2 : tl = 0 ∨ tl = 1 ∨ tl = 2 := by omega
    rcases hd2 with rfl | rfl | rfl
    · rw [s0]; rfl
    · rw [s1]; rfl
    · rw [s2]; rfl
  show fnD 7 (B_l_laid G) _ A = _
  rw [s_fn]
  have ef : ∀ (r0 : Ev), r0 = rla (.obj j) (.lst (ws.map ST)) (flat [] 0) (places 0 []) none none none → sFor (mEn (mSrcN 1)) (gtT 2 (gtCons (gtN 4) (gtCons (gtN 5) gtNil))) (Blb (fnD 5 Bnext)) r0 A = .nx (rla (.obj j) (.lst (ws.map ST)) (flat s 0) (places 0 s) x1 y1 z1) (A.set j (stB ns c1 k1)) := by
    rintro r0 rfl
    rw [← h6]
    unfold sFor sThen mEn mSrcN
    simp [srcD, Src.pl]
  have hpl : (places 0 s).length + 1 ≤ 1000000 := by rw [places_length]; omega
  have eb : B_l_laid G [some (.val (.obj j)), some (.val (.lst (ws.map ST))), none, none, none, none, none] A = .rt (.val (.tup [ST (flat s tl), .lst (places 0 s ++ [.int (((flat s tl).length + 1 : Nat) : Int)])])) (A.set j (stB ns c2 k2)) := by
    show sSeq (sSet 2 (mSl (mC (.str "")))) (sSeq (sSet 3 (mLst mNil)) (sSeq (sFor (mEn (mSrcN 1)) (gtT 2 (gtCons (gtN 4) (gtCons (gtN 5) gtNil))) (Blb (fnD 5 Bnext))) (sSeq (sSet 2 (mSl (mBin dAdd (mVar 2) (mBin dIdx (mVal (mLst (mCons (mC (.str "")) (mCons (mC (.str " ")) (mCons (mC (.str "  ")) mNil))))) (mVal (mFn 2 (fnD 5 Bnext) (mCons (mVar 0) (mCons (mC (.int 3)) mNil)))))))) (sRet (mSl (mTup (mCons (mVar 2) (mCons (mVal (mBinF dCat (mPeek 3) (mVal (mLst (mCons (mBin dAdd (mCall dLen (mCons (mPeek 2) mNil)) (mC (.int 1))) mNil))))) mNil)))))))) _ A = _
    rw [seq_nx (r' := [some (.val (.obj j)), some (.val (.lst (ws.map ST))), some (.val (ST [])), none, none, none, none]) (A' := A) (by simp [s0]),
      seq_nx (r' := rla (.obj j) (.lst (ws.map ST)) (flat [] 0) (places 0 []) none none none) (A' := A) (by simp [flat, places]), seq_nx (ef _ rfl)]
    obtain ⟨bl, hbl⟩ : ∃ bl, bl = List.replicate tl 32 := ⟨_, rfl⟩
    rw [← hbl] at e3 et
    simp only [ST] at e3 e4 et
    simp [-dLen_str, -dAdd_str, e, et, e3, e4, dCat, hpl]
  show (match B_l_laid G [some (.val (.obj j)), some (.val (.lst (ws.map ST))), none, none, none, none, none] A with
    | .rt s A => Rs.ok s A
    | .nx _ A => .ok (.val .non) A
    | .er e _ A => .er e A
    | _ => .bad) = _
  rw [eb]
end K72

set_option Elab.async false
set_option linter.all false
set_option maxRecDepth 100000
set_option maxHeartbeats 1000000
namespace K72
open PySem PySem.Spec PyProof.Rows L2 Pp
/-! ### the words -/
def goodW : List (List Nat) := [[48], [51], [49, 50], [57, 57, 57, 57, 57, 57], [48, 48, 48, 51, 52, 53], [54, 55, 56], [124], [44], [124], [44]]
def noTok : Str := "no token begins here"
def many6 : Str := "a number has at most 6 digits"
def badW : List (List Nat × Str) := [([65], noTok), ([97], noTok), ([95], noTok), ([43], noTok), ([9], noTok), ([58], noTok), ([46], noTok), ([40], noTok), ([35], noTok), ([45], noTok), ([59], noTok), ([61], noTok), ([47], noTok),
  ([49, 48, 48, 48, 48, 48, 48], many6), ([48, 48, 48, 48, 48, 48, 49], many6), ([49, 50, 51, 52, 53, 54, 55, 56, 57], many6)]
theorem isD_iff (c : Nat) : isD c = decide (c ∈ [48, 49, 50, 51, 52, 53, 54, 55, 56, 57]) := by
  have e : (Str.ofString "0123456789").cps.toList = [48, 49, 50, 51, 52, 53, 54, 55, 56, 57] := by decide +kernel
  unfold isD
  rw [e]
theorem isS_iff (c : Nat) : isS c = decide (c ∈ [124, 44]) := by
  have e : (Str.ofString "|,").cps.toList = [124, 44] := by decide +kernel
  unfold isS
  rw [e]
theorem good_facts : ∀ w ∈ goodW, WOk w ∧ 10 ∉ w ∧ ((∃ c, w = [c] ∧ isS c = true) ∨ ((∀ c ∈ w, isD c = true) ∧ w.length ≤ 6 ∧ lastD w = true)) := by
  intro w hw
  simp only [goodW, List.mem_cons, List.not_mem_nil, or_false] at hw
  rcases hw with rfl | rfl | rfl | rfl | rfl | rfl | rfl | rfl | rfl | rfl
  all_goals refine ⟨⟨by simp, by simp⟩, by simp, ?_⟩
  all_goals first
    | exact .inl ⟨_, rfl, by rw [isS_iff]; decide⟩
    | exact .inr ⟨by simp [isD_iff], by simp, by simp [lastD, isD_iff]⟩
theorem bad_facts : ∀ p ∈ badW, WOk p.1 ∧ 10 ∉ p.1 ∧ ((∃ c, p.1 = [c] ∧ isS c = false ∧ isD c = false ∧ c ≠ 32 ∧ p.2 = noTok) ∨ ((∀ c ∈ p.1, isD c = true) ∧ 6 < p.1.length ∧ lastD p.1 = true ∧ p.2 = many6)) := by
  intro w hw
  simp only [badW, List.mem_cons, List.not_mem_nil, or_false] at hw
  rcases hw with rfl | rfl | rfl | rfl | rfl | rfl | rfl | rfl | rfl | rfl | rfl | rfl | rfl | rfl | rfl | rfl
  all_goals refine ⟨⟨by simp, by simp⟩, by simp, ?_⟩
  all_goals first
    | exact .inl ⟨_, rfl, by rw [isS_iff]; decide, by rw [isD_iff]; decide, by decide, rfl⟩
    | exact .inr ⟨by simp [isD_iff], by simp, by simp [lastD, isD_iff], rfl⟩
theorem flat_append (s u : List (Nat × List Nat)) (tl : Nat) : flat (s ++ u) tl = flat s 0 ++ flat u tl := by
  induction s with
  | nil => simp [flat]
  | cons p s ih => obtain ⟨g, w⟩ := p; simp [flat, ih]
theorem rest_cond {g : Nat} {w : List Nat} {u : List (Nat × List Nat)} {tl : Nat} (h : Adj ((g, w) :: u)) (hl : lastD w = true) (hu : ∀ q ∈ u, q.2 ≠ []) : ∀ c r, flat u tl = c :: r → isD c = false := by
  intro c r e
  have h32 : isD 32 = false := by rw [isD_iff]; decide
  cases u with
  | nil =>
    cases tl with
    | zero => simp [flat] at e
    | succ n => simp [flat, List.replicate_succ] at e; rw [← e.1]; exact h32
  | cons q u =>
    obtain ⟨g', w'⟩ := q
    cases g' with
    | succ n => simp [flat, List.replicate_succ] at e; rw [← e.1]; exact h32
    | zero =>
      have hw' := hu (0, w') List.mem_cons_self
      cases w' with
      | nil => exact absurd rfl hw'
      | cons d w' =>
        simp [flat] at e
        cases hd : isD c with
        | false => rfl
        | true =>
          have := h 0 (g, w) (0, d :: w') rfl rfl hl (by show isD d = true; rw [e.1]; exact hd)
          omega
theorem adj_tail {q : Nat × List Nat} {u : List (Nat × List Nat)} (h : Adj (q :: u)) : Adj u := fun i a b ha hb => h (i + 1) a b (by simpa using ha) (by simpa using hb)
theorem good_of {g : Nat} {w : List Nat} {u : List (Nat × List Nat)} {tl : Nat} (hw : w ∈ goodW) (h : Adj ((g, w) :: u)) (hu : ∀ q ∈ u, q.2 ≠ []) : Good w (flat u tl) := by
  obtain ⟨h1, _, h2 | ⟨h2, h3, h4⟩⟩ := good_facts w hw
  · exact .inl h2
  · exact .inr ⟨h1.1, h2, h3, rest_cond h h4 hu⟩
theorem bad_of {g : Nat} {p : List Nat × Str} {u : List (Nat × List Nat)} {tl : Nat} (hp : p ∈ badW) (h : Adj ((g, p.1) :: u)) (hu : ∀ q ∈ u, q.2 ≠ []) : Bad p.1 (flat u tl) p.2 := by
  obtain ⟨h1, _, ⟨c, h2, h3, h4, h5, h6⟩ | ⟨h2, h3, h4, h5⟩⟩ := bad_facts p hp
  · exact .inl ⟨c, h2, h3, h4, h5, h6⟩
  · exact .inr ⟨h3, h2, rest_cond h h4 hu, h5⟩
theorem good_all : ∀ (s u : List (Nat × List Nat)) (tl : Nat), (∀ q ∈ s, q.2 ∈ goodW) → (∀ q ∈ u, q.2 ≠ []) → Adj (s ++ u) → GoodAll s (flat u tl)
  | [], _, _, _, _, _ => trivial
  | (g, w) :: s, u, tl, h1, h2, h3 => by
    refine ⟨?_, good_all s u tl (fun q hq => h1 q (List.mem_cons_of_mem _ hq)) h2 (adj_tail h3)⟩
    rw [← flat_append]
    refine good_of (h1 (g, w) List.mem_cons_self) h3 fun q hq => ?_
    rcases List.mem_append.mp hq with hq | hq
    · exact (good_facts _ (h1 q (List.mem_cons_of_mem _ hq))).1.1
    · exact h2 q hq
theorem flat_no10 : ∀ (s : List (Nat × List Nat)) (tl : Nat), (∀ q ∈ s, 10 ∉ q.2) → 10 ∉ flat s tl
  | [], tl, _ => by simp [flat]
  | (g, w) :: s, tl, h => by
    have h1 := h (g, w) List.mem_cons_self
    have h2 := flat_no10 s tl fun q hq => h q (List.mem_cons_of_mem _ hq)
    simp only [flat, List.mem_append, not_or]
    exact ⟨by simp, h1, h2⟩
/-! ### what is due -/
theorem sign_in {w : List Nat} (hw : w ∈ goodW) (A : Ar) : dInS (ST w) (.str "|,") A = .ok (isS (w.headD 0)) A := by
  show Rs.ok (!(Builtin.Str.occurrences (Str.ofString "|,") ⟨w.toArray⟩ 0 (Str.ofString "|,").length 1).isEmpty) A = _
  congr 1
  simp only [goodW, List.mem_cons, List.not_mem_nil, or_false] at hw
  rw [isS_iff]
  rcases hw with rfl | rfl | rfl | rfl | rfl | rfl | rfl | rfl | rfl | rfl <;> decide +kernel
/-- the due token of a pair -/
def dueF (P : List Dt) (d : Dt) : Dt := match d with
  | .tup [.int i, .str z] => .tup [.str (if isS (z.cps.toList.headD 0) then "sign" else "number"), .str z, (atI P i).getD .non]
  | _ => .non
theorem due_toks (P : List Dt) : ∀ (s : List (Nat × List Nat)) (n a : Nat), (∀ i, i < s.length → P[n + i]? = (places a s)[i]?) → n + s.length ≤ P.length → (enL n ((s.map (·.2)).map ST)).map (dueF P) = toks a s
  | [], _, _, _, _ => rfl
  | (g, w) :: s, n, a, h, hl => by
    have ih := due_toks P s (n + 1) (a + g + w.length) (fun i hi => by
      have := h (i + 1) (by simp; omega)
      rw [show n + 1 + i = n + (i + 1) by omega, this]
      simp [places]) (by simp at hl; omega)
    have h0 := h 0 (by simp)
    simp only [List.length_cons] at hl
    simp only [List.map_cons, enL, toks, ih]
    congr 1
    have e : atI P (n : Nat) = some (.int ((a + g + 1 : Nat) : Int)) := by
      rw [atI_pos (by omega) (by omega)]
      simpa [places] using h0
    unfold dueF tok
    simp [e]
end K72

set_option Elab.async false
set_option linter.all false
set_option maxRecDepth 100000
set_option maxHeartbeats 1000000
namespace K72
open PySem PySem.Spec PyProof.Rows L2 Pp
theorem stream_ok (G : Gx) (l : List Dt) (A : Ar) : F_l_stream G [.fz l] A = .ok (.lst [.lst l, .int 0, .int 0]) A := by
  show fnD 1 (B_l_stream G) _ A = _
  rw [s_fn]
  unfold B_l_stream
  simp [dList]
theorem next_is (G : Gx) : F_l_next G = fnD 5 Bnext := rfl
theorem pick_is (G : Gx) : F_l_pick G = fnD 2 (Bpick (fnD 5 Bnext)) := rfl
theorem equal_is (G : Gx) : ∀ n, F_l_equal G n = Fequal n
  | 0 => rfl
  | n + 1 => by
    show fnD 3 (B_l_equal G (F_l_equal G n)) = fnD 3 (Bequal (Fequal n))
    rw [equal_is G n]
    rfl
theorem rows_good : [Dt.str (Str.ofString "0"), .str (Str.ofString "3"), .str (Str.ofString "12"), .str (Str.ofString "999999"), .str (Str.ofString "000345"), .str (Str.ofString "678"), .str (Str.ofString "|"), .str (Str.ofString ","), .str (Str.ofString "|"), .str (Str.ofString ",")] = goodW.map ST := by
  have a1 : Str.ofString "0" = ⟨#[48]⟩ := by decide +kernel
  have a2 : Str.ofString "3" = ⟨#[51]⟩ := by decide +kernel
  have a3 : Str.ofString "12" = ⟨#[49, 50]⟩ := by decide +kernel
  have a4 : Str.ofString "999999" = ⟨#[57, 57, 57, 57, 57, 57]⟩ := by decide +kernel
  have a5 : Str.ofString "000345" = ⟨#[48, 48, 48, 51, 52, 53]⟩ := by decide +kernel
  have a6 : Str.ofString "678" = ⟨#[54, 55, 56]⟩ := by decide +kernel
  have a7 : Str.ofString "|" = ⟨#[124]⟩ := by decide +kernel
  have a8 : Str.ofString "," = ⟨#[44]⟩ := by decide +kernel
  rw [a1, a2, a3, a4, a5, a6, a7, a8]
  rfl
noncomputable abbrev Ewd (G : Gx) : DM Dt := (mVal (mFn 2 (F_l_pick G) (mCons (mVar 1) (mCons (mVal (mLst (mCons (mC (.str "0")) (mCons (mC (.str "3")) (mCons (mC (.str "12")) (mCons (mC (.str "999999")) (mCons (mC (.str "000345")) (mCons (mC (.str "678")) (mCons (mC (.str "|")) (mCons (mC (.str ",")) (mCons (mC (.str "|")) (mCons (mC (.str ",")) mNil)))))))))))) mNil))))
theorem wd_ok (G : Gx) {ns : List Int} {c k : Int} {A : Ar} {r : Ev} (hr : r[1]? = some (some (.val (.obj 0)))) (hA : A[0]? = some (stB ns c k)) (hc : 0 ≤ c) (hk : 0 ≤ k) :
    ∃ (w : List Nat) (c' k' : Int), w ∈ goodW ∧ 0 ≤ c' ∧ 0 ≤ k' ∧ Ewd G r A = .ok (ST w) (A.set 0 (stB ns c' k')) := by
  obtain ⟨d, c', k', h1, h2, h3, e⟩ := pick_step (rows := goodW.map ST) 0 hA (by decide) (by decide) hc hk
  obtain ⟨w, hw, rfl⟩ := List.mem_map.mp h1
  refine ⟨w, c', k', hw, h2, h3, ?_⟩
  rw [← pick_is G, ← rows_good] at e
  simp [hr, e]
theorem lc_draw {e : DM Dt} {rw : Ev} {ns : List Int} (he : ∀ (d : Dt) (c k : Int) (A : Ar), A[0]? = some (stB ns c k) → 0 ≤ c → 0 ≤ k → ∃ (w : List Nat) (c' k' : Int), w ∈ goodW ∧ 0 ≤ c' ∧ 0 ≤ k' ∧ e (rw.set 13 (some (.val d))) A = .ok (ST w) (A.set 0 (stB ns c' k'))) :
    ∀ (ds acc : List Dt) (c k : Int) (A : Ar), A[0]? = some (stB ns c k) → 0 ≤ c → 0 ≤ k → ∃ (ws : List (List Nat)) (c' k' : Int), ws.length = ds.length ∧ (∀ w ∈ ws, w ∈ goodW) ∧ 0 ≤ c' ∧ 0 ≤ k' ∧
      lcGo (fun _ => True) (gtN 13) mYes e rw ds acc A = .ok (.lst (acc ++ ws.map ST)) (A.set 0 (stB ns c' k'))
  | [], acc, c, k, A, hA, hc, hk => ⟨[], c, k, rfl, (fun w h => nomatch h), hc, hk, by rw [set_same hA]; simp [lcGo]⟩
  | d :: ds, acc, c, k, A, hA, hc, hk => by
    obtain ⟨w, c1, k1, h1, h2, h3, e1⟩ := he d c k A hA hc hk
    have hlt : 0 < A.length := (List.getElem?_eq_some_iff.mp hA).1
    obtain ⟨ws, c2, k2, g1, g2, g3, g4, e2⟩ := lc_draw he ds (acc ++ [ST w]) c1 k1 (A.set 0 (stB ns c1 k1)) (List.getElem?_set_self hlt) h2 h3
    refine ⟨w :: ws, c2, k2, by simp [g1], fun w' hw' => ?_, g3, g4, ?_⟩
    · rcases List.mem_cons.mp hw' with rfl | h
      · exact h1
      · exact g2 _ h
    · unfold lcGo
      rw [if_pos trivial]
      simp only [gtN, mYes, e1, e2, List.set_set]
      simp
/-- the words of the text -/
theorem words_ok (G : Gx) {ns : List Int} {c k : Int} {A : Ar} {r : Ev} (hr : r[1]? = some (some (.val (.obj 0)))) (h13 : r[13]? = some none) (hA : A[0]? = some (stB ns c k)) (hc : 0 ≤ c) (hk : 0 ≤ k) :
    ∃ (ws : List (List Nat)) (c' k' : Int), ws.length ≤ 20 ∧ (∀ w ∈ ws, w ∈ goodW) ∧ 0 ≤ c' ∧ 0 ≤ k' ∧
      mLc (mRg1 (mCons (mVal (mFn 2 (F_l_next G) (mCons (mVar 1) (mCons (mC (.int 21)) mNil)))) mNil)) (gtN 13) mYes (Ewd G) [13] r A = .ok (.lst (ws.map ST)) (A.set 0 (stB ns c' k')) := by
  have hlt : 0 < A.length := (List.getElem?_eq_some_iff.mp hA).1
  obtain ⟨d, c1, k1, g1, g2, g3, g4, e⟩ := next_step (m := 21) 0 hA (by decide) (by decide) hc hk
  obtain ⟨n, rfl, hn⟩ : ∃ n : Nat, d = n ∧ n < 21 := ⟨d.toNat, by omega, by omega⟩
  rw [← next_is G] at e
  have hm : mRg1 (mCons (mVal (mFn 2 (F_l_next G) (mCons (mVar 1) (mCons (mC (.int 21)) mNil)))) mNil) r A = .ok (.pl (rgL 0 n)) (A.set 0 (stB ns c1 k1)) := s_rg1 (by simp [hr, e]) (by omega)
  have h13' : (wipR r [13])[1]? = some (some (.val (.obj 0))) := by rw [wipR_out (by simp)]; exact hr
  obtain ⟨ws, c2, k2, q1, q2, q3, q4, e2⟩ := lc_draw (e := Ewd G) (rw := wipR r [13]) (ns := ns) (fun d c k A hA hc hk => wd_ok G (by rw [List.getElem?_set_ne (by decide)]; exact h13') hA hc hk) (rgL 0 n) [] c1 k1 (A.set 0 (stB ns c1 k1)) (List.getElem?_set_self hlt) g3 g4
  refine ⟨ws, c2, k2, by rw [q1, rgL_length]; omega, q2, q3, q4, ?_⟩
  unfold mLc
  rw [hm, bind_ok, if_pos ⟨by simp [Src.pl, rgL_length]; omega, by simp [Src.pl], fun i hi s hs => by
    have : i = 13 := by simpa using hi
    subst this
    rw [h13] at hs
    cases hs⟩]
  show lcGo (fun _ => True) (gtN 13) mYes (Ewd G) (wipR r [13]) (rgL 0 n) [] _ = _
  rw [e2, List.set_set]
  simp
/-! ### the end of a good text -/
abbrev RG (l W : List Dt) (t : List Nat) (P : List Dt) (x9 x10 x11 x12 : Option Sl) : Ev := [some (.val (.fz l)), some (.val (.obj 0)), some (.val (.lst W)), some (.val .non), none, none, none, some (.val (ST t)), some (.val (.lst P)), x9, x10, x11, x12, none, none, none, none]
noncomputable abbrev Mdue : DM Sl := (mLc (mEn (mSrcN 2)) (gtT 2 (gtCons (gtN 15) (gtCons (gtN 6) gtNil))) mYes (mTup (mCons (mIf (mCmp dInS (mVar 6) (mC (.str "|,"))) (mC (.str "sign")) (mC (.str "number"))) (mCons (mVar 6) (mCons (mBin dIdx (mPeek 8) (mVar 15)) mNil)))) [15, 6])
theorem due_ok {l : List Dt} {s : List (Nat × List Nat)} {t : List Nat} {P : List Dt} {A : Ar} (hs : ∀ q ∈ s, q.2 ∈ goodW) (hl : s.length ≤ 900) (hP : ∀ i, i < s.length → P[0 + i]? = (places 0 s)[i]?) (hPl : s.length ≤ P.length) :
    Mdue (RG l ((s.map (·.2)).map ST) t P none none none none) A = .ok (.lst (toks 0 s)) A := by
  rw [← due_toks P s 0 0 hP (by omega)]
  have hm : mEn (mSrcN 2) (RG l ((s.map (·.2)).map ST) t P none none none none) A = .ok ⟨enL 0 ((s.map (·.2)).map ST), fun _ => True, []⟩ A := by
    unfold mEn mSrcN
    simp [srcD, Src.pl]
  refine lc_pure (A' := A) (dueF P) hm ⟨?_, (fun p hp => nomatch hp), fun i hi s hs => ?_⟩ trivial fun d hd => ?_
  · show (enL 0 _).length ≤ _
    rw [enL_length]
    simp
    omega
  · have hi' : i = 15 ∨ i = 6 := by simpa using hi
    rcases hi' with rfl | rfl <;> simp at hs
  · obtain ⟨i, hi⟩ := List.getElem?_of_mem hd
    obtain ⟨d', e1, rfl⟩ := enL_get hi
    rw [List.getElem?_map] at e1
    cases e2 : (s.map (·.2))[i]? with
    | none => rw [e2] at e1; cases e1
    | some w =>
      rw [e2] at e1
      cases e1
      have hw : w ∈ goodW := by
        obtain ⟨q, hq, rfl⟩ := List.mem_map.mp (List.mem_of_getElem? e2)
        exact hs q hq
      have hil : i < s.length := by
        have := (List.getElem?_eq_some_iff.mp e2).1
        simpa using this
      obtain ⟨x, hx⟩ : ∃ x, P[i]? = some x := ⟨P[i]'(by omega), List.getElem?_eq_getElem _⟩
      have e3 : atI P (i : Nat) = some x := by
        rw [atI_pos (by omega) (by omega)]
        simpa using hx
      have e4 := sign_in hw A
      refine ⟨(RG l ((s.map (·.2)).map ST) t P none none none none).set 15 (some (.val (.int (i : Nat)))) |>.set 6 (some (.val (ST w))), by simp [gtT, gtCons, gtN, gtNil, wipR], rfl, ?_⟩
      simp only [ST] at e4
      generalize (s.map (·.2)).map ST = L at *
      cases hh : isS (w.headD 0) with
      | true =>
        rw [hh] at e4
        rw [List.headD_eq_head?_getD] at hh
        simp [e4, e3, dueF, hh]

      | false =>
        rw [hh] at e4
        rw [List.headD_eq_head?_getD] at hh
        simp [e4, e3, dueF, hh]

theorem eq_toks {s : List (Nat × List Nat)} {a n : Nat} (m : Nat) : ∀ d ∈ toks a s ++ [endTok n], EqD (m + 2) d := by
  intro d hd
  have tk : ∀ (w : List Nat) (a : Nat), EqD (m + 2) (tok w a) := fun w a => .tup (by simp) fun d hd => by
    simp only [List.mem_cons, List.not_mem_nil, or_false] at hd
    rcases hd with rfl | rfl | rfl
    · exact .str
    · exact .str
    · exact .int
  rcases List.mem_append.mp hd with hd | hd
  · have key : ∀ (s : List (Nat × List Nat)) (a : Nat), d ∈ toks a s → EqD (m + 2) d := by
      intro s
      induction s with
      | nil => intro a h; cases h
      | cons q s ih =>
        obtain ⟨g, w⟩ := q
        intro a h
        rcases List.mem_cons.mp h with rfl | h
        · exact tk w _
        · exact ih _ h
    exact key s a hd
  · rw [List.mem_singleton.mp hd]
    exact .tup (by simp) fun d hd => by
      simp only [List.mem_cons, List.not_mem_nil, or_false] at hd
      rcases hd with rfl | rfl | rfl
      · exact .str
      · exact .str
      · exact .int
/-- blanks ahead: scanned all the same -/
theorem told_shift (G : Gx) {s : List (Nat × List Nat)} {tl n : Nat} {A : Ar} (hz : n + (flat s tl).length ≤ 400) (hn : 10 ∉ flat s tl) (hs : GoodAll s (List.replicate tl 32)) (hl : s.length ≤ 900) :
    ∃ l, F_scan G [ST (List.replicate n 32 ++ flat s tl)] A = .ok (.lst l) A := by
  cases s with
  | nil =>
    have e : List.replicate n 32 ++ flat [] tl = flat [] (n + tl) := by simp [flat]
    rw [e]
    refine ⟨_, scan_good G (s := []) (tl := n + tl) ?_ ?_ trivial (by simp)⟩
    · rw [← e]; simp; simpa using hz
    · simp [flat]
  | cons q s =>
    obtain ⟨g, w⟩ := q
    have e : List.replicate n 32 ++ flat ((g, w) :: s) tl = flat ((n + g, w) :: s) tl := by
      simp only [flat]
      rw [← List.append_assoc, List.replicate_append_replicate]
    rw [e]
    refine ⟨_, scan_good G (s := (n + g, w) :: s) (tl := tl) ?_ ?_ hs hl⟩
    · rw [← e]; simp; simpa using hz
    · rw [← e]; simp only [List.mem_append, not_or]; exact ⟨by simp, hn⟩
section
variable {G : Gx} (F : Fx fns fas exf G.K G.mg)
include F
/-- what is no text -/
theorem told_six {t : List Nat} (hz : t.length ≤ 400) {A : Ar} : ∀ d ∈ [Dt.non, .lst [ST t], ST (t ++ [10]), ST [10], ST (List.replicate (400 - t.length) 32 ++ t ++ [32]), .int 7], F_l_told G [d] A = .ok (.val (.str "text")) A := by
  intro d hd
  refine told_bad F (scan_err G ?_)
  simp only [List.mem_cons, List.not_mem_nil, or_false] at hd
  rcases hd with rfl | rfl | rfl | rfl | rfl | rfl
  · exact check_other G (by simp)
  · exact check_other G (by simp)
  · exact check_nl G (by simp; omega) (by simp)
  · exact check_nl G (by simp) (by simp)
  · exact check_long G (by simp; omega) (by simp; omega)
  · exact check_other G (by simp)
abbrev Ebad : DM (List Dt) := (mCons (mVar 1) (mCons (mVal (mLst (mCons (mC .non) (mCons (mVal (mLst (mCons (mVar 7) mNil))) (mCons (mBin dAdd (mVar 7) (mC (.str "\n"))) (mCons (mC (.str "\n")) (mCons (mBin dAdd (mBin dAdd (mVar 11) (mVar 7)) (mC (.str " "))) (mCons (mC (.int 7)) mNil)))))))) mNil))
omit F in
theorem bad_args {l W : List Dt} {t : List Nat} {P : List Dt} {x9 x10 x12 : Option Sl} {A : Ar} (hz : t.length ≤ 400) :
    Ebad (RG l W t P x9 x10 (some (.val (ST (List.replicate (400 - t.length) 32)))) x12) A = .ok [.obj 0, .lst [Dt.non, .lst [ST t], ST (t ++ [10]), ST [10], ST (List.replicate (400 - t.length) 32 ++ t ++ [32]), .int 7]] A := by
  have a1 : Str.ofString "\n" = ⟨#[10]⟩ := by decide +kernel
  have a2 : Str.ofString " " = ⟨#[32]⟩ := by decide +kernel
  have e1 := add_st (a := t) (b := [10]) (A := A) (by simp; omega)
  have e2 := add_st (a := List.replicate (400 - t.length) 32) (b := t) (A := A) (by simp; omega)
  have e3 := add_st (a := List.replicate (400 - t.length) 32 ++ t) (b := [32]) (A := A) (by simp; omega)
  obtain ⟨bl, hbl⟩ : ∃ bl, bl = List.replicate (400 - t.length) 32 := ⟨_, rfl⟩
  rw [← hbl] at e2 e3 ⊢
  simp only [ST] at e1 e2 e3
  simp [-dAdd_str, -List.append_assoc, a1, a2, e1, e2, e3]
/-- the rest of the law behind the laid text, nothing spoilt -/
noncomputable abbrev Bend (G : Gx) : DS := (sSeq (sIf (mNotN (mVar 3)) (sRet (mFn 2 (F_l_equal G 4) (mCons (mVal (mFn 1 (F_l_told G) (mCons (mVar 7) mNil))) (mCons (mTup (mCons (mBin dIdx (mPeek 8) (mVar 5)) (mCons (mVar 3) mNil))) mNil)))) sSkip) (sSeq (sSet 9 (mBinF dCat (mVal Mdue) (mVal (mLst (mCons (mTup (mCons (mC (.str "end")) (mCons (mC (.str "")) (mCons (mBin dIdx (mPeek 8) (mUn dNeg (mC (.int 1)))) mNil)))) mNil))))) (sSeq (sKeep 9) (sSeq (sSet 10 (mFn 1 (F_l_told G) (mCons (mVar 7) mNil))) (sSeq (sBox 10) (sSeq (sIf (mNotB (mTru (mVal (mFn 2 (F_l_equal G 4) (mCons (mVar 10) (mCons (mVar 9) mNil)))))) (sRet (mSl (mC (.bl false)))) sSkip) (sSeq (sMut (mRfN 10) (mCons (mC .non) mNil) fApp) (sSeq (sSet 11 (mSl (mBin dMulC (mC (.str " ")) (mBin dSub (mC (.int 400)) (mCall dLen (mCons (mPeek 7) mNil)))))) (sSeq (sSet 12 (mFn 2 (F_l_pick G) Ebad)) (sRet (mSl (mAndV (mVal (mFn 2 (F_l_equal G 4) (mCons (mVal (mFn 1 (F_l_told G) (mCons (mVar 7) mNil))) (mCons (mVar 9) mNil)))) (mAndV (mOfB (mCmp dEq (mVal (mFn 1 (F_l_told G) (mCons (mVar 12) mNil))) (mC (.str "text")))) (mUn (dIsi "list") (mVal (mFn 1 (F_l_told G) (mCons (mBin dAdd (mVar 11) (mVar 7)) mNil)))))))))))))))))
theorem end_good {ns : List Int} {c k : Int} {s : List (Nat × List Nat)} {tl : Nat} (hc : 0 ≤ c) (hk : 0 ≤ k) (hs : ∀ q ∈ s, q.2 ∈ goodW) (h3 : ∀ q ∈ s, q.1 ≤ 3) (htl : tl ≤ 2) (ha : Adj s) (hl : s.length ≤ 20) :
    ∃ A', Bend G (RG (ns.map .int) ((s.map (·.2)).map ST) (flat s tl) (places 0 s ++ [.int (((flat s tl).length + 1 : Nat) : Int)]) none none none none) [stB ns c k] = .rt (.val (.bl true)) A' := by
  have hfl := flat_len s fun q hq => ⟨h3 q hq, (good_facts _ (hs q hq)).1.2⟩
  have hz : (flat s tl).length ≤ 400 := by rw [flat_add]; simp; omega
  have hn : 10 ∉ flat s tl := flat_no10 s tl fun q hq => (good_facts _ (hs q hq)).2.1
  have hg : GoodAll s (List.replicate tl 32) := by
    have := good_all s [] tl hs (fun q hq => nomatch hq) (by simpa using ha)
    simpa [flat] using this
  obtain ⟨P, hP⟩ : ∃ P, P = places 0 s ++ [Dt.int (((flat s tl).length + 1 : Nat) : Int)] := ⟨_, rfl⟩
  have hPl : P.length = s.length + 1 := by rw [hP]; simp [places_length]
  have hPi : ∀ i, i < s.length → P[0 + i]? = (places 0 s)[i]? := fun i hi => by
    rw [hP, Nat.zero_add, List.getElem?_append_left (by rw [places_length]; exact hi)]
  rw [← hP]
  have e1 := due_ok (l := ns.map .int) (t := flat s tl) (P := P) (A := [stB ns c k]) hs (by omega) hPi (by omega)
  have e2 : atI P (-1) = some (.int (((flat s tl).length + 1 : Nat) : Int)) := by rw [hP]; exact atI_last
  have sc := scan_good G (A := [stB ns c k]) hz hn hg (by omega)
  have td := told_list sc
  obtain ⟨T, hT⟩ : ∃ T, T = toks 0 s ++ [endTok (flat s tl).length] := ⟨_, rfl⟩
  have hTl : T.length ≤ 1000 := by rw [hT]; simp [toks_length]; omega
  have hTe : ∀ m, ∀ d ∈ T, EqD (m + 2) d := fun m => by rw [hT]; exact eq_toks m
  rw [← hT] at td sc
  have hcat : dCat (.lst (toks 0 s)) (.lst [endTok (flat s tl).length]) [stB ns c k] = .ok (.lst T) [stB ns c k] := by
    show (if (toks 0 s).length + [endTok (flat s tl).length].length ≤ 1000000 then Rs.ok (Sl.lst (toks 0 s ++ [endTok (flat s tl).length])) _ else Rs.bad) = _
    rw [if_pos (by simp [toks_length]; omega), ← hT]
  -- the due tokens
  have s1 : (sSet 9 (mBinF dCat (mVal Mdue) (mVal (mLst (mCons (mTup (mCons (mC (.str "end")) (mCons (mC (.str "")) (mCons (mBin dIdx (mPeek 8) (mUn dNeg (mC (.int 1)))) mNil)))) mNil))))) (RG (ns.map .int) ((s.map (·.2)).map ST) (flat s tl) P none none none none) [stB ns c k] = .nx (RG (ns.map .int) ((s.map (·.2)).map ST) (flat s tl) P (some (.lst T)) none none none) [stB ns c k] := by
    unfold endTok at hcat
    generalize hM : Mdue = M at *
    generalize (s.map (·.2)).map ST = L at *
    generalize Dt.int ((((flat s tl).length + 1 : Nat) : Int)) = en at *
    simp [e1, e2, hcat]
  have hb1 : ([stB ns c k] ++ [Ob.box T])[1]? = some (.box T) := rfl
  have q1 : Fequal 4 [.obj 1, .lst T] [stB ns c k, .box T] = .ok (.val (.bl true)) [stB ns c k, .box T] := eq_box (n := 3) (j := 1) rfl (by omega) (hTe 1)
  have q2 : ∀ A, Fequal 4 [.lst T, .lst T] A = .ok (.val (.bl true)) A := fun A => eq_refl 4 _ (.lst (by omega) (hTe 1))
  generalize ht : flat s tl = t at *
  obtain ⟨bl, hbl⟩ : ∃ bl, bl = List.replicate (400 - t.length) 32 := ⟨_, rfl⟩
  obtain ⟨d, c1, k1, d1, d2, d3, d4⟩ := pick_step (ns := ns) (c := c) (k := k) (A := [stB ns c k, .box (T ++ [.non])]) (rows := [Dt.non, .lst [ST t], ST (t ++ [10]), ST [10], ST (List.replicate (400 - t.length) 32 ++ t ++ [32]), .int 7]) 0 rfl (by simp) (by simp) hc hk
  have d4' : F_l_pick G [.obj 0, .lst [Dt.non, .lst [ST t], ST (t ++ [10]), ST [10], ST (List.replicate (400 - t.length) 32 ++ t ++ [32]), .int 7]] [stB ns c k, .box (T ++ [.non])] = .ok (.val d) [stB ns c1 k1, .box (T ++ [.non])] := d4
  have td2 := told_six F hz (A := [stB ns c1 k1, .box (T ++ [.non])]) d d1
  have sc3 := scan_good G (A := [stB ns c1 k1, .box (T ++ [.non])]) (s := s) (tl := tl) (by rw [ht]; exact hz) (by rw [ht]; exact hn) hg (by omega)
  rw [ht, ← hT] at sc3
  have td3 := told_list sc3
  obtain ⟨l5, sc5⟩ := told_shift G (A := [stB ns c1 k1, .box (T ++ [.non])]) (s := s) (tl := tl) (n := 400 - t.length) (by rw [ht]; omega) (by rw [ht]; exact hn) hg (by omega)
  rw [ht] at sc5
  have td5 := told_list sc5
  have ba := bad_args (l := ns.map .int) (W := (s.map (·.2)).map ST) (t := t) (P := P) (x9 := some (.val (.lst T))) (x10 := some (.val (.obj 1))) (x12 := none) (A := [stB ns c k, .box (T ++ [.non])]) hz
  have e7 := len_ok (t := t) (A := [stB ns c k, .box (T ++ [.non])]) (by omega)
  have e8 := add_st (a := List.replicate (400 - t.length) 32) (b := t) (A := [stB ns c1 k1, .box (T ++ [.non])]) (by simp; omega)
  have a2 : Str.ofString " " = ⟨#[32]⟩ := by decide +kernel
  have e9 : dMulC (.str (Str.ofString " ")) (.int (400 - (t.length : Nat))) [stB ns c k, .box (T ++ [.non])] = .ok (ST bl) [stB ns c k, .box (T ++ [.non])] := by
    rw [a2]
    show (if -(2 ^ 20) ≤ (400 - (t.length : Nat) : Int) ∧ (400 - (t.length : Nat) : Int) < 2 ^ 20 then Rs.ok (Dt.str ⟨(List.replicate (400 - (t.length : Nat) : Int).toNat 32).toArray⟩) _ else Rs.bad) = _
    have hn2 : (400 - (t.length : Nat) : Int).toNat = 400 - t.length := by omega
    rw [if_pos (by omega), hbl, hn2]
  rw [← hbl] at e8 td5 ba d4'
  generalize hR : ([Dt.non, .lst [ST t], ST (t ++ [10]), ST [10], ST (bl ++ t ++ [32]), .int 7] : List Dt) = R6 at *
  refine ⟨[stB ns c1 k1, .box (T ++ [.non])], ?_⟩
  unfold Bend
  rw [seq_nx (r' := RG (ns.map .int) ((s.map (·.2)).map ST) t P none none none none) (A' := [stB ns c k]) (by simp), seq_nx s1,
    seq_nx (r' := RG (ns.map .int) ((s.map (·.2)).map ST) t P (some (.val (.lst T))) none none none) (A' := [stB ns c k]) (by simp),
    seq_nx (r' := RG (ns.map .int) ((s.map (·.2)).map ST) t P (some (.val (.lst T))) (some (.lst T)) none none) (A' := [stB ns c k]) (by simp [td]),
    seq_nx (r' := RG (ns.map .int) ((s.map (·.2)).map ST) t P (some (.val (.lst T))) (some (.val (.obj 1))) none none) (A' := [stB ns c k, .box T]) (by simp),
    seq_nx (r' := RG (ns.map .int) ((s.map (·.2)).map ST) t P (some (.val (.lst T))) (some (.val (.obj 1))) none none) (A' := [stB ns c k, .box T]) (by simp [equal_is, q1]),
    seq_nx (r' := RG (ns.map .int) ((s.map (·.2)).map ST) t P (some (.val (.lst T))) (some (.val (.obj 1))) none none) (A' := [stB ns c k, .box (T ++ [.non])]) (by
      have : T.length < 1000000 := by omega
      simp [fApp, this]),
    seq_nx (r' := RG (ns.map .int) ((s.map (·.2)).map ST) t P (some (.val (.lst T))) (some (.val (.obj 1))) (some (.val (ST bl))) none) (A' := [stB ns c k, .box (T ++ [.non])]) (by simp [-dLen_str, e7, e9]),
    seq_nx (r' := RG (ns.map .int) ((s.map (·.2)).map ST) t P (some (.val (.lst T))) (some (.val (.obj 1))) (some (.val (ST bl))) (some (.val d))) (A' := [stB ns c1 k1, .box (T ++ [.non])]) (by
      rw [s_set, s_mFn, ba]
      simp [d4'])]
  simp [-dAdd_str, equal_is, td3, q2, td2, td5, e8]
end
end K72

set_option Elab.async false
set_option linter.all false
set_option maxRecDepth 100000
set_option maxHeartbeats 1000000
namespace K72
open PySem PySem.Spec PyProof.Rows L2 Pp
abbrev RB (l : List Dt) (x2 x3 x4 x5 x6 x7 x8 : Option Sl) : Ev := [some (.val (.fz l)), some (.val (.obj 0)), x2, x3, x4, x5, x6, x7, x8, none, none, none, none, none, none, none, none]
theorem lit_comp {m : DM Src} {L : List Dt} {r : Ev} {A : Ar} {i : Nat} {w : Str} (h : m r A = .ok (.pl L) A) (hL : L.length ≤ 1000) (hi : r[i]? = some none) :
    mLc m (gtN i) mYes (mTup (mCons (mVar i) (mCons (mC (.str w)) mNil))) [i] r A = .ok (.lst (L.map fun d => .tup [d, .str w])) A := by
  have hlt : i < r.length := (List.getElem?_eq_some_iff.mp hi).1
  refine lc_pure (A' := A) (s := .pl L) (fun d => .tup [d, .str w]) h ⟨by simp [Src.pl]; omega, by simp [Src.pl], fun j hj s hs => ?_⟩ trivial fun d hd => ?_
  · have : j = i := by simpa using hj
    subst this
    rw [hi] at hs
    cases hs
  · refine ⟨(wipR r [i]).set i (some (.val d)), rfl, rfl, ?_⟩
    have e : ((wipR r [i]).set i (some (Sl.val d)))[i]? = some (some (.val d)) := List.getElem?_set_self (by rw [wipR_length]; exact hlt)
    simp [e]
def strangeD : List Dt := badW.map fun p => .tup [ST p.1, .str p.2]
def L13 : List Dt := [.str (Str.ofString "A"), .str (Str.ofString "a"), .str (Str.ofString "_"), .str (Str.ofString "+"), .str (Str.ofString "\t"), .str (Str.ofString ":"), .str (Str.ofString "."), .str (Str.ofString "("), .str (Str.ofString "#"), .str (Str.ofString "-"), .str (Str.ofString ";"), .str (Str.ofString "="), .str (Str.ofString "/")]
def L3 : List Dt := [.str (Str.ofString "1000000"), .str (Str.ofString "0000001"), .str (Str.ofString "123456789")]
theorem strange_is : (L13.map fun d => Dt.tup [d, .str noTok]) ++ (L3.map fun d => Dt.tup [d, .str many6]) = strangeD := by
  have a1 : Str.ofString "A" = ⟨#[65]⟩ := by decide +kernel
  have a2 : Str.ofString "a" = ⟨#[97]⟩ := by decide +kernel
  have a3 : Str.ofString "_" = ⟨#[95]⟩ := by decide +kernel
  have a4 : Str.ofString "+" = ⟨#[43]⟩ := by decide +kernel
  have a5 : Str.ofString "\t" = ⟨#[9]⟩ := by decide +kernel
  have a6 : Str.ofString ":" = ⟨#[58]⟩ := by decide +kernel
  have a7 : Str.ofString "." = ⟨#[46]⟩ := by decide +kernel
  have a8 : Str.ofString "(" = ⟨#[40]⟩ := by decide +kernel
  have a9 : Str.ofString "#" = ⟨#[35]⟩ := by decide +kernel
  have a10 : Str.ofString "-" = ⟨#[45]⟩ := by decide +kernel
  have a11 : Str.ofString ";" = ⟨#[59]⟩ := by decide +kernel
  have a12 : Str.ofString "=" = ⟨#[61]⟩ := by decide +kernel
  have a13 : Str.ofString "/" = ⟨#[47]⟩ := by decide +kernel
  have b1 : Str.ofString "1000000" = ⟨#[49, 48, 48, 48, 48, 48, 48]⟩ := by decide +kernel
  have b2 : Str.ofString "0000001" = ⟨#[48, 48, 48, 48, 48, 48, 49]⟩ := by decide +kernel
  have b3 : Str.ofString "123456789" = ⟨#[49, 50, 51, 52, 53, 54, 55, 56, 57]⟩ := by decide +kernel
  unfold L13 L3
  rw [a1, a2, a3, a4, a5, a6, a7, a8, a9, a10, a11, a12, a13, b1, b2, b3]
  rfl
theorem cutL_to {l : List Dt} {a : Nat} (h : a ≤ l.length) : cutL l none (some (a : Nat)) = l.take a := by
  unfold cutL
  rw [HT.sIx_nat, Nat.min_eq_left h]
  show (l.drop 0).take (a - 0) = _
  simp
theorem cutL_from {l : List Dt} {a : Nat} (h : a ≤ l.length) : cutL l (some (a : Nat)) none = l.drop a := by
  unfold cutL
  rw [HT.sIx_nat, Nat.min_eq_left h]
  show (l.drop a).take (l.length - a) = _
  rw [List.take_of_length_le (by simp)]
noncomputable abbrev M13 : DM Sl := (mLc (mSrc (mVal (mLst (mCons (mC (.str "A")) (mCons (mC (.str "a")) (mCons (mC (.str "_")) (mCons (mC (.str "+")) (mCons (mC (.str "\t")) (mCons (mC (.str ":")) (mCons (mC (.str ".")) (mCons (mC (.str "(")) (mCons (mC (.str "#")) (mCons (mC (.str "-")) (mCons (mC (.str ";")) (mCons (mC (.str "=")) (mCons (mC (.str "/")) mNil)))))))))))))))) (gtN 14) mYes (mTup (mCons (mVar 14) (mCons (mC (.str "no token begins here")) mNil))) [14])
noncomputable abbrev M3 : DM Sl := (mLc (mSrc (mVal (mLst (mCons (mC (.str "1000000")) (mCons (mC (.str "0000001")) (mCons (mC (.str "123456789")) mNil)))))) (gtN 16) mYes (mTup (mCons (mVar 16) (mCons (mC (.str "a number has at most 6 digits")) mNil))) [16])
/-- the spoiling -/
noncomputable abbrev Bsp (nx pk : Fn) : DS := (sSeq (sSet 4 M13) (sSeq (sSet 4 (mBinF dCat (mPeek 4) (mVal M3))) (sSeq (sKeep 4) (sSeq (sSet 5 (mFn 2 nx (mCons (mVar 1) (mCons (mBin dAdd (mCall dLen (mCons (mPeek 2) mNil)) (mC (.int 1))) mNil)))) (sSeq (sTgt (mVal (mFn 2 pk (mCons (mVar 1) (mCons (mVar 4) mNil)))) (gtT 2 (gtCons (gtN 6) (gtCons (gtN 3) gtNil)))) (sSeq (sSet 2 (mBinF dCat (mVal (mBinF dCat (mVal (mCut (mPeek 2) mNone (mSome (mVar 5)))) (mVal (mLst (mCons (mVar 6) mNil))))) (mVal (mCut (mPeek 2) (mSome (mVar 5)) mNone)))) (sIf (mCmp dEq (mVal (mFn 2 nx (mCons (mVar 1) (mCons (mC (.int 2)) mNil)))) (mC (.int 1))) (sMut (mRfN 2) (mCons (mBin dIdx (mVal (mFn 2 pk (mCons (mVar 1) (mCons (mVar 4) mNil)))) (mC (.int 0))) mNil) fApp) sSkip)))))))
theorem sp_ok {ns : List Int} {c k : Int} {l : List Dt} {ws : List (List Nat)} (hw : ws.length ≤ 20) (hc : 0 ≤ c) (hk : 0 ≤ k) :
    ∃ (a : Nat) (p : List Nat × Str) (more : List (List Nat)) (c' k' : Int), a ≤ ws.length ∧ p ∈ badW ∧ (∀ w ∈ more, ∃ q ∈ badW, w = q.1) ∧ more.length ≤ 1 ∧ 0 ≤ c' ∧ 0 ≤ k' ∧
      Bsp (fnD 5 Bnext) (fnD 2 (Bpick (fnD 5 Bnext))) (RB l (some (.lst (ws.map ST))) (some (.val .non)) none none none none none) [stB ns c k] =
        .nx (RB l (some (.lst ((ws.take a ++ p.1 :: ws.drop a ++ more).map ST))) (some (.val (.str p.2))) (some (.val (.lst strangeD))) (some (.val (.int (a : Nat)))) (some (.val (ST p.1))) none none) [stB ns c' k'] := by
  obtain ⟨d, c1, k1, g1, g2, g3, g4, e1⟩ := next_step (ns := ns) (c := c) (k := k) (m := ((ws.length + 1 : Nat) : Int)) (A := [stB ns c k]) 0 rfl (by omega) (by omega) hc hk
  obtain ⟨a, rfl, ha⟩ : ∃ a : Nat, d = a ∧ a ≤ ws.length := ⟨d.toNat, by omega, by omega⟩
  obtain ⟨d, c2, k2, h1, h2, h3, e2⟩ := pick_step (ns := ns) (c := c1) (k := k1) (A := [stB ns c1 k1]) (rows := strangeD) 0 rfl (by decide) (by decide) g3 g4
  obtain ⟨p, hp, rfl⟩ := List.mem_map.mp h1
  obtain ⟨d, c3, k3, q1, q2, q3, q4, e3⟩ := next_step (ns := ns) (c := c2) (k := k2) (m := 2) (A := [stB ns c2 k2]) 0 rfl (by decide) (by decide) h2 h3
  obtain ⟨d4, c4, k4, w1, w2, w3, e4⟩ := pick_step (ns := ns) (c := c3) (k := k3) (A := [stB ns c3 k3]) (rows := strangeD) 0 rfl (by decide) (by decide) q3 q4
  obtain ⟨p2, hp2, rfl⟩ := List.mem_map.mp w1
  have e1' : fnD 5 Bnext [.obj 0, .int ((ws.length : Nat) + 1)] [stB ns c k] = .ok (.val (.int (a : Nat))) [stB ns c1 k1] := by
    have := e1
    rw [Int.natCast_add] at this
    exact this
  have e2' : fnD 2 (Bpick (fnD 5 Bnext)) [.obj 0, .lst strangeD] [stB ns c1 k1] = .ok (.val (.tup [ST p.1, .str p.2])) [stB ns c2 k2] := e2
  have e3' : fnD 5 Bnext [.obj 0, .int 2] [stB ns c2 k2] = .ok (.val (.int d)) [stB ns c3 k3] := e3
  have e4' : fnD 2 (Bpick (fnD 5 Bnext)) [.obj 0, .lst strangeD] [stB ns c3 k3] = .ok (.val (.tup [ST p2.1, .str p2.2])) [stB ns c4 k4] := e4
  have l1 : M13 (RB l (some (.lst (ws.map ST))) (some (.val .non)) none none none none none) [stB ns c k] = .ok (.lst (L13.map fun d => Dt.tup [d, .str noTok])) [stB ns c k] :=
    lit_comp (L := L13) (by unfold mSrc; simp [srcD, L13]) (by decide) rfl
  have l2 : M3 (RB l (some (.lst (ws.map ST))) (some (.val .non)) (some (.lst (L13.map fun d => Dt.tup [d, .str noTok]))) none none none none) [stB ns c k] = .ok (.lst (L3.map fun d => Dt.tup [d, .str many6])) [stB ns c k] :=
    lit_comp (L := L3) (by unfold mSrc; simp [srcD, L3]) (by decide) rfl
  have hcat : dCat (.lst (L13.map fun d => Dt.tup [d, .str noTok])) (.lst (L3.map fun d => Dt.tup [d, .str many6])) [stB ns c k] = .ok (.lst strangeD) [stB ns c k] := by
    rw [← strange_is]
    rfl
  have cat1 : ∀ A, dCat (.lst ((ws.map ST).take a)) (.lst [ST p.1]) A = .ok (.lst ((ws.map ST).take a ++ [ST p.1])) A := fun A => by
    show (if _ then Rs.ok (Sl.lst ((ws.map ST).take a ++ [ST p.1])) A else Rs.bad) = _
    rw [if_pos (by simp; omega)]
  have cat2 : ∀ A, dCat (.lst ((ws.map ST).take a ++ [ST p.1])) (.lst ((ws.map ST).drop a)) A = .ok (.lst ((ws.take a ++ p.1 :: ws.drop a).map ST)) A := fun A => by
    show (if _ then Rs.ok (Sl.lst ((ws.map ST).take a ++ [ST p.1] ++ (ws.map ST).drop a)) A else Rs.bad) = _
    rw [if_pos (by simp; omega)]
    simp
  have cu1 := cutL_to (l := ws.map ST) (a := a) (by simpa using ha)
  have cu2 := cutL_from (l := ws.map ST) (a := a) (by simpa using ha)
  have dc : ∀ (L : List Dt) lo hi A, dCut (.lst L) lo hi A = .ok (.lst (cutL L lo hi)) A := fun _ _ _ _ => rfl
  have st1 : (ws.map ST).length = ws.length := by simp
  have steps : Bsp (fnD 5 Bnext) (fnD 2 (Bpick (fnD 5 Bnext))) (RB l (some (.lst (ws.map ST))) (some (.val .non)) none none none none none) [stB ns c k] =
      (sIf (mCmp dEq (mVal (mFn 2 (fnD 5 Bnext) (mCons (mVar 1) (mCons (mC (.int 2)) mNil)))) (mC (.int 1))) (sMut (mRfN 2) (mCons (mBin dIdx (mVal (mFn 2 (fnD 2 (Bpick (fnD 5 Bnext))) (mCons (mVar 1) (mCons (mVar 4) mNil)))) (mC (.int 0))) mNil) fApp) sSkip) (RB l (some (.lst ((ws.take a ++ p.1 :: ws.drop a).map ST))) (some (.val (.str p.2))) (some (.val (.lst strangeD))) (some (.val (.int (a : Nat)))) (some (.val (ST p.1))) none none) [stB ns c2 k2] := by
    unfold Bsp
    rw [seq_nx (r' := RB l (some (.lst (ws.map ST))) (some (.val .non)) (some (.lst (L13.map fun d => Dt.tup [d, .str noTok]))) none none none none) (A' := [stB ns c k]) (by rw [s_set, l1]; rfl),
      seq_nx (r' := RB l (some (.lst (ws.map ST))) (some (.val .non)) (some (.lst strangeD)) none none none none) (A' := [stB ns c k]) (by simp [l2, hcat]),
      seq_nx (r' := RB l (some (.lst (ws.map ST))) (some (.val .non)) (some (.val (.lst strangeD))) none none none none) (A' := [stB ns c k]) (by simp),
      seq_nx (r' := RB l (some (.lst (ws.map ST))) (some (.val .non)) (some (.val (.lst strangeD))) (some (.val (.int (a : Nat)))) none none none) (A' := [stB ns c1 k1]) (by simp [e1']),
      seq_nx (r' := RB l (some (.lst (ws.map ST))) (some (.val (.str p.2))) (some (.val (.lst strangeD))) (some (.val (.int (a : Nat)))) (some (.val (ST p.1))) none none) (A' := [stB ns c2 k2]) (by simp [e2', gtT, gtCons, gtN, gtNil]),
      seq_nx (r' := RB l (some (.lst ((ws.take a ++ p.1 :: ws.drop a).map ST))) (some (.val (.str p.2))) (some (.val (.lst strangeD))) (some (.val (.int (a : Nat)))) (some (.val (ST p.1))) none none) (A' := [stB ns c2 k2]) (by
        rw [s_set]
        simp only [s_mBinF, s_mVal, s_mCut, s_mPeek, s_mNone, s_mSome, s_mVar, s_mLst, s_mCons, s_mNil, bind_ok, s_dtl]
        simp [-List.map_take, -List.map_drop, -List.map_append, -List.map_cons, dc, cu1, cu2, cat1, cat2])]
  by_cases hd : d = 1
  · subst hd
    refine ⟨a, p, [p2.1], c4, k4, ha, hp, fun w hw => ⟨p2, hp2, List.mem_singleton.mp hw⟩, by simp, w2, w3, ?_⟩
    rw [steps]
    generalize hL : (ws.take a ++ p.1 :: ws.drop a) = W
    have hWl : (W.map ST).length < 1000000 := by rw [← hL]; simp; omega
    have hWl' : W.length < 1000000 := by simpa using hWl
    simp [e3', e4', fApp, hWl']
  · refine ⟨a, p, [], c3, k3, ha, hp, (fun w hw => nomatch hw), by simp, q3, q4, ?_⟩
    rw [steps]
    simp [e3', hd]
end K72

set_option Elab.async false
set_option linter.all false
set_option maxRecDepth 100000
set_option maxHeartbeats 1000000
namespace K72
open PySem PySem.Spec PyProof.Rows L2 Pp
theorem adj_suffix : ∀ (s u : List (Nat × List Nat)), Adj (s ++ u) → Adj u
  | [], _, h => h
  | _ :: s, u, h => adj_suffix s u (adj_tail h)
theorem places_append : ∀ (s u : List (Nat × List Nat)) (a : Nat), places a (s ++ u) = places a s ++ places (a + (flat s 0).length) u
  | [], u, a => by simp [places, flat]
  | (g, w) :: s, u, a => by
    simp only [List.cons_append, places, places_append s u]
    congr 3
    simp [flat]
    omega
section
variable {G : Gx} (F : Fx fns fas exf G.K G.mg)
include F
theorem end_bad {l : List Dt} {ns : List Int} {c k : Int} {s : List (Nat × List Nat)} {tl a : Nat} {p : List Nat × Str} {ws more : List (List Nat)} {x4 x6 : Option Sl} {W : List Dt} (hs : s.map (·.2) = ws.take a ++ p.1 :: ws.drop a ++ more) (hp : p ∈ badW) (hw : ∀ w ∈ ws, w ∈ goodW) (hm : ∀ w ∈ more, ∃ q ∈ badW, w = q.1) (hml : more.length ≤ 1)
    (ha : a ≤ ws.length) (hwl : ws.length ≤ 20) (h3 : ∀ q ∈ s, q.1 ≤ 3) (htl : tl ≤ 2) (hadj : Adj s) :
    ∃ A', Bend G (RB l (some (.val (.lst W))) (some (.val (.str p.2))) x4 (some (.val (.int (a : Nat)))) x6 (some (.val (ST (flat s tl)))) (some (.val (.lst (places 0 s ++ [.int (((flat s tl).length + 1 : Nat) : Int)]))))) [stB ns c k] = .rt (.val (.bl true)) A' := by
  have hsl : s.length ≤ 22 := by
    have e := congrArg List.length hs
    simp at e
    omega
  have hall : ∀ q ∈ s, WOk q.2 ∧ 10 ∉ q.2 := fun q hq => by
    have h1 : q.2 ∈ ws.take a ++ p.1 :: ws.drop a ++ more := by rw [← hs]; exact List.mem_map_of_mem hq
    simp only [List.mem_append, List.mem_cons] at h1
    rcases h1 with (h1 | h1 | h1) | h1
    · exact ⟨(good_facts _ (hw _ (List.mem_of_mem_take h1))).1, (good_facts _ (hw _ (List.mem_of_mem_take h1))).2.1⟩
    · rw [h1]; exact ⟨(bad_facts _ hp).1, (bad_facts _ hp).2.1⟩
    · exact ⟨(good_facts _ (hw _ (List.mem_of_mem_drop h1))).1, (good_facts _ (hw _ (List.mem_of_mem_drop h1))).2.1⟩
    · obtain ⟨q', hq', e⟩ := hm _ h1
      rw [e]; exact ⟨(bad_facts _ hq').1, (bad_facts _ hq').2.1⟩
  rw [List.append_assoc, List.cons_append] at hs
  obtain ⟨s1, s23, rfl, e1, e2⟩ := List.map_eq_append_iff.mp hs
  obtain ⟨⟨g, w⟩, s2, rfl, e3, e4⟩ := List.map_eq_cons_iff.mp e2
  have e3' : w = p.1 := e3
  subst e3'
  have hfl := flat_len (s1 ++ (g, p.1) :: s2) fun q hq => ⟨h3 q hq, (hall q hq).1.2⟩
  have hz : (flat (s1 ++ (g, p.1) :: s2) tl).length ≤ 400 := by rw [flat_add]; simp only [List.length_append, List.length_replicate] at hfl hsl ⊢; omega
  have hn : 10 ∉ flat (s1 ++ (g, p.1) :: s2) tl := flat_no10 _ tl fun q hq => (hall q hq).2
  have e5 : flat (s1 ++ (g, p.1) :: s2) tl = flat s1 0 ++ (List.replicate g 32 ++ (p.1 ++ flat s2 tl)) := by rw [flat_append]; rfl
  have hg1 : ∀ q ∈ s1, q.2 ∈ goodW := fun q hq => by
    have : q.2 ∈ ws.take a := by rw [← e1]; exact List.mem_map_of_mem hq
    exact hw _ (List.mem_of_mem_take this)
  have hga : GoodAll s1 (List.replicate g 32 ++ (p.1 ++ flat s2 tl)) := good_all s1 ((g, p.1) :: s2) tl hg1 (fun q hq => (hall q (List.mem_append_right _ hq)).1.1) hadj
  have hb : Bad p.1 (flat s2 tl) p.2 := bad_of (g := g) hp (adj_suffix s1 _ hadj) fun q hq => (hall q (List.mem_append_right _ (List.mem_cons_of_mem _ hq))).1.1
  have s1l : s1.length = a := by
    have e := congrArg List.length e1
    simp at e
    omega
  have sc := scan_bad G (A := [stB ns c k]) (by rw [← e5]; exact hz) (by rw [← e5]; exact hn) hga hb (by simp only [List.length_append] at hsl; omega)
  rw [← e5] at sc
  have td := told_text F sc
  have hpl : (places 0 (s1 ++ (g, p.1) :: s2) ++ [Dt.int (((flat (s1 ++ (g, p.1) :: s2) tl).length + 1 : Nat) : Int)])[a]? = some (.int (((flat s1 0).length + g + 1 : Nat) : Int)) := by
    rw [places_append, List.append_assoc, List.getElem?_append_right (by rw [places_length]; omega), places_length, s1l, Nat.sub_self]
    simp [places]
  generalize hP : places 0 (s1 ++ (g, p.1) :: s2) ++ [Dt.int (((flat (s1 ++ (g, p.1) :: s2) tl).length + 1 : Nat) : Int)] = P at *
  have hPl : a < P.length := (List.getElem?_eq_some_iff.mp hpl).1
  have hidx : atI P (a : Nat) = some (.int (((flat s1 0).length + g + 1 : Nat) : Int)) := by
    rw [atI_pos (by omega) (by omega)]
    simpa using hpl
  generalize flat (s1 ++ (g, p.1) :: s2) tl = t at *
  generalize (flat s1 0).length + g + 1 = col at *
  have q := eq_refl (A := [stB ns c k]) 4 (.tup [.int (col : Nat), .str p.2]) (.tup (by simp) fun d hd => by
    simp only [List.mem_cons, List.not_mem_nil, or_false] at hd
    rcases hd with rfl | rfl
    · exact .int
    · exact .str)
  refine ⟨[stB ns c k], ?_⟩
  unfold Bend
  refine seq_rt ?_
  simp [td, hidx, equal_is, q]
/-- the law's body, its parts by name -/
noncomputable abbrev B2 (G : Gx) : DS := (sSeq (sSet 1 (mFn 1 (F_l_stream G) (mCons (mVar 0) mNil))) (sSeq (sBox 1) (sSeq (sSet 2 (mLc (mRg1 (mCons (mVal (mFn 2 (F_l_next G) (mCons (mVar 1) (mCons (mC (.int 21)) mNil)))) mNil)) (gtN 13) mYes (Ewd G) [13])) (sSeq (sSet 3 (mSl (mC .non))) (sSeq (sIf (mCmp dEq (mVal (mFn 2 (F_l_next G) (mCons (mVar 1) (mCons (mC (.int 2)) mNil)))) (mC (.int 1))) (Bsp (F_l_next G) (F_l_pick G)) sSkip) (sSeq (sKeep 2) (sSeq (sTgt (mVal (mFn 2 (F_l_laid G) (mCons (mVar 1) (mCons (mVar 2) mNil)))) (gtT 2 (gtCons (gtN 7) (gtCons (gtN 8) gtNil)))) (Bend G))))))))
theorem law_true (ns : List Int) : ∃ A, F_law G [.fz (ns.map .int)] [] = .ok (.val (.bl true)) A := by
  suffices h : ∃ A, B2 G (some (.val (.fz (ns.map .int))) :: List.replicate 16 none) [] = .rt (.val (.bl true)) A by
    obtain ⟨A, h⟩ := h
    refine ⟨A, ?_⟩
    show (match B2 G (some (.val (.fz (ns.map .int))) :: List.replicate 16 none) [] with
      | .rt s A => Rs.ok s A
      | .nx _ A => .ok (.val .non) A
      | .er e _ A => .er e A
      | _ => .bad) = _
    rw [h]
  have st := stream_ok G (ns.map .int) []
  obtain ⟨ws, c1, k1, w1, w2, w3, w4, ew⟩ := words_ok G (ns := ns) (c := 0) (k := 0) (A := [stB ns 0 0]) (r := RB (ns.map .int) none none none none none none none) rfl rfl rfl (by omega) (by omega)
  obtain ⟨d, c2, k2, d1, d2, d3, d4, ed⟩ := next_step (ns := ns) (c := c1) (k := k1) (m := 2) (A := [stB ns c1 k1]) 0 rfl (by decide) (by decide) w3 w4
  have ed' : F_l_next G [.obj 0, .int 2] [stB ns c1 k1] = .ok (.val (.int d)) [stB ns c2 k2] := ed
  have ew' : mLc (mRg1 (mCons (mVal (mFn 2 (F_l_next G) (mCons (mVar 1) (mCons (mC (.int 21)) mNil)))) mNil)) (gtN 13) mYes (Ewd G) [13] (RB (ns.map .int) none none none none none none none) [stB ns 0 0] = .ok (.lst (ws.map ST)) [stB ns c1 k1] := ew
  have e0 : B2 G (some (.val (.fz (ns.map .int))) :: List.replicate 16 none) [] = (sSeq (sIf (mCmp dEq (mVal (mFn 2 (F_l_next G) (mCons (mVar 1) (mCons (mC (.int 2)) mNil)))) (mC (.int 1))) (Bsp (F_l_next G) (F_l_pick G)) sSkip) (sSeq (sKeep 2) (sSeq (sTgt (mVal (mFn 2 (F_l_laid G) (mCons (mVar 1) (mCons (mVar 2) mNil)))) (gtT 2 (gtCons (gtN 7) (gtCons (gtN 8) gtNil)))) (Bend G)))) (RB (ns.map .int) (some (.lst (ws.map ST))) (some (.val .non)) none none none none none) [stB ns c1 k1] := by
    unfold B2
    rw [seq_nx (r' := [some (.val (.fz (ns.map .int))), some (.lst [.lst (ns.map .int), .int 0, .int 0]), none, none, none, none, none, none, none, none, none, none, none, none, none, none, none]) (A' := []) (by simp [st, List.replicate]),
      seq_nx (r' := RB (ns.map .int) none none none none none none none) (A' := [stB ns 0 0]) (by simp),
      seq_nx (r' := RB (ns.map .int) (some (.lst (ws.map ST))) none none none none none none) (A' := [stB ns c1 k1]) (by rw [s_set, ew']; rfl),
      seq_nx (r' := RB (ns.map .int) (some (.lst (ws.map ST))) (some (.val .non)) none none none none none) (A' := [stB ns c1 k1]) (by simp)]
  by_cases hd : d = 1
  · subst hd
    obtain ⟨a, p, more, c3, k3, a1, a2, a3, a4, a5, a6, es⟩ := sp_ok (ns := ns) (c := c2) (k := k2) (l := ns.map .int) (ws := ws) w1 d3 d4
    have hall : ∀ w ∈ ws.take a ++ p.1 :: ws.drop a ++ more, WOk w := fun w h1 => by
      simp only [List.mem_append, List.mem_cons] at h1
      rcases h1 with (h1 | h1 | h1) | h1
      · exact (good_facts _ (w2 _ (List.mem_of_mem_take h1))).1
      · rw [h1]; exact (bad_facts _ a2).1
      · exact (good_facts _ (w2 _ (List.mem_of_mem_drop h1))).1
      · obtain ⟨q', hq', e⟩ := a3 _ h1
        rw [e]; exact (bad_facts _ hq').1
    obtain ⟨s, tl, c4, k4, s1, s2, s3, s4, s5, s6, el⟩ := laid_ok G (ns := ns) (c := c3) (k := k3) (A := [stB ns c3 k3]) (j := 0) rfl a5 a6 hall (by simp; omega)
    have el' : F_l_laid G [.obj 0, .lst ((ws.take a ++ p.1 :: ws.drop a ++ more).map ST)] [stB ns c3 k3] = .ok (.val (.tup [ST (flat s tl), .lst (places 0 s ++ [.int (((flat s tl).length + 1 : Nat) : Int)])])) [stB ns c4 k4] := el
    obtain ⟨A', ee⟩ := end_bad F (l := ns.map .int) (ns := ns) (c := c4) (k := k4) (x4 := some (.val (.lst strangeD))) (x6 := some (.val (ST p.1))) (W := (ws.take a ++ p.1 :: ws.drop a ++ more).map ST) s1 a2 w2 a3 a4 a1 w1 s2 s3 s4
    refine ⟨A', ?_⟩
    generalize hW : (ws.take a ++ p.1 :: ws.drop a ++ more).map ST = W at *
    rw [e0, seq_nx (r' := RB (ns.map .int) (some (.lst W)) (some (.val (.str p.2))) (some (.val (.lst strangeD))) (some (.val (.int (a : Nat)))) (some (.val (ST p.1))) none none) (A' := [stB ns c3 k3]) (by
        rw [s_if]
        have e9 : (mCmp dEq (mVal (mFn 2 (F_l_next G) (mCons (mVar 1) (mCons (mC (.int 2)) mNil)))) (mC (.int 1))) (RB (ns.map .int) (some (.lst (ws.map ST))) (some (.val .non)) none none none none none) [stB ns c1 k1] = .ok true [stB ns c2 k2] := by simp [ed']
        rw [e9]
        exact es),
      seq_nx (r' := RB (ns.map .int) (some (.val (.lst W))) (some (.val (.str p.2))) (some (.val (.lst strangeD))) (some (.val (.int (a : Nat)))) (some (.val (ST p.1))) none none) (A' := [stB ns c3 k3]) (by simp),
      seq_nx (r' := RB (ns.map .int) (some (.val (.lst W))) (some (.val (.str p.2))) (some (.val (.lst strangeD))) (some (.val (.int (a : Nat)))) (some (.val (ST p.1))) (some (.val (ST (flat s tl)))) (some (.val (.lst (places 0 s ++ [.int (((flat s tl).length + 1 : Nat) : Int)]))))) (A' := [stB ns c4 k4]) (by
        rw [s_tgt]
        simp only [s_mVal, s_mFn, s_mCons, s_mNil, s_mVar, bind_ok]
        simp [-Int.natCast_add, el', gtT, gtCons, gtN, gtNil])]
    exact ee
  · obtain ⟨s, tl, c4, k4, s1, s2, s3, s4, s5, s6, el⟩ := laid_ok G (ns := ns) (c := c2) (k := k2) (A := [stB ns c2 k2]) (j := 0) (ws := ws) rfl d3 d4 (fun w h => (good_facts _ (w2 _ h)).1) (by omega)
    have el' : F_l_laid G [.obj 0, .lst (ws.map ST)] [stB ns c2 k2] = .ok (.val (.tup [ST (flat s tl), .lst (places 0 s ++ [.int (((flat s tl).length + 1 : Nat) : Int)])])) [stB ns c4 k4] := el
    have hsl : s.length = ws.length := by rw [← s1]; simp
    obtain ⟨A', ee⟩ := end_good F (ns := ns) (c := c4) (k := k4) (s := s) (tl := tl) s5 s6 (fun q hq => w2 _ (by rw [← s1]; exact List.mem_map_of_mem hq)) s2 s3 s4 (by omega)
    rw [s1] at ee
    refine ⟨A', ?_⟩
    generalize hW : ws.map ST = W at *
    rw [e0, seq_nx (r' := RB (ns.map .int) (some (.lst W)) (some (.val .non)) none none none none none) (A' := [stB ns c2 k2]) (by
        rw [s_if]
        have e9 : (mCmp dEq (mVal (mFn 2 (F_l_next G) (mCons (mVar 1) (mCons (mC (.int 2)) mNil)))) (mC (.int 1))) (RB (ns.map .int) (some (.lst W)) (some (.val .non)) none none none none none) [stB ns c1 k1] = .ok false [stB ns c2 k2] := by simp [ed', hd]
        rw [e9]
        rfl),
      seq_nx (r' := RB (ns.map .int) (some (.val (.lst W))) (some (.val .non)) none none none none none) (A' := [stB ns c2 k2]) (by simp),
      seq_nx (r' := RB (ns.map .int) (some (.val (.lst W))) (some (.val .non)) none none none (some (.val (ST (flat s tl)))) (some (.val (.lst (places 0 s ++ [.int (((flat s tl).length + 1 : Nat) : Int)]))))) (A' := [stB ns c4 k4]) (by
        rw [s_tgt]
        simp only [s_mVal, s_mFn, s_mCons, s_mNil, s_mVar, bind_ok]
        simp [-Int.natCast_add, el', gtT, gtCons, gtN, gtNil])]
    exact ee
end
end K72

theorem PySem.Challenge.cw_surepast_k72_tokens_of_texts_holds : PySem.Challenge.rw_surepast_k72_tokens_of_texts.Holds := by
  exact K72.holds_of fun G ns _ F => K72.law_true F ns
