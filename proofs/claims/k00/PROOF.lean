import PyProof.Rows.All
import Wide.All
import OpenK.AllK
import Wide.FinOn
import PySem.Challenge.RW_doubleroads_k00_whole_ratios_of_numbers
import HandS.ForMost
import HandS.Exc
import HandS.TryMany
import HandS.ExcOwn
import HandS.ExcInit
import HandS.WordsExc
import HandS.OwnEq
import HandS.Wide
import HandS.IsInst
import HandS.Defaults
import HandS.TupAny
import HandS.TupMul
import HandS.Text
import HandS.SortInts
import HandS.TryOnly
import HandS.Walk
import HandS.Zip
import KE.GoesMore
import HandS.ExcField
import HandS.ClsMeth
import PyProof.StrOps2
import HandS.Style
import HandS.HeadEnd
import HandS.HeadHook1
import HandS.HeadHook2
import HandS.HeadHook3
import HandS.HeadHook4
import HandS.DictComp
import HandS.HeadNt
import HandS.Head2
import KE.KCallOwn
import HandS.FStr
import HandS.HotCalls
import HandS.StrMore
import KE.KStateDown
import HandS.Head0
import HandS.Head1
import Lean
section
set_option Elab.async false
set_option linter.all false
/-! Tl1: the plain part. Values as trees, the state of a def's run, what a construct computes. -/
namespace TL
open PySem (Str)

/-- a value as a tree: 0 of ins is kept for rat -/
inductive D where
  | non | bl (b : Bool) | int (i : Int) | str (s : Str)
  | tup (xs : List D) | lst (xs : List D)
  | rat (q : Rat) | ins (C : Nat) (fs : List (Nat × D)) | fn (f : Nat) | cell (k : Nat) | scr (ns : List Int) | dct (kvs : List (Sum Int Str × D))
  deriving Inhabited

/-- what a slot holds: nothing known; a tree; a list of the slot's own; an instance under construction -/
inductive Sl where
  | no | v (d : D) | own (xs : List D) | obj (C : Nat) (fs : List (Nat × D)) | exc (fs : List (Nat × D))
  deriving Inhabited

structure Cfg where
  sl : List Sl
  ce : List (List D)

/-- an exception: its class, the fields of its dict -/
structure Exc where
  C : Nat
  fs : List (Nat × D)

inductive Out (α : Type) where
  | ok (a : α) (c : Cfg) | err (x : Exc) (c : Cfg) | stuck

abbrev M (α : Type) := Cfg → Out α
/-- a def's result: a tree, or a list that nobody else holds -/
inductive RV where
  | v (d : D) | f (xs : List D)
inductive FOut where
  | ok (r : RV) (ce : List (List D)) | err (x : Exc) (ce : List (List D)) | stuck
abbrev FnS := List D → List (List D) → FOut
/-- all defs -/
abbrev Phi := Nat → FnS

inductive Flow where
  | nx | bk | ct | rt (r : RV)

namespace M
@[inline] def ret {α : Type} (a : α) : M α := fun c => .ok a c
@[inline] def bnd {α β : Type} (m : M α) (f : α → M β) : M β := fun c => match m c with
  | .ok a c' => f a c'
  | .err x c' => .err x c'
  | .stuck => .stuck
def stk {α : Type} : M α := fun _ => .stuck
def opt {α : Type} : Option α → M α
  | some a => ret a
  | none => stk
end M
open M

def LIM : Nat := 16777216
def sizeOk (n : Nat) : Bool := decide (n ≤ 16777216)

/-! ### expressions -/
def eC (d : D) : M D := ret d
/-- a name, its value handed on: a list of the slot's own is then anybody's, and stays as it is -/
def eName (i : Nat) : M D := fun c => match c.sl[i]? with
  | some (.v d) => .ok d c
  | some (.own xs) => .ok (.lst xs) { c with sl := c.sl.set i (.v (.lst xs)) }
  | _ => .stuck
/-- a name that is only looked into -/
def eNameB (i : Nat) : M D := fun c => match c.sl[i]? with
  | some (.v d) => .ok d c
  | some (.own xs) => .ok (.lst xs) c
  | _ => .stuck

def mulOk (i j : Int) : Bool := decide (i.natAbs < 2 ^ 64) || decide (j.natAbs < 2 ^ 64) || decide (i.natAbs.log2 + j.natAbs.log2 < 1000000)
def divOk (j : Int) : Bool := decide (j ≠ 0) && decide (j.natAbs.log2 < 9000)

inductive Bop where
  | add | sub | mul | fdiv | mod
  deriving DecidableEq
def rep (k : Int) (xs : List D) : List D := (List.replicate k.toNat xs).flatten
def binP : Bop → D → D → Option D
  | .add, .int i, .int j => some (.int (i + j))
  | .sub, .int i, .int j => some (.int (i - j))
  | .mul, .int i, .int j => if mulOk i j then some (.int (i * j)) else none
  | .fdiv, .int i, .int j => if divOk j then some (.int (i.fdiv j)) else none
  | .mod, .int i, .int j => if j ≠ 0 then some (.int (i.fmod j)) else none
  | .add, .str a, .str b => if sizeOk (a.length + b.length) then some (.str (a ++ b)) else none
  | .add, .tup xs, .tup ys => if sizeOk (xs.length + ys.length) then some (.tup (xs ++ ys)) else none
  | _, _, _ => none
/-- calls to the program's own defs -/
def callF (Φ : Phi) (f : Nat) (ds : List D) : M D := fun c => match Φ f ds c.ce with
  | .ok (.v d) ce => .ok d { c with ce := ce }
  | .ok (.f xs) ce => .ok (.lst xs) { c with ce := ce }
  | .err x ce => .err x { c with ce := ce }
  | .stuck => .stuck
end TL

end
section
set_option Elab.async false
set_option linter.all false
set_option maxRecDepth 100000
/-! Tl2: how trees lie in the abstract heap; the steps' relation; the readings. -/
namespace TL
open PySem L2

/-- what is known of a law's text: the written part, the names, where classes and defs stand, the fields' names -/
structure Tab where
  K : PySem.W.Frag
  mg : Str → Option Value
  cls : Nat → Addr
  fa : Nat → Addr
  nm : Nat → Str
  nmi : ∀ i j, nm i = nm j → i = j
  dfl : Nat → List (List D)

inductive Ow where
  | sl (i : Nat) | ce (k : Nat)
  deriving DecidableEq
/-- beside the heap: what stays for ever; who owns what may change; the cells; what stood at the entry -/
structure Gh where
  I : Hp
  O : Addr → Option Ow
  cl : List Addr
  B : Addr → Prop
  sf : Addr × Option Addr

section
variable (T : Tab) (g : Gh)
mutual
def Rep : V → D → Prop
  | v, .non => v = .non
  | v, .bl b => v = .bl b
  | v, .int i => v = .int i
  | v, .str s => v = .str s
  | v, .tup xs => ∃ a vs, v = .ref a ∧ SqT T.K g.I a vs ∧ Reps vs xs
  | v, .lst xs => ∃ a vs, v = .ref a ∧ g.I a = some (.lst vs) ∧ Reps vs xs
  | v, .rat q => ∃ a dx, v = .ref a ∧ g.I a = some (.ins (T.cls 0) dx [(T.nm 0, .int q.num), (T.nm 1, .int q.den)])
  | v, .ins C fs => ∃ a dx vfs, v = .ref a ∧ C ≠ 0 ∧ g.I a = some (.ins (T.cls C) dx vfs) ∧ RepF vfs fs
  | v, .fn f => v = .ref (T.fa f)
  | v, .cell k => ∃ a, v = .ref a ∧ g.cl[k]? = some a
  | v, .scr ns => ∃ a, v = .ref a ∧ SqL T.K g.I a (ns.map V.int)
  | v, .dct kvs => ∃ a vs, v = .ref a ∧ g.I a = some (.dK vs) ∧ RepK vs kvs
def Reps : List V → List D → Prop
  | vs, [] => vs = []
  | vs, x :: xs => ∃ v vr, vs = v :: vr ∧ Rep v x ∧ Reps vr xs
def RepF : List (Str × V) → List (Nat × D) → Prop
  | vs, [] => vs = []
  | vs, x :: xs => ∃ v vr, vs = (T.nm x.1, v) :: vr ∧ Rep v x.2 ∧ RepF vr xs
def RepK : List (Key × V) → List (Sum Int Str × D) → Prop
  | vs, [] => vs = []
  | vs, x :: xs => ∃ v vr, vs = (x.1, v) :: vr ∧ Rep v x.2 ∧ RepK vr xs
end
end

/-- the lasting part grows, the cells too -/
structure GL (g g' : Gh) : Prop where
  I : Ext g.I g'.I
  cl : ∃ more, g'.cl = g.cl ++ more
structure GLe (g g' : Gh) : Prop extends GL g g' where
  B : g'.B = g.B
  sf : g'.sf = g.sf
theorem GLe.refl (g : Gh) : GLe g g := ⟨⟨fun _ _ h => h, ⟨[], by simp⟩⟩, rfl, rfl⟩
theorem GLe.trans {a b c : Gh} (h : GLe a b) (k : GLe b c) : GLe a c := by
  obtain ⟨m1, e1⟩ := h.cl
  obtain ⟨m2, e2⟩ := k.cl
  exact ⟨⟨h.I.trans k.I, ⟨m1 ++ m2, by rw [e2, e1, List.append_assoc]⟩⟩, k.B.trans h.B, k.sf.trans h.sf⟩

section
variable {T : Tab} {g g' : Gh}
mutual
theorem Rep.gl (h : GL g g') : ∀ (v : V) (d : D), Rep T g v d → Rep T g' v d
  | v, .non, r => r
  | v, .bl b, r => r
  | v, .int i, r => r
  | v, .str s, r => r
  | v, .tup xs, r => by
    obtain ⟨a, vs, e, q, r⟩ := r
    exact ⟨a, vs, e, q.ext h.I, Reps.gl h vs xs r⟩
  | v, .lst xs, r => by
    obtain ⟨a, vs, e, q, r⟩ := r
    exact ⟨a, vs, e, h.I _ _ q, Reps.gl h vs xs r⟩
  | v, .scr ns, r => by
    obtain ⟨a, e, q⟩ := r
    exact ⟨a, e, q.ext h.I⟩
  | v, .rat q, r => by
    obtain ⟨a, dx, e, q⟩ := r
    exact ⟨a, dx, e, h.I _ _ q⟩
  | v, .ins C fs, r => by
    obtain ⟨a, dx, vfs, e, hc, q, r⟩ := r
    exact ⟨a, dx, vfs, e, hc, h.I _ _ q, RepF.gl h vfs fs r⟩
  | v, .fn f, r => r
  | v, .dct kvs, r => by
    obtain ⟨a, vs, e, q, r⟩ := r
    exact ⟨a, vs, e, h.I _ _ q, RepK.gl h vs kvs r⟩
  | v, .cell k, r => by
    obtain ⟨a, e, q⟩ := r
    obtain ⟨m, em⟩ := h.cl
    refine ⟨a, e, ?_⟩
    rw [em, List.getElem?_append_left (List.getElem?_eq_some_iff.mp q).1]
    exact q
theorem Reps.gl (h : GL g g') : ∀ (vs : List V) (ds : List D), Reps T g vs ds → Reps T g' vs ds
  | vs, [], r => r
  | vs, x :: xs, r => by
    obtain ⟨v, vr, e, r1, r2⟩ := r
    exact ⟨v, vr, e, Rep.gl h v x r1, Reps.gl h vr xs r2⟩
theorem RepF.gl (h : GL g g') : ∀ (vs : List (Str × V)) (ds : List (Nat × D)), RepF T g vs ds → RepF T g' vs ds
  | vs, [], r => r
  | vs, x :: xs, r => by
    obtain ⟨v, vr, e, r1, r2⟩ := r
    exact ⟨v, vr, e, Rep.gl h v x.2 r1, RepF.gl h vr xs r2⟩
theorem RepK.gl (h : GL g g') : ∀ (vs : List (Key × V)) (ds : List (Sum Int Str × D)), RepK T g vs ds → RepK T g' vs ds
  | vs, [], r => r
  | vs, x :: xs, r => by
    obtain ⟨v, vr, e, r1, r2⟩ := r
    exact ⟨v, vr, e, Rep.gl h v x.2 r1, RepK.gl h vr xs r2⟩
end
theorem Rep.mono (h : GLe g g') (v : V) (d : D) (r : Rep T g v d) : Rep T g' v d := Rep.gl h.toGL v d r
theorem Reps.mono (h : GLe g g') (v : List V) (d : List D) (r : Reps T g v d) : Reps T g' v d := Reps.gl h.toGL v d r
theorem RepF.mono (h : GLe g g') (v : List (Str × V)) (d : List (Nat × D)) (r : RepF T g v d) : RepF T g' v d := RepF.gl h.toGL v d r
theorem Reps.length : ∀ {vs : List V} {ds : List D}, Reps T g vs ds → vs.length = ds.length
  | vs, [], r => by cases (show vs = [] from r); rfl
  | vs, x :: xs, r => by
    obtain ⟨v, vr, e, r1, r2⟩ := (show ∃ v vr, vs = v :: vr ∧ Rep T g v x ∧ Reps T g vr xs from r)
    subst e
    rw [List.length_cons, List.length_cons, Reps.length r2]
theorem Reps.at : ∀ {vs : List V} {ds : List D} {i : Nat} {d : D}, Reps T g vs ds → ds[i]? = some d → ∃ v, vs[i]? = some v ∧ Rep T g v d
  | vs, [], i, d, r, e => by cases e
  | vs, x :: xs, 0, d, r, e => by
    obtain ⟨v, vr, ev, r1, r2⟩ := (show ∃ v vr, vs = v :: vr ∧ Rep T g v x ∧ Reps T g vr xs from r)
    subst ev
    cases (show some x = some d from e)
    exact ⟨v, rfl, r1⟩
  | vs, x :: xs, i + 1, d, r, e => by
    obtain ⟨v, vr, ev, r1, r2⟩ := (show ∃ v vr, vs = v :: vr ∧ Rep T g v x ∧ Reps T g vr xs from r)
    subst ev
    exact Reps.at (i := i) r2 e
theorem Reps.app : ∀ {vs ws : List V} {ds es : List D}, Reps T g vs ds → Reps T g ws es → Reps T g (vs ++ ws) (ds ++ es)
  | vs, ws, [], es, r, q => by cases (show vs = [] from r); exact q
  | vs, ws, x :: xs, es, r, q => by
    obtain ⟨v, vr, e, r1, r2⟩ := (show ∃ v vr, vs = v :: vr ∧ Rep T g v x ∧ Reps T g vr xs from r)
    subst e
    exact ⟨v, vr ++ ws, rfl, r1, Reps.app r2 q⟩
theorem Reps.one {v : V} {d : D} (r : Rep T g v d) : Reps T g [v] [d] := ⟨v, [], rfl, r, rfl⟩
theorem Reps.set : ∀ {vs : List V} {ds : List D} {i : Nat} {v : V} {d : D}, Reps T g vs ds → Rep T g v d → Reps T g (vs.set i v) (ds.set i d)
  | vs, [], i, v, d, r, q => by cases (show vs = [] from r); exact r
  | vs, x :: xs, i, v, d, r, q => by
    obtain ⟨w, vr, e, r1, r2⟩ := (show ∃ v vr, vs = v :: vr ∧ Rep T g v x ∧ Reps T g vr xs from r)
    subst e
    cases i with
    | zero => exact ⟨v, vr, rfl, q, r2⟩
    | succ i => exact ⟨w, vr.set i v, rfl, r1, Reps.set r2 q⟩
theorem Reps.of_at : ∀ {vs : List V} {ds : List D}, vs.length = ds.length → (∀ (i : Nat) (v : V) (d : D), vs[i]? = some v → ds[i]? = some d → Rep T g v d) → Reps T g vs ds
  | [], [], _, _ => rfl
  | [], _ :: _, e, _ => by cases e
  | _ :: _, [], e, _ => by cases e
  | v :: vs, d :: ds, e, h => ⟨v, vs, rfl, h 0 v d rfl rfl, Reps.of_at (by simpa using e) fun i w x a b => h (i + 1) w x a b⟩
end

/-! ### the state of a def's run, and the heap -/
def SlOk (T : Tab) (g : Gh) (σ : St) (H : Hp) (i : Nat) : Sl → Prop
  | .no => True
  | .v d => ∃ v, σ[i]? = some (some v) ∧ Rep T g v d
  | .own xs => ∃ a vs, σ[i]? = some (some (.ref a)) ∧ g.O a = some (.sl i) ∧ ¬ g.B a ∧ H a = some (.lst vs) ∧ Reps T g vs xs
  | .exc fs => σ[i]? = some (some (.ref g.sf.1)) ∧ ∃ dd vfs, g.sf.2 = some dd ∧ g.I dd = some (.xd vfs) ∧ RepF T g vfs fs
  | .obj C fs => ∃ a dx vfs, a = g.sf.1 ∧ σ[i]? = some (some (.ref a)) ∧ g.O a = some (.sl i) ∧ H a = some (.ins (T.cls C) dx vfs) ∧ RepF T g vfs fs
structure Held (T : Tab) (g : Gh) (σ : St) (H : Hp) (c : Cfg) : Prop where
  sub : Ext g.I H
  ow : ∀ a, g.O a ≠ none → g.I a = none ∧ H a ≠ none
  bs : ∀ a, g.B a → H a ≠ none
  sl : ∀ i s, c.sl[i]? = some s → SlOk T g σ H i s
  cn : g.cl.length = c.ce.length
  ln : c.sl.length ≤ σ.length
  ce : ∀ k a xs, g.cl[k]? = some a → c.ce[k]? = some xs → g.O a = some (.ce k) ∧ ∃ vs, H a = some (.lst vs) ∧ Reps T g vs xs
/-- a step: what nobody owns stays -/
structure Stp (g : Gh) (H : Hp) (g' : Gh) (H' : Hp) : Prop where
  le : GLe g g'
  fr : ∀ a o, H a = some o → g.B a → g.O a = none → H' a = some o ∧ g'.I a = g.I a ∧ g'.O a = none
/-- an expression's step: the slots' own lists stay too -/
structure StpE (g : Gh) (H : Hp) (g' : Gh) (H' : Hp) : Prop extends Stp g H g' H' where
  nc : ∀ a o, H a = some o → (∀ k, g.O a ≠ some (.ce k)) → H' a = some o ∧ ∀ k, g'.O a ≠ some (.ce k)
theorem Stp.refl {g : Gh} {H : Hp} : Stp g H g H := ⟨GLe.refl g, fun _ _ h _ o => ⟨h, rfl, o⟩⟩
theorem StpE.refl {g : Gh} {H : Hp} : StpE g H g H := ⟨Stp.refl, fun _ _ h o => ⟨h, o⟩⟩
theorem Stp.trans {g1 g2 g3 : Gh} {H1 H2 H3 : Hp} (a : Stp g1 H1 g2 H2) (b : Stp g2 H2 g3 H3) : Stp g1 H1 g3 H3 :=
  ⟨a.le.trans b.le, fun x o h hb q => by
    obtain ⟨h2, i2, o2⟩ := a.fr x o h hb q
    obtain ⟨h3, i3, o3⟩ := b.fr x o h2 (by rw [a.le.B]; exact hb) o2
    exact ⟨h3, i3.trans i2, o3⟩⟩
theorem StpE.trans {g1 g2 g3 : Gh} {H1 H2 H3 : Hp} (a : StpE g1 H1 g2 H2) (b : StpE g2 H2 g3 H3) : StpE g1 H1 g3 H3 :=
  ⟨a.toStp.trans b.toStp, fun x o h q => by
    obtain ⟨h2, o2⟩ := a.nc x o h q
    exact b.nc x o h2 o2⟩

/-- what an exception bears -/
def ExcR (T : Tab) (g : Gh) (H : Hp) (cls : Value) (dd : Option Addr) (x : Exc) : Prop :=
  cls = .ref (T.cls x.C) ∧ (x.fs = [] ∨ ∃ d vfs, dd = some d ∧ H d = some (.xd vfs) ∧ RepF T g vfs x.fs ∧ ¬ g.B d)

/-- a value that is only looked into: lasting, or a list that is owned -/
def RepB (T : Tab) (g : Gh) (H : Hp) (v : V) (d : D) : Prop :=
  Rep T g v d ∨ ∃ a vs xs, v = .ref a ∧ d = .lst xs ∧ H a = some (.lst vs) ∧ (∀ k, g.O a ≠ some (.ce k)) ∧ Reps T g vs xs
theorem RepB.step {T : Tab} {g g' : Gh} {H H' : Hp} {v : V} {d : D} (s : StpE g H g' H') (r : RepB T g H v d) : RepB T g' H' v d := by
  rcases r with r | ⟨a, vs, xs, e1, e2, h, o, r⟩
  · exact .inl (Rep.mono s.le v d r)
  · obtain ⟨h', o'⟩ := s.nc a _ h o
    exact .inr ⟨a, vs, xs, e1, e2, h', o', Reps.mono s.le _ _ r⟩

/-! ### readings -/
/-- R: how what comes stands for what is said -/
def Post {α β : Type} (T : Tab) (R : Gh → Hp → β → α → Prop) (W : WX) (g : Gh) (σ : L2.St) (H : Hp) (Q : β → Hp → Prop) : Out α → Prop
  | .ok d c => ∀ v g' H', StpE g H g' H' → Held T g' σ H' c → R g' H' v d → Q v H'
  | .err x c => ∀ cls dd g' H', StpE g H g' H' → Held T g' σ H' c → ExcR T g' H' cls dd x → W cls dd σ H'
  | .stuck => False
def rd {α β : Type} (T : Tab) (R : Gh → Hp → β → α → Prop) (W : WX) (m : M α) : L2.St → Hp → (β → Hp → Prop) → Prop :=
  fun σ H Q => ∃ g c, Held T g σ H c ∧ Post T R W g σ H Q (m c)
abbrev RV1 (T : Tab) : Gh → Hp → V → D → Prop := fun g _ v d => Rep T g v d
abbrev RVs (T : Tab) : Gh → Hp → List V → List D → Prop := fun g _ v d => Reps T g v d
abbrev REq {α : Type} : Gh → Hp → α → α → Prop := fun _ _ b a => b = a
section
variable {α β γ δ : Type} {T : Tab} {R : Gh → Hp → β → α → Prop} {R' : Gh → Hp → δ → γ → Prop} {W : WX} {g g' : Gh} {σ : L2.St} {H H' : Hp}
theorem Post.imp {Q Q' : β → Hp → Prop} {o : Out α} (h : ∀ v H, Q v H → Q' v H) (p : Post T R W g σ H Q o) : Post T R W g σ H Q' o := by
  cases o with
  | ok d c => exact fun v g' H' s k r => h _ _ (p v g' H' s k r)
  | err x c => exact p
  | stuck => exact p
theorem Post.from {Q : β → Hp → Prop} {o : Out α} (s : StpE g H g' H') (p : Post T R W g σ H Q o) : Post T R W g' σ H' Q o := by
  cases o with
  | ok d c => exact fun v g2 H2 s2 k r => p v g2 H2 (s.trans s2) k r
  | err x c => exact fun cls dd g2 H2 s2 k r => p cls dd g2 H2 (s.trans s2) k r
  | stuck => exact p
theorem Post.bnd {Q : δ → Hp → Prop} {m : M α} {f : α → M γ} {c : Cfg} (p : Post T R' W g σ H Q (M.bnd m f c)) :
    Post T R W g σ H (fun b H1 => ∃ a g1 c1, StpE g H g1 H1 ∧ Held T g1 σ H1 c1 ∧ R g1 H1 b a ∧ Post T R' W g1 σ H1 Q (f a c1)) (m c) := by
  unfold M.bnd at p
  cases e : m c with
  | ok a c1 =>
    rw [e] at p
    exact fun b g1 H1 s k r => ⟨a, g1, c1, s, k, r, Post.from s p⟩
  | err x c1 =>
    rw [e] at p
    exact p
  | stuck =>
    rw [e] at p
    exact p
/-- an answer that is at hand -/
theorem Post.here {Q : β → Hp → Prop} {d : α} {c : Cfg} {v : β} (k : Held T g σ H c) (r : R g H v d) (p : Post T R W g σ H Q (.ok d c)) : Q v H := p v g H StpE.refl k r
end
/-- statements -/
def PostS (T : Tab) (W : WX) (g : Gh) (H : Hp) (E : Ends) : Out Flow → Prop
  | .ok .nx c => ∀ σ' g' H', Stp g H g' H' → Held T g' σ' H' c → E.nx σ' H'
  | .ok .bk c => ∀ σ' g' H', Stp g H g' H' → Held T g' σ' H' c → E.bk σ' H'
  | .ok .ct c => ∀ σ' g' H', Stp g H g' H' → Held T g' σ' H' c → E.ct σ' H'
  | .ok (.rt (.v d)) c => ∀ v σ' g' H', Stp g H g' H' → Held T g' σ' H' c → Rep T g' v d → E.rt v H'
  | .ok (.rt (.f xs)) c => ∀ a vs σ' g' H', Stp g H g' H' → Held T g' σ' H' c → ¬ g'.B a → g'.I a = none → (∀ k, g'.O a ≠ some (.ce k)) → H' a = some (.lst vs) → Reps T g' vs xs → E.rt (.ref a) H'
  | .err x c => ∀ cls dd σ' g' H', Stp g H g' H' → Held T g' σ' H' c → ExcR T g' H' cls dd x → W cls dd σ' H'
  | .stuck => False
def rdS (T : Tab) (W : WX) (m : M Flow) : TS := fun E σ H => ∃ g c, Held T g σ H c ∧ PostS T W g H E (m c)

/-! ### defs -/
def PostF (T : Tab) (g : Gh) (H : Hp) (Q : VK) (E : XK) : FOut → Prop
  | .ok (.v d) ce => ∀ v g' H', Stp g H g' H' → Held T g' [] H' ⟨[], ce⟩ → Rep T g' v d → Q v H'
  | .ok (.f xs) ce => ∀ a vs g' H', Stp g H g' H' → Held T g' [] H' ⟨[], ce⟩ → ¬ g'.B a → g'.I a = none → (∀ k, g'.O a ≠ some (.ce k)) → H' a = some (.lst vs) → Reps T g' vs xs → Q (.ref a) H'
  | .err x ce => ∀ cls dd g' H', Stp g H g' H' → Held T g' [] H' ⟨[], ce⟩ → ExcR T g' H' cls dd x → E cls dd H'
  | .stuck => False
/-- the entry of a def: nothing is owned but the cells; all that stands stood at the entry -/
structure Entry (T : Tab) (g : Gh) (H : Hp) (ce : List (List D)) : Prop where
  held : Held T g [] H ⟨[], ce⟩
  own : ∀ a i, g.O a ≠ some (.sl i)
  bs : ∀ a, H a ≠ none → g.B a
def spF (T : Tab) (F : FnS) : Sp := fun vs H Q E => ∃ g ds ce, Entry T g H ce ∧ Reps T g vs ds ∧ PostF T g H Q E (F ds ce)
end TL

end
section
set_option Elab.async false
set_option linter.all false
set_option maxRecDepth 100000
/-! Tl3: the ghost's moves; names, constants, operators, tests, displays, calls of defs. -/
namespace TL
open PySem L2

section
variable {T : Tab} {g g' : Gh} {σ : L2.St} {H H' : Hp} {c : Cfg}

/-- a slot's own list becomes lasting -/
def Gh.frz (g : Gh) (a : Addr) (o : HO) : Gh := { g with I := upd g.I a o, O := fun b => if b = a then none else g.O b }
theorem frz_step {a : Addr} {o : HO} {w : Ow} (k : Held T g σ H c) (ho : g.O a = some w) (h : H a = some o) : StpE g H (g.frz a o) H := by
  have hI : g.I a = none := (k.ow a (by rw [ho]; simp)).1
  refine ⟨⟨⟨⟨Ext.upd hI, ⟨[], by simp [Gh.frz]⟩⟩, rfl, rfl⟩, fun b u hb bb ob => ?_⟩, fun b u hb ob => ⟨hb, fun j => ?_⟩⟩
  · have ne : b ≠ a := fun z => by rw [z, ho] at ob; cases ob
    exact ⟨hb, upd_ne ne, by show (if b = a then none else g.O b) = none; rw [if_neg ne]; exact ob⟩
  · show (if b = a then none else g.O b) ≠ _
    by_cases e : b = a
    · rw [if_pos e]; exact fun z => nomatch z
    · rw [if_neg e]; exact ob j
theorem SlOk.frz {a : Addr} {o : HO} {i j : Nat} {s : Sl} (le : GLe g (g.frz a o)) (ho : g.O a = some (.sl i)) (ne : j ≠ i) (k : SlOk T g σ H j s) : SlOk T (g.frz a o) σ H j s := by
  have up : ∀ b, g.O b = some (.sl j) → (g.frz a o).O b = some (.sl j) := fun b e => by
    show (if b = a then none else g.O b) = _
    rw [if_neg (fun z => by rw [z, ho] at e; injection e with e; injection e with e; exact ne e.symm)]
    exact e
  cases s with
  | no => trivial
  | v d => obtain ⟨v, e, r⟩ := k; exact ⟨v, e, Rep.mono le _ _ r⟩
  | own xs => obtain ⟨b, vs, e, q, nb, h, r⟩ := k; exact ⟨b, vs, e, up b q, nb, h, Reps.mono le _ _ r⟩
  | obj C fs => obtain ⟨b, dx, vfs, es, e, q, h, r⟩ := k; exact ⟨b, dx, vfs, es, e, up b q, h, RepF.mono le _ _ r⟩
  | exc fs => obtain ⟨e, dd, vfs, q, h, r⟩ := k; exact ⟨e, dd, vfs, q, le.I _ _ h, RepF.mono le _ _ r⟩
theorem Held.frz {a : Addr} {o : HO} {i : Nat} {s : Sl} (k : Held T g σ H c) (ho : g.O a = some (.sl i)) (h : H a = some o) (new : SlOk T (g.frz a o) σ H i s) : Held T (g.frz a o) σ H { c with sl := c.sl.set i s } := by
  have st := frz_step k ho h
  have up : ∀ b, (g.frz a o).O b ≠ none → b ≠ a ∧ g.O b ≠ none := fun b z => by
    have z' : (if b = a then none else g.O b) ≠ none := z
    by_cases e : b = a
    · rw [if_pos e] at z'; exact absurd rfl z'
    · rw [if_neg e] at z'; exact ⟨e, z'⟩
  refine ⟨fun b u e => ?_, fun b z => ?_, k.bs, fun j s' e => ?_, k.cn, by simpa using k.ln, fun m b xs e1 e2 => ?_⟩
  · by_cases q : b = a
    · subst q
      have e' : upd g.I b o b = some u := e
      rw [upd_same] at e'; cases e'; exact h
    · have e' : upd g.I a o b = some u := e
      rw [upd_ne q] at e'; exact k.sub b u e'
  · obtain ⟨ne, nz⟩ := up b z
    exact ⟨(upd_ne ne).trans (k.ow b nz).1, (k.ow b nz).2⟩
  · have e' : (c.sl.set i s)[j]? = some s' := e
    by_cases q : j = i
    · subst q
      by_cases hl : j < c.sl.length
      · rw [List.getElem?_set_self hl] at e'; cases e'; exact new
      · rw [List.getElem?_eq_none (by simpa using hl)] at e'; cases e'
    · rw [List.getElem?_set_ne (Ne.symm q)] at e'
      exact (k.sl j s' e').frz st.le ho q
  · obtain ⟨h1, vs, h2, r⟩ := k.ce m b xs e1 e2
    refine ⟨?_, vs, h2, Reps.mono st.le _ _ r⟩
    show (if b = a then none else g.O b) = _
    rw [if_neg (fun z => by rw [z, ho] at h1; cases h1)]
    exact h1
/-- a new object that lasts -/
def Gh.new (g : Gh) (p : Addr) (o : HO) : Gh := { g with I := upd g.I p o }
theorem Held.free {p : Addr} (k : Held T g σ H c) (n : H p = none) : g.I p = none ∧ g.O p = none ∧ ¬ g.B p := by
  refine ⟨?_, ?_, fun b => k.bs p b n⟩
  · cases e : g.I p with
    | none => rfl
    | some u => rw [k.sub p u e] at n; cases n
  · cases e : g.O p with
    | none => rfl
    | some u => exact absurd n (k.ow p (by rw [e]; simp)).2
theorem upd_stepE {p : Addr} {o : HO} (k : Held T g σ H c) (n : H p = none) : StpE g H g (upd H p o) :=
  ⟨⟨GLe.refl g, fun a u e _ oo => ⟨(upd_ne (fun z => by rw [z, n] at e; cases e)).trans e, rfl, oo⟩⟩, fun a u e oo => ⟨(upd_ne (fun z => by rw [z, n] at e; cases e)).trans e, oo⟩⟩
theorem new_stepE {p : Addr} {o : HO} (k : Held T g σ H c) (n : H p = none) : StpE g H (g.new p o) (upd H p o) := by
  obtain ⟨f1, f2, f3⟩ := k.free n
  have ne : ∀ a u, H a = some u → a ≠ p := fun a u e z => by rw [z, n] at e; cases e
  exact ⟨⟨⟨⟨Ext.upd f1, ⟨[], by simp [Gh.new]⟩⟩, rfl, rfl⟩, fun a u e _ oo => ⟨(upd_ne (ne a u e)).trans e, upd_ne (ne a u e), oo⟩⟩, fun a u e oo => ⟨(upd_ne (ne a u e)).trans e, oo⟩⟩
theorem SlOk.step {i : Nat} {s : Sl} (le : GLe g g') (hH : ∀ a u, g.O a = some (.sl i) → H a = some u → H' a = some u ∧ g'.O a = some (.sl i)) (k : SlOk T g σ H i s) : SlOk T g' σ H' i s := by
  cases s with
  | no => trivial
  | v d => obtain ⟨v, e, r⟩ := k; exact ⟨v, e, Rep.mono le _ _ r⟩
  | own xs =>
    obtain ⟨b, vs, e, q, nb, h, r⟩ := k
    obtain ⟨h', q'⟩ := hH b _ q h
    exact ⟨b, vs, e, q', by rw [le.B]; exact nb, h', Reps.mono le _ _ r⟩
  | obj C fs =>
    obtain ⟨b, dx, vfs, es, e, q, h, r⟩ := k
    obtain ⟨h', q'⟩ := hH b _ q h
    exact ⟨b, dx, vfs, es.trans (congrArg Prod.fst le.sf.symm), e, q', h', RepF.mono le _ _ r⟩
  | exc fs => obtain ⟨e, dd, vfs, q, h, r⟩ := k; exact ⟨by rw [le.sf]; exact e, dd, vfs, by rw [le.sf]; exact q, le.I _ _ h, RepF.mono le _ _ r⟩
theorem Held.upd {p : Addr} {o : HO} (k : Held T g σ H c) (n : H p = none) : Held T g σ (L2.upd H p o) c := by
  have ne : ∀ a u, H a = some u → a ≠ p := fun a u e z => by rw [z, n] at e; cases e
  have keep : ∀ a u, H a = some u → L2.upd H p o a = some u := fun a u e => (upd_ne (ne a u e)).trans e
  refine ⟨fun b u e => keep b u (k.sub b u e), fun b z => ⟨(k.ow b z).1, ?_⟩, fun b z => ?_, fun j s e => (k.sl j s e).step (GLe.refl g) fun a u q h => ⟨keep a u h, q⟩, k.cn, k.ln, fun m b xs e1 e2 => ?_⟩
  · cases e : H b with
    | none => exact absurd e (k.ow b z).2
    | some u => rw [keep b u e]; simp
  · cases e : H b with
    | none => exact absurd e (k.bs b z)
    | some u => rw [keep b u e]; simp
  · obtain ⟨h1, vs, h2, r⟩ := k.ce m b xs e1 e2
    exact ⟨h1, vs, keep b _ h2, r⟩
theorem Held.new {p : Addr} {o : HO} (k : Held T g σ H c) (n : H p = none) : Held T (g.new p o) σ (L2.upd H p o) c := by
  obtain ⟨f1, f2, f3⟩ := k.free n
  have ne : ∀ a u, H a = some u → a ≠ p := fun a u e z => by rw [z, n] at e; cases e
  have keep : ∀ a u, H a = some u → L2.upd H p o a = some u := fun a u e => (upd_ne (ne a u e)).trans e
  have st := new_stepE (o := o) k n
  refine ⟨fun b u e => ?_, fun b z => ?_, fun b z => ?_, fun j s e => (k.sl j s e).step st.le fun a u q h => ⟨keep a u h, q⟩, k.cn, k.ln, fun m b xs e1 e2 => ?_⟩
  · by_cases q : b = p
    · subst q
      have e' : L2.upd g.I b o b = some u := e
      rw [upd_same] at e' ⊢; exact e'
    · have e' : L2.upd g.I p o b = some u := e
      rw [upd_ne q] at e' ⊢; exact k.sub b u e'
  · have nb : b ≠ p := fun q => by subst q; exact z f2
    obtain ⟨z1, z2⟩ := k.ow b z
    exact ⟨(upd_ne nb).trans z1, by rw [upd_ne nb]; exact z2⟩
  · have nb : b ≠ p := fun q => by subst q; exact f3 z
    rw [upd_ne nb]; exact k.bs b z
  · obtain ⟨h1, vs, h2, r⟩ := k.ce m b xs e1 e2
    exact ⟨h1, vs, keep b _ h2, Reps.mono st.le _ _ r⟩
end

/-! ### the context -/
structure Ctx (T : Tab) (W : WX) (X : Cx) : Prop where
  K : X.K = T.K
  mg : X.mg = T.mg
  tk : Takes X W
  po : PassesOwn (model X.prog X.w) X.A X.env X.xe
  calm : X.calm = true
  nd : X.N.Nodup

abbrev SndE (T : Tab) (W : WX) (X : Cx) (e : Expr) (m : M D) : Prop := PE X e (rd T (RV1 T) W m)
abbrev SndB (T : Tab) (W : WX) (X : Cx) (e : Expr) (m : M D) : Prop := PE X e (rd T (RepB T) W m)
abbrev SndT (T : Tab) (W : WX) (X : Cx) (e : Expr) (m : M Bool) : Prop := PT X e (rd T REq W m)
abbrev SndW (T : Tab) (W : WX) (X : Cx) (e : Expr) (m : M Bool) : Prop := PW X e (rd T REq W m)
abbrev SndA (T : Tab) (W : WX) (X : Cx) (es : List Expr) (m : M (List D)) : Prop := PA X es (rd T (RVs T) W m)
abbrev SndS (T : Tab) (W : WX) (X : Cx) (s : Stmt) (m : M Flow) : Prop := PS X s (rdS T W m)
abbrev SndSs (T : Tab) (W : WX) (X : Cx) (s : List Stmt) (m : M Flow) : Prop := PSs X s (rdS T W m)

theorem PE.imp {X : Cx} {e : Expr} {t t' : TE} (p : PE X e t) (h : ∀ σ H Q, t' σ H Q → t σ H Q) : PE X e t' := ⟨fun pins s σ H Q I q => p.run pins s σ H Q I (h σ H Q q)⟩
theorem PT.imp {X : Cx} {e : Expr} {t t' : TT} (p : PT X e t) (h : ∀ σ H Q, t' σ H Q → t σ H Q) : PT X e t' := ⟨fun pins s σ H Q I q => p.run pins s σ H Q I (h σ H Q q)⟩
theorem PW.imp {X : Cx} {e : Expr} {t t' : TT} (p : PW X e t) (h : ∀ σ H Q, t' σ H Q → t σ H Q) : PW X e t' := ⟨fun wh pins s σ H Q I q => p.run wh pins s σ H Q I (h σ H Q q)⟩
theorem PA.imp {X : Cx} {e : List Expr} {t t' : TA} (p : PA X e t) (h : ∀ σ H Q, t' σ H Q → t σ H Q) : PA X e t' := ⟨fun pos pins s σ H Q I q => p.run pos pins s σ H Q I (h σ H Q q)⟩
theorem PS.imp {X : Cx} {e : Stmt} {t t' : TS} (p : PS X e t) (h : ∀ D σ H, t' D σ H → t D σ H) : PS X e t' := ⟨fun pins s σ H D I q => p.run pins s σ H D I (h D σ H q)⟩
theorem PSs.imp {X : Cx} {e : List Stmt} {t t' : TS} (p : PSs X e t) (h : ∀ D σ H, t' D σ H → t D σ H) : PSs X e t' := ⟨fun pins s σ H D I q => p.run pins s σ H D I (h D σ H q)⟩

section
variable {T : Tab} {W : WX} {X : Cx} {pos : Pos}

theorem SndE.b {e : Expr} {m : M D} (h : SndE T W X e m) : SndB T W X e m := PE.imp h fun σ H Q ⟨g, c, k, p⟩ => ⟨g, c, k, by
  cases e : m c with
  | ok d c' => rw [e] at p; exact fun v g' H' s k r => p v g' H' s k (.inl r)
  | err x c' => rw [e] at p; exact p
  | stuck => rw [e] at p; exact p⟩

/-! constants -/
theorem s_const {e : Expr} {v : V} {d : D} (h : PE X e (tC v)) (r : ∀ g, Rep T g v d) : SndE T W X e (eC d) :=
  PE.imp h fun σ H Q ⟨g, c, k, p⟩ => Post.here k (r g) p
theorem s_int {i : Int} {j} : SndE T W X (.Constant (.int i) j pos) (eC (.int i)) := s_const pe_int fun _ => rfl
theorem s_bl {b : Bool} {j} : SndE T W X (.Constant (.bool b) j pos) (eC (.bl b)) := s_const pe_bl fun _ => rfl
theorem s_non {j} : SndE T W X (.Constant .none j pos) (eC .non) := s_const pe_non fun _ => rfl
theorem s_str {x : Str} {j} : SndE T W X (.Constant (.str x) j pos) (eC (.str x)) := s_const pe_str fun _ => rfl

/-! names -/
theorem s_name (i : Nat) {x : Str} (hN : X.N[i]? = some x := by rfl) (hv : Vis X.env.scope x := by first | exact Or.inl rfl | exact Or.inr (Or.inl rfl) | exact Or.inr (Or.inr rfl)) (hd : (x == ("__debug__" : Str)) = false := by decide)
    (hcd : (x == ("__classdict__" : Str)) = false := by decide) : SndE T W X (.Name x pos) (eName i) := PE.imp (pv i hN hv hd hcd) fun σ H Q ⟨g, c, k, p⟩ => by
  unfold eName at p
  cases e : c.sl[i]? with
  | none => rw [e] at p; exact p.elim
  | some s =>
    rw [e] at p
    have q := k.sl i s e
    cases s with
    | no => exact p.elim
    | obj C fs => exact p.elim
    | exc fs => exact p.elim
    | v d =>
      obtain ⟨v, ev, r⟩ := q
      exact ⟨v, ev, Post.here k r p⟩
    | own xs =>
      obtain ⟨a, vs, ev, ho, nb, h, r⟩ := q
      refine ⟨.ref a, ev, ?_⟩
      have st := frz_step k ho h
      have r' : Rep T (g.frz a (.lst vs)) (.ref a) (.lst xs) := ⟨a, vs, rfl, upd_same, Reps.mono st.le _ _ r⟩
      exact p (.ref a) _ H st (k.frz ho h ⟨_, ev, r'⟩) r'
theorem sb_name (i : Nat) {x : Str} (hN : X.N[i]? = some x := by rfl) (hv : Vis X.env.scope x := by first | exact Or.inl rfl | exact Or.inr (Or.inl rfl) | exact Or.inr (Or.inr rfl)) (hd : (x == ("__debug__" : Str)) = false := by decide)
    (hcd : (x == ("__classdict__" : Str)) = false := by decide) : SndB T W X (.Name x pos) (eNameB i) := PE.imp (pv i hN hv hd hcd) fun σ H Q ⟨g, c, k, p⟩ => by
  unfold eNameB at p
  cases e : c.sl[i]? with
  | none => rw [e] at p; exact p.elim
  | some s =>
    rw [e] at p
    have q := k.sl i s e
    cases s with
    | no => exact p.elim
    | obj C fs => exact p.elim
    | exc fs => exact p.elim
    | v d =>
      obtain ⟨v, ev, r⟩ := q
      exact ⟨v, ev, Post.here k (.inl r) p⟩
    | own xs =>
      obtain ⟨a, vs, ev, ho, nb, h, r⟩ := q
      exact ⟨.ref a, ev, Post.here k (.inr ⟨a, vs, xs, rfl, rfl, h, (fun j => by rw [ho]; exact fun z => nomatch z), r⟩) p⟩
end
end TL

end
section
set_option Elab.async false
set_option linter.all false
set_option maxRecDepth 100000
/-! Tl4: calls of the program's defs, and a def by its body. -/
namespace TL
open PySem L2

/-! ### in and out of a call -/
/-- the callee's ghost -/
def Gh.cal (g : Gh) (H : Hp) (sf : Addr × Option Addr := (0, none)) : Gh :=
  { I := g.I, O := fun a => (match g.O a with | some (.ce k) => some (.ce k) | _ => none), cl := g.cl, B := fun a => H a ≠ none, sf := sf }
/-- the caller's ghost behind it -/
def Gh.bak (g g' : Gh) : Gh :=
  { I := g'.I, O := fun a => (match g.O a with | some (.sl i) => some (.sl i) | _ => (match g'.O a with | some (.ce k) => some (.ce k) | _ => none)), cl := g'.cl, B := g.B, sf := g.sf }
section
variable {T : Tab} {g g' : Gh} {σ : L2.St} {H H' : Hp} {c : Cfg} {sf : Addr × Option Addr}
theorem cal_none {a : Addr} (h : ∀ k, g.O a ≠ some (.ce k)) : (g.cal H sf).O a = none := by
  show (match g.O a with | some (.ce k) => some (Ow.ce k) | _ => none) = none
  cases e : g.O a with
  | none => rfl
  | some w => cases w with
    | sl i => rfl
    | ce k => exact absurd e (h k)
theorem cal_ce {a : Addr} {k : Nat} (h : g.O a = some (.ce k)) : (g.cal H sf).O a = some (.ce k) := by
  show (match g.O a with | some (.ce k) => some (Ow.ce k) | _ => none) = some (.ce k)
  rw [h]
theorem GL.cal : GL g (g.cal H sf) := ⟨fun _ _ h => h, ⟨[], by simp [Gh.cal]⟩⟩
theorem GL.bak {h : GL (g.cal H sf) g'} : GL g (g.bak g') := ⟨h.I, h.cl⟩
theorem GL.out : GL g' (g.bak g') := ⟨fun _ _ h => h, ⟨[], by simp [Gh.bak]⟩⟩
theorem entry_of (k : Held T g σ H c) : Entry T (g.cal H sf) H c.ce where
  held := by
    refine ⟨k.sub, fun a z => ?_, fun a z => z, fun i s e => by simp at e, k.cn, Nat.zero_le _, fun m b xs e1 e2 => ?_⟩
    · have z' : g.O a ≠ none := fun q => z (cal_none fun k => by rw [q]; exact fun w => nomatch w)
      exact k.ow a z'
    · obtain ⟨h1, vs, h2, r⟩ := k.ce m b xs e1 e2
      exact ⟨cal_ce h1, vs, h2, Reps.gl .cal _ _ r⟩
  own := fun a i => by
    show (match g.O a with | some (.ce k) => some (Ow.ce k) | _ => none) ≠ _
    cases e : g.O a with
    | none => exact fun z => nomatch z
    | some w => cases w with
      | sl i => exact fun z => nomatch z
      | ce k => exact fun z => nomatch z
  bs := fun a z => z
theorem bak_sl {a : Addr} {i : Nat} (h : g.O a = some (.sl i)) : (g.bak g').O a = some (.sl i) := by
  show (match g.O a with | some (.sl i) => some (Ow.sl i) | _ => _) = _
  rw [h]
theorem bak_ce {a : Addr} {k : Nat} (h : ∀ i, g.O a ≠ some (.sl i)) (h' : g'.O a = some (.ce k)) : (g.bak g').O a = some (.ce k) := by
  show (match g.O a with | some (.sl i) => some (Ow.sl i) | _ => (match g'.O a with | some (.ce k) => some (Ow.ce k) | _ => none)) = _
  cases e : g.O a with
  | none => rw [h']
  | some w => cases w with
    | sl i => exact absurd e (h i)
    | ce k => rw [h']
theorem bak_none {a : Addr} (h : ∀ i, g.O a ≠ some (.sl i)) (h' : ∀ k, g'.O a ≠ some (.ce k)) : (g.bak g').O a = none := by
  show (match g.O a with | some (.sl i) => some (Ow.sl i) | _ => (match g'.O a with | some (.ce k) => some (Ow.ce k) | _ => none)) = _
  have q : (match g'.O a with | some (.ce k) => some (Ow.ce k) | _ => none) = none := by
    cases e : g'.O a with
    | none => rfl
    | some w => cases w with
      | sl i => rfl
      | ce k => exact absurd e (h' k)
  cases e : g.O a with
  | none => exact q
  | some w => cases w with
    | sl i => exact absurd e (h i)
    | ce k => exact q
theorem bak_not {a : Addr} {k : Nat} (h : (g.bak g').O a = some (.ce k)) : (∀ i, g.O a ≠ some (.sl i)) ∧ g'.O a = some (.ce k) := by
  have hi : ∀ i, g.O a ≠ some (.sl i) := fun i z => by rw [bak_sl z] at h; cases h
  refine ⟨hi, ?_⟩
  cases e : g'.O a with
  | none => rw [bak_none hi fun k => by rw [e]; exact fun z => nomatch z] at h; cases h
  | some w => cases w with
    | sl i => rw [bak_none hi fun k => by rw [e]; exact fun z => nomatch z] at h; cases h
    | ce j => rw [bak_ce hi e] at h; exact h
/-- the caller behind the call -/
theorem bak_step (k : Held T g σ H c) (s : Stp (g.cal H sf) H g' H') : StpE g H (g.bak g') H' := by
  refine ⟨⟨⟨⟨s.le.I, s.le.cl⟩, rfl, rfl⟩, fun a o h _ z => ?_⟩, fun a o h z => ?_⟩
  · obtain ⟨h1, h2, h3⟩ := s.fr a o h (show H a ≠ none by rw [h]; simp) (cal_none fun k => by rw [z]; exact fun w => nomatch w)
    exact ⟨h1, h2, bak_none (fun i => by rw [z]; exact fun w => nomatch w) fun k => by rw [h3]; exact fun w => nomatch w⟩
  · obtain ⟨h1, h2, h3⟩ := s.fr a o h (show H a ≠ none by rw [h]; simp) (cal_none z)
    exact ⟨h1, fun j q => by have := (bak_not q).2; rw [h3] at this; cases this⟩
theorem bak_held {ce : List (List D)} (k : Held T g σ H c) (s : Stp (g.cal H sf) H g' H') (q : Held T g' [] H' ⟨[], ce⟩) : Held T (g.bak g') σ H' { c with ce := ce } := by
  have le : GL g (g.bak g') := GL.bak (h := s.le.toGL)
  have noce : ∀ a i, g.O a = some (.sl i) → ∀ k, g.O a ≠ some (.ce k) := fun a i e k z => by rw [e] at z; cases z
  have keepO : ∀ a i, g.O a = some (.sl i) → ∀ o, H a = some o → H' a = some o ∧ g'.I a = g.I a ∧ g'.O a = none := fun a i e o h => by
    exact s.fr a o h (show H a ≠ none by rw [h]; simp) (cal_none (noce a i e))
  refine ⟨q.sub, fun a z => ?_, fun a z => q.bs a (by rw [s.le.B]; exact k.bs a z), fun i t e => ?_, q.cn, k.ln, fun m b xs e1 e2 => ?_⟩
  · cases e : g.O a with
    | none =>
      have hi : ∀ i, g.O a ≠ some (.sl i) := fun i => by rw [e]; exact fun w => nomatch w
      have z' : g'.O a ≠ none := fun w => z (bak_none hi fun k => by rw [w]; exact fun w => nomatch w)
      exact q.ow a z'
    | some w => cases w with
      | sl i =>
        obtain ⟨h1, h2⟩ := k.ow a (by rw [e]; exact fun w => nomatch w)
        cases e2 : H a with
        | none => exact absurd e2 h2
        | some o =>
          obtain ⟨x1, x2, x3⟩ := keepO a i e o e2
          exact ⟨x2.trans h1, by rw [x1]; exact fun w => nomatch w⟩
      | ce j =>
        have hi : ∀ i, g.O a ≠ some (.sl i) := fun i => by rw [e]; exact fun w => nomatch w
        have z' : g'.O a ≠ none := fun w => z (bak_none hi fun k => by rw [w]; exact fun w => nomatch w)
        exact q.ow a z'
  · have hk := k.sl i t e
    cases t with
    | no => trivial
    | v d => obtain ⟨v, ev, r⟩ := hk; exact ⟨v, ev, Rep.gl le _ _ r⟩
    | own xs => obtain ⟨b, vs, ev, o, nb, h, r⟩ := hk; exact ⟨b, vs, ev, bak_sl o, nb, (keepO b i o _ h).1, Reps.gl le _ _ r⟩
    | obj C fs => obtain ⟨b, dx, vfs, es, ev, o, h, r⟩ := hk; exact ⟨b, dx, vfs, es, ev, bak_sl o, (keepO b i o _ h).1, RepF.gl le _ _ r⟩
    | exc fs => obtain ⟨ev, dd, vfs, o, h, r⟩ := hk; exact ⟨ev, dd, vfs, o, le.I _ _ h, RepF.gl le _ _ r⟩
  · obtain ⟨h1, vs, h2, r⟩ := q.ce m b xs e1 e2
    refine ⟨bak_ce (fun i z => ?_) h1, vs, h2, Reps.gl GL.out _ _ r⟩
    obtain ⟨h3, h4⟩ := k.ow b (by rw [z]; exact fun w => nomatch w)
    cases e2 : H b with
    | none => exact absurd e2 h4
    | some o => rw [(keepO b i z o e2).2.2] at h1; cases h1
/-- a new list that nobody owns becomes lasting -/
theorem free_step {a : Addr} {o : HO} (hI : g.I a = none) (oa : g.O a = none) (nb : ¬ g.B a) (h : H a = some o) : (g.frz a o).O = g.O ∧ StpE g H (g.frz a o) H := by
  have eO : (g.frz a o).O = g.O := by
    funext b
    show (if b = a then none else g.O b) = g.O b
    by_cases e : b = a
    · rw [if_pos e, e, oa]
    · rw [if_neg e]
  exact ⟨eO, ⟨⟨⟨Ext.upd hI, ⟨[], by simp [Gh.frz]⟩⟩, rfl, rfl⟩, fun b u e q z => ⟨e, upd_ne (fun w => nb (w ▸ q)), by rw [eO]; exact z⟩⟩, fun b u e z => ⟨e, by rw [eO]; exact z⟩⟩
theorem lst_step {a : Addr} {vs : List V} {xs : List D} (k : Held T g σ H c) (hI : g.I a = none) (oa : g.O a = none) (nb : ¬ g.B a) (h : H a = some (.lst vs)) (r : Reps T g vs xs) :
    StpE g H (g.frz a (.lst vs)) H ∧ Held T (g.frz a (.lst vs)) σ H c ∧ Rep T (g.frz a (.lst vs)) (.ref a) (.lst xs) := by
  obtain ⟨eO, st⟩ := free_step hI oa nb h
  have le := st.le
  refine ⟨st, ⟨fun b u e => ?_, fun b z => ?_, k.bs, fun i t e => (k.sl i t e).step le fun b u q e => ⟨e, by rw [eO]; exact q⟩, k.cn, k.ln, fun m b ys e1 e2 => ?_⟩, ⟨a, vs, rfl, upd_same, Reps.mono le _ _ r⟩⟩
  · by_cases q : b = a
    · subst q
      have e' : L2.upd g.I b (.lst vs) b = some u := e
      rw [upd_same] at e'; cases e'; exact h
    · have e' : L2.upd g.I a (.lst vs) b = some u := e
      rw [upd_ne q] at e'; exact k.sub b u e'
  · rw [eO] at z
    have nb : b ≠ a := fun q => by rw [q, oa] at z; exact z rfl
    exact ⟨(upd_ne nb).trans (k.ow b z).1, (k.ow b z).2⟩
  · obtain ⟨h1, vs', h2, r'⟩ := k.ce m b ys e1 e2
    exact ⟨by rw [eO]; exact h1, vs', h2, Reps.mono le _ _ r'⟩
end

/-! ### the callee runs -/
def callR (F : FnS) (ds : List D) : M D := fun c => match F ds c.ce with
  | .ok (.v d) ce => .ok d { c with ce := ce }
  | .ok (.f xs) ce => .ok (.lst xs) { c with ce := ce }
  | .err x ce => .err x { c with ce := ce }
  | .stuck => .stuck
section
variable {T : Tab} {W : WX} {X : Cx} {k : Nat} {f : Addr} {fd : FuncData} {ps : List Str} {F : FnS}
/-- what a call wants, from what is said of its result -/
theorem sp_of {g : Gh} {σ : L2.St} {H : Hp} {c : Cfg} {Q : VK} {vs : List V} {ds : List D} (h : Held T g σ H c) (r : Reps T g vs ds) (p : Post T (RV1 T) W g σ H Q (callR F ds c)) :
    spF T F vs H Q (WE W σ) := by
  refine ⟨g.cal H, ds, c.ce, entry_of h, Reps.gl .cal _ _ r, ?_⟩
  unfold callR at p
  cases e : F ds c.ce with
  | stuck => rw [e] at p; exact p
  | err x ce =>
    rw [e] at p
    intro cls dd g' H' s q x
    refine p cls dd (g.bak g') H' (bak_step h s) (bak_held h s q) ?_
    obtain ⟨e1, e2⟩ := x
    refine ⟨e1, ?_⟩
    rcases e2 with e2 | ⟨d, vfs, a1, a2, a3, a4⟩
    · exact .inl e2
    · exact .inr ⟨d, vfs, a1, a2, RepF.gl GL.out _ _ a3, fun z => a4 (by rw [s.le.B]; exact h.bs d z)⟩
  | ok rv ce =>
    rw [e] at p
    cases rv with
    | v d => exact fun v g' H' s q r => p v (g.bak g') H' (bak_step h s) (bak_held h s q) (Rep.gl GL.out _ _ r)
    | f xs =>
      intro a ws g' H' s q nb hI hO hl r
      have n0 : H a = none := by
        cases e : H a with
        | none => rfl
        | some o => exact absurd (show g'.B a by rw [s.le.B]; show H a ≠ none; rw [e]; simp) nb
      have ns : ∀ i, g.O a ≠ some (.sl i) := fun i z => (h.ow a (by rw [z]; simp)).2 n0
      have o : (g.bak g').O a = none := bak_none ns hO
      have st := bak_step h s
      obtain ⟨x1, x2, x3⟩ := lst_step (bak_held h s q) hI o (fun z => h.bs a z n0) hl (Reps.gl GL.out _ _ r)
      exact p (.ref a) _ H' (st.trans x1) x2 x3
/-- run_fn, the wish by the slots -/
theorem run_F {pins : List (Addr × Obj)} {σ : L2.St} {H : Hp} {s : Shared} {Q : VK} {us : List Value} {vs : List V} {dvs : List V} {ds : List Value} {sp : Sp} (Fk : FnOk X.prog X.w X.K X.mg X.base (L2.CX X.prog X.w) k f fd ps sp) (hr : Room k X.A) (hb : Binds X.K fd ps ds) (hd : Vals dvs ds)
    (tk : Takes X W) (I : Inv X pins σ H s) (r : Vals vs us) (h : sp (vs ++ dvs) H Q (WE W σ)) : wpAny (model X.prog X.w) X.A (call (.ref f) us) (EP X pins σ Q) X.xe s := by
  have r2 : Vals (vs ++ dvs) (us ++ ds) := r.append hd
  have hl : (us ++ ds).length = ps.length := by rw [← r2.length]; exact Fk.len _ _ _ _ h
  refine wpAny_call (codeAny_mono (Fk.run X.A X.stack s H ⟨us, []⟩ (us ++ ds) (vs ++ dvs) Q (WE W σ) hr I.env0 (hb s us I.kIn hl) r2 h) fun r s' hq => ?_)
  cases r with
  | error e => exact passAt tk σ pins H s e s' I hq
  | ok fl =>
    cases fl with
    | ret u => exact I.after hq
    | next => exact False.elim hq
    | brk => exact False.elim hq
    | cont => exact False.elim hq
end

/-! ### all defs -/
/-- the constant of a default: its tree, its value -/
def dflV : D → V
  | .int i => .int i
  | .bl b => .bl b
  | .non => .non
  | .str s => .str s
  | _ => .non
def isLit : D → Bool
  | .int _ => true
  | .bl _ => true
  | .non => true
  | .str _ => true
  | _ => false
theorem rep_lit {T : Tab} {g : Gh} : ∀ {d : D}, isLit d = true → Rep T g (dflV d) d
  | .int _, _ => rfl
  | .bl _, _ => rfl
  | .non, _ => rfl
  | .str _, _ => rfl
theorem reps_lit {T : Tab} {g : Gh} : ∀ {ds : List D}, ds.all isLit = true → Reps T g (ds.map dflV) ds
  | [], _ => rfl
  | d :: ds, h => by
    obtain ⟨h1, h2⟩ := Bool.and_eq_true_iff.mp (List.all_cons ▸ h)
    exact ⟨dflV d, ds.map dflV, rfl, rep_lit h1, reps_lit h2⟩
/-- what is known of a def's parameters: all written, or the last ones' defaults -/
def DflOk (T : Tab) (f : Nat) (fd : FuncData) (ps : List Str) : Prop := ∀ dl ∈ T.dfl f, dl.all isLit = true ∧ ∃ ds, Vals (dl.map dflV) ds ∧ Binds T.K fd ps ds
/-- the def number f keeps its promise at level k -/
structure FnG (T : Tab) (Φ : Phi) (P : Program) (w : World) (base : Heap) (k : Nat) (f : Nat) : Prop where
  ok : ∃ (fd : FuncData) (ps : List Str), FnOk P w T.K T.mg base (L2.CX P w) k (T.fa f) fd ps (spF T (Φ f)) ∧ DflOk T f fd ps
  kp : PySem.W.keepIn T.K (.ref (T.fa f)) = true

section
variable {T : Tab} {Φ : Phi} {W : WX} {X : Cx} {k : Nat} {pos p : Pos}
def eCall (Φ : Phi) (f : Nat) (dl : List D) (ma : M (List D)) : M D := M.bnd ma fun ds => callR (Φ f) (ds ++ dl)
theorem call_G {pins : List (Addr × Obj)} {σ : L2.St} {H : Hp} {s : Shared} {Q : VK} {us : List Value} {vs : List V} {f : Nat} {dl ds : List D} {g : Gh} {c : Cfg} (C : Ctx T W X) (F : FnG T Φ X.prog X.w X.base k f) (hr : Room k X.A) (hd : dl ∈ T.dfl f)
    (I : Inv X pins σ H s) (r : Vals vs us) (h : Held T g σ H c) (rs : Reps T g vs ds) (q : Post T (RV1 T) W g σ H Q (callR (Φ f) (ds ++ dl) c)) : wpAny (model X.prog X.w) X.A (call (.ref (T.fa f)) us) (EP X pins σ Q) X.xe s := by
  obtain ⟨⟨fd, ps, Fk, hb⟩, kp⟩ := F
  obtain ⟨hl, us2, r2, bd⟩ := hb dl hd
  exact run_F (by rw [C.K, C.mg]; exact Fk) hr (by rw [C.K]; exact bd) r2 C.tk I r (sp_of h (rs.app (reps_lit hl)) q)
theorem s_call {f : Nat} {x : Str} {e : Expr} {es : List Expr} {ma : M (List D)} {dl : List D} (C : Ctx T W X) (F : FnG T Φ X.prog X.w X.base k f) (hr : Room k X.A) (hm : T.mg x = some (.ref (T.fa f))) (hd : dl ∈ T.dfl f) (ha : SndA T W X (e :: es) ma) (hg : Gl X x := by rfl)
    (hdb : (x == ("__debug__" : Str)) = false := by decide) (he : starEach (e :: es) X.env = (false, eval e X.env) :: starEach es X.env := by rfl) (hpl : (backTo pos (starEach es X.env)).any (·.1) = false := by rfl) :
    SndE T W X (.Call (.Name x p) (e :: es) [] pos) (eCall Φ f dl ma) := by
  refine ⟨fun pins s σ H Q I ⟨g, c, h, q⟩ => ?_⟩
  refine wpAny_Call_Name_kw (ld_glob I hg (by rw [C.mg]; exact hm) ?_ hdb)
  refine PySem.W.callWith_K (h₀ := X.base) I.ok.mod.kin (by rw [C.K]; exact F.kp) (thn (ha.run pos pins s σ H _ I ⟨g, c, h, q.bnd⟩) fun us s1 ⟨vs, H1, I1, r, ds, g1, c1, s1', h1, r1, q1⟩ => ⟨I1.kIn, ?_⟩) he hpl
  exact call_G C F hr hd I1 r h1 r1 q1
theorem s_call0 {f : Nat} {x : Str} {dl : List D} (C : Ctx T W X) (F : FnG T Φ X.prog X.w X.base k f) (hr : Room k X.A) (hm : T.mg x = some (.ref (T.fa f))) (hd : dl ∈ T.dfl f) (hg : Gl X x := by rfl)
    (hdb : (x == ("__debug__" : Str)) = false := by decide) : SndE T W X (.Call (.Name x p) [] [] pos) (eCall Φ f dl (M.ret [])) := by
  refine ⟨fun pins s σ H Q I ⟨g, c, h, q⟩ => ?_⟩
  refine wpAny_Call_Name_kw (ld_glob I hg (by rw [C.mg]; exact hm) ?_ hdb)
  exact PySem.W.callWith_K0 I.kIn (by rw [C.K]; exact F.kp) (call_G (us := []) (vs := []) (ds := []) C F hr hd I .nil h rfl q)

/-! ### a local name that holds a def -/
def callD (Φ : Phi) (d : D) (ds : List D) : M D := match d with
  | .fn f => callR (Φ f) ds
  | _ => M.stk
def eCallV (Φ : Phi) (mf : M D) (ma : M (List D)) : M D := M.bnd mf fun d => M.bnd ma fun ds => callD Φ d ds
end

/-! ### instances made -/
/-- an instance by its fields: rat where they are a reduced fraction -/
def mkI (C : Nat) (fs : List (Nat × D)) : Option D := match C with
  | 0 => (match fs with
    | [(0, .int n), (1, .int d)] => if h : 0 < d ∧ n.natAbs.Coprime d.natAbs then some (.rat ⟨n, d.natAbs, by omega, h.2⟩) else none
    | _ => none)
  | C + 1 => some (.ins (C + 1) fs)
def PostI (T : Tab) (x : Addr) (g : Gh) (H : Hp) (Q : VK) (E : XK) : FOut → Prop
  | .ok (.v d) ce => ∀ g' H', Stp g H g' H' → Held T g' [] H' ⟨[], ce⟩ → Rep T g' (.ref x) d → Q .non H'
  | .ok (.f _) _ => False
  | .err y ce => ∀ cls dd g' H', Stp g H g' H' → Held T g' [] H' ⟨[], ce⟩ → ExcR T g' H' cls dd y → E cls dd H'
  | .stuck => False
/-- the promise of an __init__ -/
def spI (T : Tab) (C : Nat) (F : FnS) : Sp := fun vs H Q E => ∃ x dx vr g ds ce, vs = .ref x :: vr ∧ H x = some (.ins (T.cls C) dx []) ∧ g.sf = (x, none) ∧ g.O x = some (.sl 0) ∧ Held T g [] H ⟨[], ce⟩ ∧ (∀ a i, a ≠ x → g.O a ≠ some (.sl i)) ∧ Reps T g vr ds ∧ PostI T x g H Q E (F ds ce)
structure InG (T : Tab) (Φ : Phi) (P : Program) (w : World) (base : Heap) (k : Nat) (C f : Nat) : Prop where
  ok : ∃ (fd : FuncData) (ps : List Str), FnOk P w T.K T.mg base (L2.CX P w) k (T.fa f) fd ps (spI T C (Φ f)) ∧ DflOk T f fd ps
  mki : Mk T.K (T.cls C) (T.fa f)

section
variable {T : Tab} {Φ : Phi} {W : WX} {X : Cx} {k : Nat} {pos p : Pos}
def callI (F : FnS) (ds : List D) : M D := fun c => match F ds c.ce with
  | .ok (.v d) ce => .ok d { c with ce := ce }
  | .ok (.f _) _ => .stuck
  | .err x ce => .err x { c with ce := ce }
  | .stuck => .stuck
theorem make_G {pins : List (Addr × Obj)} {σ : L2.St} {H : Hp} {s : Shared} {Q : VK} {us : List Value} {vs : List V} {C0 f : Nat} {dl ds : List D} {g : Gh} {c : Cfg} (C : Ctx T W X) (F : InG T Φ X.prog X.w X.base k C0 f) (hr : Room (k + 1) X.A) (hd : dl ∈ T.dfl f)
    (I : Inv X pins σ H s) (r : Vals vs us) (h : Held T g σ H c) (rs : Reps T g vs ds) (p : Post T (RV1 T) W g σ H Q (callI (Φ f) (ds ++ dl) c)) : wpAny (model X.prog X.w) X.A (call (.ref (T.cls C0)) us) (EP X pins σ Q) X.xe s := by
  obtain ⟨⟨fd, ps, Fk, hb⟩, M⟩ := F
  obtain ⟨hl, us2, rd2, bd⟩ := hb dl hd
  have hq : ∀ x dx, H x = none → H dx = none → dx ≠ x → spI T C0 (Φ f) (.ref x :: (vs ++ dl.map dflV)) (upd (upd H dx (.own x)) x (.ins (T.cls C0) dx [])) (fun v H2 => v = .non ∧ Q (.ref x) H2) (WE W σ) := by
    intro x dx nx ndx ne
    have e0 := entry_of (sf := (x, none)) h
    have keep : ∀ a o, H a = some o → upd (upd H dx (.own x)) x (.ins (T.cls C0) dx []) a = some o := fun a o e => by
      rw [upd_ne (fun z => by rw [z, nx] at e; cases e), upd_ne (fun z => by rw [z, ndx] at e; cases e)]; exact e
    have fx := h.free nx
    let gi : Gh := { g.cal H (x, none) with O := fun a => if a = x then some (.sl 0) else (g.cal H (x, none)).O a }
    have giO : ∀ a, a ≠ x → gi.O a = (g.cal H (x, none)).O a := fun a z => if_neg z
    have gix : gi.O x = some (.sl 0) := if_pos rfl
    have cx : (g.cal H (x, none)).O x = none := cal_none fun k => by rw [fx.2.1]; exact fun z => nomatch z
    refine ⟨x, dx, vs ++ dl.map dflV, gi, ds ++ dl, c.ce, rfl, upd_same, rfl, gix, ?_, fun a i z => by rw [giO a z]; exact e0.own a i, ?_, ?_⟩
    · refine ⟨fun a o e => keep a o (h.sub a o e), fun a z => ?_, fun a z => ?_, fun i s e => by simp at e, h.cn, Nat.zero_le _, fun m b xs e1 e2 => ?_⟩
      · by_cases q : a = x
        · subst q; exact ⟨fx.1, by rw [upd_same]; simp⟩
        · rw [giO a q] at z
          obtain ⟨z1, z2⟩ := e0.held.ow a z
          refine ⟨z1, ?_⟩
          cases e : H a with
          | none => exact absurd e z2
          | some o => rw [keep a o e]; simp
      · cases e : H a with
        | none => exact absurd e z
        | some o => rw [keep a o e]; simp
      · obtain ⟨h1, ws, h2, r2⟩ := e0.held.ce m b xs e1 e2
        refine ⟨?_, ws, keep b _ h2, Reps.gl (⟨fun _ _ h => h, ⟨[], by simp [gi]⟩⟩ : GL (g.cal H (x, none)) gi) _ _ r2⟩
        rw [giO b (fun z => by rw [z, nx] at h2; cases h2)]; exact h1
    · exact Reps.gl (⟨fun _ _ h => h, ⟨[], by simp [gi, Gh.cal]⟩⟩ : GL g gi) _ _ (rs.app (reps_lit hl))
    · unfold callI at p
      have stp : ∀ g' H', Stp gi (upd (upd H dx (.own x)) x (.ins (T.cls C0) dx [])) g' H' → Stp (g.cal H (x, none)) H g' H' := fun g' H' st => by
        refine ⟨⟨⟨st.le.I, st.le.cl⟩, st.le.B, st.le.sf⟩, fun a o e hb z => ?_⟩
        have nex : a ≠ x := fun q => by rw [q, nx] at e; cases e
        exact st.fr a o (keep a o e) hb (by rw [giO a nex]; exact z)
      cases e : Φ f (ds ++ dl) c.ce with
      | stuck => rw [e] at p; exact p
      | err y ce =>
        rw [e] at p
        intro cls dd g' H' st q y'
        refine p cls dd (g.bak g') H' (bak_step h (stp g' H' st)) (bak_held h (stp g' H' st) q) ?_
        obtain ⟨e1, e2⟩ := y'
        refine ⟨e1, ?_⟩
        rcases e2 with e2 | ⟨d, vfs, a1, a2, a3, a4⟩
        · exact .inl e2
        · exact .inr ⟨d, vfs, a1, a2, RepF.gl GL.out _ _ a3, fun z => a4 (by rw [st.le.B]; exact h.bs d z)⟩
      | ok rv ce =>
        rw [e] at p
        cases rv with
        | v d => exact fun g' H' st q r => ⟨rfl, p (.ref x) (g.bak g') H' (bak_step h (stp g' H' st)) (bak_held h (stp g' H' st) q) (Rep.gl GL.out _ _ r)⟩
        | f xs => exact p
  have hq0 := hq (s.heap.objs.size + 1) s.heap.objs.size (I.hok.fresh (Nat.le_succ _)) (I.hok.fresh (Nat.le_refl _)) (Nat.ne_of_lt (Nat.lt_succ_self _))
  have I2 := Inv.made (C := T.cls C0) I
  have r2 : Vals (V.ref (s.heap.objs.size + 1) :: (vs ++ dl.map dflV)) (Value.ref (s.heap.objs.size + 1) :: (us ++ us2)) := .cons rfl (r.append rd2)
  have hlen : (Value.ref (s.heap.objs.size + 1) :: us ++ us2).length = ps.length := by
    have e := r2.length
    rw [Fk.len _ _ _ _ hq0] at e
    exact e.symm
  have Fk' : FnOk X.prog X.w X.K X.mg X.base (L2.CX X.prog X.w) k (T.fa f) fd ps (spI T C0 (Φ f)) := by rw [C.K, C.mg]; exact Fk
  have M' : Mk X.K (T.cls C0) (T.fa f) := by rw [C.K]; exact M
  refine wpAny_call (make_map (f := T.fa f) I.kIn M'.makes M'.init (beq_iff_eq.mp M'.fn) (codeAny_mono (Fk'.run _ X.stack _ _ ⟨Value.ref (s.heap.objs.size + 1) :: us, []⟩ (Value.ref (s.heap.objs.size + 1) :: (us ++ us2)) _ _ (WE W σ) (hr.make (T.cls C0) us [])
    (I2.env0.make (T.cls C0) us []) ((show Binds X.K fd ps us2 by rw [C.K]; exact bd) _ (Value.ref (s.heap.objs.size + 1) :: us) I2.kIn hlen) r2 hq0) fun r s' hq' => ?_))
  cases r with
  | error e => exact passAt C.tk σ pins _ _ e s' I2 hq'
  | ok fl =>
    cases fl with
    | ret u =>
      obtain ⟨v, H', I3, rv, ev, q3⟩ := I2.after hq'
      subst ev
      exact ⟨rv, ⟨V.ref (s.heap.objs.size + 1), H', I3, rfl, q3⟩⟩
    | next => exact False.elim hq'
    | brk => exact False.elim hq'
    | cont => exact False.elim hq'
def eMake (Φ : Phi) (f : Nat) (dl : List D) (ma : M (List D)) : M D := M.bnd ma fun ds => callI (Φ f) (ds ++ dl)
theorem s_make {C0 f : Nat} {x : Str} {e : Expr} {es : List Expr} {ma : M (List D)} {dl : List D} (C : Ctx T W X) (F : InG T Φ X.prog X.w X.base k C0 f) (hr : Room (k + 1) X.A) (hm : T.mg x = some (.ref (T.cls C0))) (hd : dl ∈ T.dfl f) (ha : SndA T W X (e :: es) ma) (hg : Gl X x := by rfl)
    (hdb : (x == ("__debug__" : Str)) = false := by decide) (he : starEach (e :: es) X.env = (false, eval e X.env) :: starEach es X.env := by rfl) (hpl : (backTo pos (starEach es X.env)).any (·.1) = false := by rfl) :
    SndE T W X (.Call (.Name x p) (e :: es) [] pos) (eMake Φ f dl ma) := by
  refine ⟨fun pins s σ H Q I ⟨g, c, h, q⟩ => ?_⟩
  refine wpAny_Call_Name_kw (ld_glob I hg (by rw [C.mg]; exact hm) ?_ hdb)
  refine PySem.W.callWith_K (h₀ := X.base) I.ok.mod.kin (by rw [C.K]; exact F.mki.kp) (thn (ha.run pos pins s σ H _ I ⟨g, c, h, q.bnd⟩) fun us s1 ⟨vs, H1, I1, r, ds, g1, c1, s1', h1, r1, q1⟩ => ⟨I1.kIn, ?_⟩) he hpl
  exact make_G C F hr hd I1 r h1 r1 q1
end

/-! ### a def by its body -/
def runF (N : Nat) (body : M Flow) : FnS := fun ds ce => match body ⟨ds.map .v ++ List.replicate (N - ds.length) .no, ce⟩ with
  | .ok (.rt r) c => .ok r c.ce
  | .ok .nx c => .ok (.v .non) c.ce
  | .ok _ _ => .stuck
  | .err x c => .err x c.ce
  | .stuck => .stuck
def arity (n : Nat) (F : FnS) : FnS := fun ds ce => if ds.length = n then F ds ce else .stuck
section
variable {T : Tab} {g : Gh} {H : Hp} {ce : List (List D)} {c : Cfg} {σ : L2.St}
theorem Held.drop (k : Held T g σ H c) : Held T g [] H ⟨[], c.ce⟩ := ⟨k.sub, k.ow, k.bs, fun i s e => by simp at e, k.cn, Nat.zero_le _, k.ce⟩
theorem start_at {N : List Str} {vs : List V} {i : Nat} {v : V} (h : vs[i]? = some v) : (L2.start N vs)[i]? = some (some v) := by
  unfold L2.start
  rw [List.getElem?_append_left (by simpa using (List.getElem?_eq_some_iff.mp h).1), List.getElem?_map, h]
  rfl
theorem held_start {N : List Str} {vs : List V} {ds : List D} {m : Nat} (e : Entry T g H ce) (r : Reps T g vs ds) (hm : m ≤ N.length - ds.length) : Held T g (L2.start N vs) H ⟨ds.map .v ++ List.replicate m .no, ce⟩ := by
  refine ⟨e.held.sub, e.held.ow, e.held.bs, fun i s h => ?_, e.held.cn, by (unfold L2.start; simp only [List.length_append, List.length_map, List.length_replicate]; rw [r.length]; omega), e.held.ce⟩
  have h : (ds.map Sl.v ++ List.replicate m Sl.no)[i]? = some s := h
  by_cases hi : i < ds.length
  · rw [List.getElem?_append_left (by simpa using hi), List.getElem?_map] at h
    cases q : ds[i]? with
    | none => rw [q] at h; cases h
    | some d =>
      rw [q] at h; cases h
      obtain ⟨v, h1, h2⟩ := r.at q
      exact ⟨v, start_at h1, h2⟩
  · rw [List.getElem?_append_right (by simpa using hi), List.getElem?_replicate] at h
    split at h
    · cases h; trivial
    · cases h
theorem postF_of {Q : VK} {E : XK} {N : Nat} {body : M Flow} {ds : List D} (p : PostF T g H Q E (runF N body ds ce)) :
    PostS T (fun cls d _ H => E cls d H) g H { nx := fun _ H' => Q .non H', rt := Q } (body ⟨ds.map .v ++ List.replicate (N - ds.length) .no, ce⟩) := by
  unfold runF at p
  cases e : body ⟨ds.map .v ++ List.replicate (N - ds.length) .no, ce⟩ with
  | stuck => rw [e] at p; exact p
  | err x c => rw [e] at p; exact fun cls dd σ' g' H' s k x => p cls dd g' H' s k.drop x
  | ok f c =>
    rw [e] at p
    cases f with
    | nx => exact fun σ' g' H' s k => p .non g' H' s k.drop rfl
    | bk => exact p.elim
    | ct => exact p.elim
    | rt r => cases r with
      | v d => exact fun v σ' g' H' s k r => p v g' H' s k.drop r
      | f xs => exact fun a vs σ' g' H' s k x1 x2 x3 x4 x5 => p a vs g' H' s k.drop x1 x2 x3 x4 x5
end
section
variable {T : Tab} {P : Program} {w : World} {base : Heap} {qual name : Str} {params : Arguments} {body : List Stmt} {scope : Scope} {dvs : List V} {kws : List (Str × V)} {f : Addr} {fd : FuncData} {N ps : List Str} {k : Nat} {m : M Flow}
theorem ctx_of {cdv : Value} {A : Around} {outer : List Env} {s : Shared} {H : Hp} {E : XK} (nd : N.Nodup) (hd : A.handled = none) :
    Ctx T (fun cls d _ H => E cls d H) (cxOf (L2.CX P w) P w T.K T.mg base N qual scope f cdv A outer s H E) :=
  ⟨rfl, rfl, takes_of rfl rfl rfl rfl, passes_of rfl, rfl, nd⟩
/-- THE RULE: a def by the reading of its body -/
theorem fn_F (F : FunD T.K name qual params body scope dvs kws f fd) (S : FnScope N ps scope)
    (hb : ∀ (cdv : Value) (A : Around) (outer : List Env) (s : Shared) (H : Hp) (E : XK), Room k (A.deeper (PyProof.Rows.envOfC qual scope s.heap.objs.size f cdv)) →
      Ctx T (fun cls d _ H => E cls d H) (cxOf (L2.CX P w) P w T.K T.mg base N qual scope f cdv A outer s H E) →
      SndSs T (fun cls d _ H => E cls d H) (cxOf (L2.CX P w) P w T.K T.mg base N qual scope f cdv A outer s H E) body m) :
    FnOk P w T.K T.mg base (L2.CX P w) (k + 1) f fd ps (spF T (arity ps.length (runF N.length m))) := by
  refine F.ok S (fun vs H Q E ⟨g, ds, ce, e, r, p⟩ => ?_) (fun cdv A outer s H vs Q E hr ⟨g, ds, ce, e, r, p⟩ => ⟨_, hb cdv A outer s H E hr (ctx_of S.nd ?_), ?_⟩)
  · unfold arity at p
    by_cases h : ds.length = ps.length
    · rw [r.length, h]
    · rw [if_neg h] at p; exact p.elim
  · have := hr.hd
    exact this
  · unfold arity at p
    by_cases h : ds.length = ps.length
    · rw [if_pos h] at p
      exact ⟨g, _, held_start e r (Nat.le_refl _), postF_of p⟩
    · rw [if_neg h] at p; exact p.elim
end
end TL

end
section
set_option Elab.async false
set_option linter.all false
set_option maxRecDepth 100000
/-! Tl5: __init__ by its body; operators, comparisons, tests, displays. -/
namespace TL
open PySem L2

def runI (C : Nat) (N : Nat) (body : M Flow) : FnS := fun ds ce =>
  let fin := fun (c : Cfg) => match c.sl[0]? with
    | some (Sl.obj C' fs) => if C' = C then (match mkI C fs with
      | some d => FOut.ok (.v d) c.ce
      | none => .stuck) else .stuck
    | _ => .stuck
  match body ⟨.obj C [] :: (ds.map .v ++ List.replicate (N - 1 - ds.length) .no), ce⟩ with
  | .ok .nx c => fin c
  | .ok (.rt (.v .non)) c => fin c
  | .ok _ _ => .stuck
  | .err x c => .err x c.ce
  | .stuck => .stuck
section
variable {T : Tab} {g : Gh} {H : Hp} {ce : List (List D)} {c : Cfg} {σ : L2.St}
theorem rep_mkI {x dx : Addr} {C : Nat} {fs : List (Nat × D)} {vfs : List (Str × V)} {d : D} (h : g.I x = some (.ins (T.cls C) dx vfs)) (r : RepF T g vfs fs) (e : mkI C fs = some d) : Rep T g (.ref x) d := by
  unfold mkI at e
  cases C with
  | succ C =>
    cases e
    exact ⟨x, dx, vfs, rfl, by omega, h, r⟩
  | zero =>
    dsimp only at e
    split at e
    · rename_i n dd
      by_cases q : 0 < dd ∧ n.natAbs.Coprime dd.natAbs
      · rw [dif_pos q] at e
        cases e
        obtain ⟨v1, vr, e1, r1, v2, vr2, e2, r2, r3⟩ := r
        subst e1 e2
        have r1 : v1 = .int n := r1
        have r2 : v2 = .int dd := r2
        have r3 : vr2 = [] := r3
        subst r1 r2 r3
        refine ⟨x, dx, rfl, ?_⟩
        have e3 : ((dd.natAbs : Nat) : Int) = dd := Int.natAbs_of_nonneg (by omega)
        show g.I x = some (.ins (T.cls 0) dx [(T.nm 0, .int n), (T.nm 1, .int ((dd.natAbs : Nat) : Int))])
        rw [e3]
        exact h
      · rw [dif_neg q] at e
        cases e
    · cases e
theorem held_startI {N : List Str} {x dx : Addr} {C : Nat} {vr : List V} {ds : List D} {m : Nat} (k : Held T g [] H ⟨[], ce⟩) (hx : H x = some (.ins (T.cls C) dx [])) (sf : g.sf = (x, none)) (ox : g.O x = some (.sl 0)) (r : Reps T g vr ds) (hm : m ≤ N.length - 1 - ds.length) :
    Held T g (L2.start N (.ref x :: vr)) H ⟨.obj C [] :: (ds.map .v ++ List.replicate m .no), ce⟩ := by
  refine ⟨k.sub, k.ow, k.bs, fun i s h => ?_, k.cn, by (unfold L2.start; simp only [List.length_append, List.length_map, List.length_replicate, List.length_cons]; rw [r.length]; omega), k.ce⟩
  cases i with
  | zero =>
    have h : some (Sl.obj C []) = some s := h
    cases h
    exact ⟨x, dx, [], by rw [sf], start_at rfl, ox, hx, rfl⟩
  | succ i =>
    have h : (ds.map Sl.v ++ List.replicate m Sl.no)[i]? = some s := h
    by_cases hi : i < ds.length
    · rw [List.getElem?_append_left (by simpa using hi), List.getElem?_map] at h
      cases q : ds[i]? with
      | none => rw [q] at h; cases h
      | some d =>
        rw [q] at h; cases h
        obtain ⟨v, h1, h2⟩ := r.at q
        exact ⟨v, start_at (i := i + 1) h1, h2⟩
    · rw [List.getElem?_append_right (by simpa using hi), List.getElem?_replicate] at h
      split at h
      · cases h; trivial
      · cases h
theorem postI_of {Q : VK} {E : XK} {C N : Nat} {x : Addr} {body : M Flow} {ds : List D} (sf : g.sf = (x, none)) (p : PostI T x g H Q E (runI C N body ds ce)) :
    PostS T (fun cls d _ H => E cls d H) g H { nx := fun _ H' => Q .non H', rt := Q } (body ⟨.obj C [] :: (ds.map .v ++ List.replicate (N - 1 - ds.length) .no), ce⟩) := by
  unfold runI at p
  dsimp only at p
  have fin : ∀ (c : Cfg), PostI T x g H Q E (match c.sl[0]? with
      | some (Sl.obj C' fs) => if C' = C then (match mkI C fs with
        | some d => FOut.ok (.v d) c.ce
        | none => .stuck) else .stuck
      | _ => .stuck) → ∀ σ' g' H', Stp g H g' H' → Held T g' σ' H' c → Q .non H' := by
    intro c p σ' g' H' st k
    cases e : c.sl[0]? with
    | none => rw [e] at p; exact p.elim
    | some s =>
      rw [e] at p
      cases s with
      | no => exact p.elim
      | v d => exact p.elim
      | own xs => exact p.elim
      | exc fs => exact p.elim
      | obj C' fs =>
        dsimp only at p
        by_cases hC : C' = C
        · rw [if_pos hC] at p
          subst hC
          cases em : mkI C' fs with
          | none => rw [em] at p; exact p.elim
          | some d =>
            rw [em] at p
            obtain ⟨a, dx, vfs, ea, es, o, h, r⟩ := k.sl 0 _ e
            have ax : a = x := ea.trans (by rw [st.le.sf, sf])
            subst ax
            have s2 := frz_step k o h
            have k2 := k.frz (s := .no) o h trivial
            exact p _ H' (st.trans s2.toStp) k2.drop (rep_mkI upd_same (RepF.mono s2.le _ _ r) em)
        · rw [if_neg hC] at p; exact p.elim
  cases e : body ⟨.obj C [] :: (ds.map .v ++ List.replicate (N - 1 - ds.length) .no), ce⟩ with
  | stuck => rw [e] at p; exact p
  | err y c => rw [e] at p; exact fun cls dd σ' g' H' s k x => p cls dd g' H' s k.drop x
  | ok f c =>
    rw [e] at p
    cases f with
    | nx => exact fun σ' g' H' s k => fin c p σ' g' H' s k
    | bk => exact p.elim
    | ct => exact p.elim
    | rt r => cases r with
      | f xs => exact p.elim
      | v d => cases d with
        | non => exact fun v σ' g' H' s k r => by have r : v = .non := r; subst r; exact fin c p σ' g' H' s k
        | _ => exact p.elim
end
section
variable {T : Tab} {P : Program} {w : World} {base : Heap} {qual name : Str} {params : Arguments} {body : List Stmt} {scope : Scope} {dvs : List V} {kws : List (Str × V)} {f : Addr} {fd : FuncData} {N ps : List Str} {k C : Nat} {m : M Flow}
theorem fn_I (F : FunD T.K name qual params body scope dvs kws f fd) (S : FnScope N ps scope) (hp : 0 < ps.length)
    (hb : ∀ (cdv : Value) (A : Around) (outer : List Env) (s : Shared) (H : Hp) (E : XK), Room k (A.deeper (PyProof.Rows.envOfC qual scope s.heap.objs.size f cdv)) →
      Ctx T (fun cls d _ H => E cls d H) (cxOf (L2.CX P w) P w T.K T.mg base N qual scope f cdv A outer s H E) →
      SndSs T (fun cls d _ H => E cls d H) (cxOf (L2.CX P w) P w T.K T.mg base N qual scope f cdv A outer s H E) body m) :
    FnOk P w T.K T.mg base (L2.CX P w) (k + 1) f fd ps (spI T C (arity (ps.length - 1) (runI C N.length m))) := by
  refine F.ok S (fun vs H Q E ⟨x, dx, vr, g, ds, ce, e, hx, sf, ox, k, no, r, p⟩ => ?_) (fun cdv A outer s H vs Q E hr ⟨x, dx, vr, g, ds, ce, e, hx, sf, ox, k, no, r, p⟩ => ⟨_, hb cdv A outer s H E hr (ctx_of S.nd ?_), ?_⟩)
  · unfold arity at p
    by_cases h : ds.length = ps.length - 1
    · rw [e, List.length_cons, r.length, h]; omega
    · rw [if_neg h] at p; exact p.elim
  · have := hr.hd
    exact this
  · unfold arity at p
    by_cases h : ds.length = ps.length - 1
    · rw [if_pos h] at p
      subst e
      exact ⟨g, _, held_startI k hx sf ox r (Nat.le_refl _), postI_of sf p⟩
    · rw [if_neg h] at p; exact p.elim
end

/-! ### arguments, displays -/
section
variable {T : Tab} {W : WX} {X : Cx} {pos : Pos}
def aNil : M (List D) := M.ret []
def aCons (m : M D) (r : M (List D)) : M (List D) := M.bnd m fun d => M.bnd r fun ds => M.ret (d :: ds)
theorem s_nil : SndA T W X [] aNil := PA.imp pa_nil fun σ H Q ⟨g, c, k, p⟩ => Post.here (R := RVs T) k (show Reps T g [] [] from rfl) p
theorem s_cons {e : Expr} {es : List Expr} {m : M D} {r : M (List D)} (h : SndE T W X e m) (hr : SndA T W X es r) (hs : starEach (e :: es) X.env = (false, eval e X.env) :: starEach es X.env := by rfl) : SndA T W X (e :: es) (aCons m r) :=
  PA.imp (pa_cons h hr hs) fun σ H Q ⟨g, c, k, p⟩ => ⟨g, c, k, p.bnd.imp fun x H1 ⟨d, g1, c1, s1, k1, r1, p1⟩ => ⟨g1, c1, k1, p1.bnd.imp fun xs H2 ⟨ds, g2, c2, s2, k2, r2, p2⟩ =>
    Post.here (R := RVs T) k2 (show Reps T g2 (x :: xs) (d :: ds) from ⟨x, xs, rfl, Rep.mono s2.le _ _ r1, r2⟩) p2⟩⟩
/-- a new tuple -/
def eTup (ma : M (List D)) : M D := M.bnd ma fun ds => if sizeOk ds.length then M.ret (.tup ds) else M.stk
theorem line_of {n : Nat} (h : sizeOk n = true) : n ≤ sizeLine := by
  have := of_decide_eq_true h
  rw [PySem.sizeLine_eq]; omega
theorem new_tup {g : Gh} {σ : L2.St} {H : Hp} {c : Cfg} {p : Addr} {vs : List V} {ds : List D} (k : Held T g σ H c) (n : H p = none) (r : Reps T g vs ds) :
    StpE g H (g.new p (.tup vs)) (upd H p (.tup vs)) ∧ Held T (g.new p (.tup vs)) σ (upd H p (.tup vs)) c ∧ Rep T (g.new p (.tup vs)) (.ref p) (.tup ds) := by
  have st := new_stepE (o := .tup vs) k n
  exact ⟨st, k.new n, p, vs, rfl, SqT.of upd_same, Reps.mono st.le _ _ r⟩
theorem new_lst {g : Gh} {σ : L2.St} {H : Hp} {c : Cfg} {p : Addr} {vs : List V} {ds : List D} (k : Held T g σ H c) (n : H p = none) (r : Reps T g vs ds) :
    StpE g H (g.new p (.lst vs)) (upd H p (.lst vs)) ∧ Held T (g.new p (.lst vs)) σ (upd H p (.lst vs)) c ∧ Rep T (g.new p (.lst vs)) (.ref p) (.lst ds) := by
  have st := new_stepE (o := .lst vs) k n
  exact ⟨st, k.new n, p, vs, rfl, upd_same, Reps.mono st.le _ _ r⟩
theorem s_tup {es : List Expr} {ma : M (List D)} {x1} (h : SndA T W X es ma) : SndE T W X (.Tuple es x1 pos) (eTup ma) := PE.imp (pe_tup h) fun σ H Q ⟨g, c, k, p⟩ =>
  ⟨g, c, k, p.bnd.imp fun vs H1 ⟨ds, g1, c1, s1, k1, r1, p1⟩ => by
    by_cases z : sizeOk ds.length = true
    · rw [if_pos z] at p1
      refine ⟨by rw [r1.length]; exact line_of z, fun a n => ?_⟩
      obtain ⟨x1, x2, x3⟩ := new_tup k1 n r1
      exact p1 _ _ _ x1 x2 x3
    · rw [if_neg z] at p1; exact p1.elim⟩
end
end TL

end
section
set_option Elab.async false
set_option linter.all false
set_option maxRecDepth 100000
/-! Tl6: operators and comparisons by values; tests. -/
namespace TL
open PySem L2

section
variable {T : Tab} {W : WX} {X : Cx} {pos : Pos}
/-- an operator, by values -/
def OpOk (T : Tab) (W : WX) (X : Cx) (f : Value → Value → Sem Value) (k : D → D → M D) : Prop :=
  ∀ (pins : List (Addr × Obj)) (s : Shared) (σ : L2.St) (H : Hp) (x y : V) (v u : Value) (Q : VK) (g : Gh) (c : Cfg) (dx dy : D), Inv X pins σ H s → RelV x v → RelV y u → Held T g σ H c → RepB T g H x dx → RepB T g H y dy →
    Post T (RV1 T) W g σ H Q (k dx dy c) → wpAny (model X.prog X.w) X.A (f v u) (EP X pins σ Q) X.xe s
def eOp (k : D → D → M D) (ma mb : M D) : M D := M.bnd ma fun x => M.bnd mb fun y => k x y
variable {a b : Expr} {ma mb : M D} {k : D → D → M D}
theorem op_run {f : Value → Value → Sem Value} (ho : OpOk T W X f k) (ha : SndB T W X a ma) (hb : SndB T W X b mb) {pins : List (Addr × Obj)} {s : Shared} {σ : L2.St} {H : Hp} {Q : VK} (I : Inv X pins σ H s) (h : rd T (RV1 T) W (eOp k ma mb) σ H Q) :
    wpAny (model X.prog X.w) X.A (eval a X.env) (fun v s₁ => wpAny (model X.prog X.w) X.A (eval b X.env) (fun u s₂ => wpAny (model X.prog X.w) X.A (f v u) (EP X pins σ Q) X.xe s₂) X.xe s₁) X.xe s := by
  obtain ⟨g, c, k, p⟩ := h
  refine thn (ha.run pins s σ H _ I ⟨g, c, k, p.bnd⟩) fun v s1 ⟨x, H1, I1, r1, dx, g1, c1, s1', k1, q1, p1⟩ => ?_
  refine thn (hb.run pins s1 σ H1 _ I1 ⟨g1, c1, k1, p1.bnd⟩) fun u s2 ⟨y, H2, I2, r2, dy, g2, c2, s2', k2, q2, p2⟩ => ?_
  exact ho pins s2 σ H2 x y v u Q g2 c2 dx dy I2 r1 r2 k2 (q1.step s2') q2 p2
theorem s_op {op : Operator} (ho : OpOk T W X (binaryOp op) k) (ha : SndB T W X a ma) (hb : SndB T W X b mb) : SndE T W X (.BinOp a op b pos) (eOp k ma mb) :=
  ⟨fun pins s σ H Q I h => wpAny_BinOp (op_run ho ha hb I h)⟩
theorem s_cmp {op : CmpOp} (ho : OpOk T W X (compareOp op) k) (ha : SndB T W X a ma) (hb : SndB T W X b mb) (hm : behindInMarks op b = false) : SndE T W X (.Compare a [op] [b] pos) (eOp k ma mb) :=
  ⟨fun pins s σ H Q I h => wpAny_Compare1 (op_run ho ha hb I h) hm⟩
def asB : D → M Bool
  | .bl b => M.ret b
  | _ => M.stk
def tOf (m : M D) : M Bool := M.bnd m asB
theorem asB_end {pins : List (Addr × Obj)} {σ : L2.St} {H : Hp} {s : Shared} {g : Gh} {c : Cfg} {d : D} {x : V} {v : Value} {Q : Bool → Hp → Prop} (I : Inv X pins σ H s) (rv : RelV x v) (k : Held T g σ H c) (r : Rep T g x d) (p : Post T REq W g σ H Q (asB d c)) :
    wpAny (model X.prog X.w) X.A (truthy v) (TP X pins σ Q) X.xe s := by
  cases d with
  | bl b =>
    have r : x = .bl b := r
    subst r
    cases rv
    exact wpAny_truthy_bool ⟨H, I, Post.here (R := REq) k rfl p⟩
  | _ => exact p.elim
theorem t_cmp {op : CmpOp} (ho : OpOk T W X (compareOp op) k) (ha : SndB T W X a ma) (hb : SndB T W X b mb) (hm : behindInMarks op b = false) : SndT T W X (.Compare a [op] [b] pos) (tOf (eOp k ma mb)) := by
  refine ⟨fun pins s σ H Q I h => ?_⟩
  have h' : rd T (RV1 T) W (eOp k ma mb) σ H (fun x H1 => ∃ d g1 c1, Held T g1 σ H1 c1 ∧ Rep T g1 x d ∧ Post T REq W g1 σ H1 Q (asB d c1)) := by
    obtain ⟨g, c, k, p⟩ := h
    exact ⟨g, c, k, p.bnd.imp fun x H1 ⟨d, g1, c1, s1, k1, r1, p1⟩ => ⟨d, g1, c1, k1, r1, p1⟩⟩
  refine wpAny_isTrue_Compare1 (thn (op_run ho ha hb I h') fun v s1 h1 => thn h1 fun u s2 h2 => thn h2 fun c s3 ⟨x, H1, I1, r1, d, g1, c1, k1, q1, p1⟩ => ?_) hm
  exact asB_end I1 r1 k1 q1 p1
theorem t_val {e : Expr} {m : M D} (h : SndE T W X e m) (he : ∀ whole, isTrue e X.env whole = (do let v ← whole; standAt e.pos; holding [v] (truthy v)) := by intro _; rfl) : SndT T W X e (tOf m) := by
  refine ⟨fun pins s σ H Q I hw => ?_⟩
  have h' : rd T (RV1 T) W m σ H (fun x H1 => ∃ d g1 c1, Held T g1 σ H1 c1 ∧ Rep T g1 x d ∧ Post T REq W g1 σ H1 Q (asB d c1)) := by
    obtain ⟨g, c, k, p⟩ := hw
    exact ⟨g, c, k, p.bnd.imp fun x H1 ⟨d, g1, c1, s1, k1, r1, p1⟩ => ⟨d, g1, c1, k1, r1, p1⟩⟩
  refine PyProof.Rows.isTrue_plain (thn (h.run pins s σ H _ I h') fun v s1 ⟨x, H1, I1, r1, d, g1, c1, k1, q1, p1⟩ => ?_) (he _)
  exact asB_end I1 r1 k1 q1 p1

/-! ### and, or, not -/
variable {mA mB : M Bool} {rest : List Expr}
def bAnd (x y : M Bool) : M Bool := M.bnd x fun c => if c = true then y else M.ret false
def bOr (x y : M Bool) : M Bool := M.bnd x fun c => if c = true then M.ret true else y
def bNot (x : M Bool) : M Bool := M.bnd x fun c => M.ret (!c)
theorem w_and1 (ha : SndT T W X a mA) : SndW T W X (.BoolOp .And [a] pos) mA := pw_and1 ha
theorem w_or1 (ha : SndT T W X a mA) : SndW T W X (.BoolOp .Or [a] pos) mA := pw_or1 ha
theorem w_and (ha : SndT T W X a mA) (hb : SndW T W X (.BoolOp .And (b :: rest) pos) mB) : SndW T W X (.BoolOp .And (a :: b :: rest) pos) (bAnd mA mB) :=
  PW.imp (pw_and ha hb) fun σ H Q ⟨g, c, k, p⟩ => ⟨g, c, k, p.bnd.imp fun x H1 ⟨d, g1, c1, s1, k1, r1, p1⟩ => by
    subst r1
    cases x with
    | true => exact ⟨g1, c1, k1, p1⟩
    | false => exact Post.here (R := REq) k1 rfl p1⟩
theorem w_or (ha : SndT T W X a mA) (hb : SndW T W X (.BoolOp .Or (b :: rest) pos) mB) : SndW T W X (.BoolOp .Or (a :: b :: rest) pos) (bOr mA mB) :=
  PW.imp (pw_or ha hb) fun σ H Q ⟨g, c, k, p⟩ => ⟨g, c, k, p.bnd.imp fun x H1 ⟨d, g1, c1, s1, k1, r1, p1⟩ => by
    subst r1
    cases x with
    | false => exact ⟨g1, c1, k1, p1⟩
    | true => exact Post.here (R := REq) k1 rfl p1⟩
theorem t_not (ha : SndT T W X a mA) : SndT T W X (.UnaryOp .Not a pos) (bNot mA) :=
  PT.imp (pt_not ha) fun σ H Q ⟨g, c, k, p⟩ => ⟨g, c, k, p.bnd.imp fun x H1 ⟨d, g1, c1, s1, k1, r1, p1⟩ => by
    subst r1
    exact Post.here (R := REq) k1 rfl p1⟩
/-- as values -/
def eB (m : M Bool) : M D := M.bnd m fun b => M.ret (.bl b)
def eNot (m : M D) : M D := M.bnd m fun d => match d with
  | .bl b => M.ret (.bl (!b))
  | _ => M.stk
theorem s_not (ha : SndE T W X a ma) : SndE T W X (.UnaryOp .Not a pos) (eNot ma) :=
  PE.imp (pe_not ha) fun σ H Q ⟨g, c, k, p⟩ => ⟨g, c, k, p.bnd.imp fun x H1 ⟨d, g1, c1, s1, k1, r1, p1⟩ => by
    cases d with
    | bl b =>
      have r1 : x = .bl b := r1
      exact ⟨b, r1, Post.here (R := RV1 T) (d := .bl (!b)) k1 rfl p1⟩
    | _ => exact p1.elim⟩
def eAnd (x y : M D) : M D := M.bnd x fun d => match d with
  | .bl true => y
  | .bl false => M.ret (.bl false)
  | _ => M.stk
def eOr (x y : M D) : M D := M.bnd x fun d => match d with
  | .bl true => M.ret (.bl true)
  | .bl false => y
  | _ => M.stk
theorem s_one {op : BoolOp} (h : SndE T W X a ma) : SndE T W X (.BoolOp op [a] pos) ma := pe_one h
theorem s_and (ha : SndE T W X a ma) (hb : SndE T W X (.BoolOp .And (b :: rest) pos) mb) : SndE T W X (.BoolOp .And (a :: b :: rest) pos) (eAnd ma mb) :=
  PE.imp (pe_and ha hb) fun σ H Q ⟨g, c, k, p⟩ => ⟨g, c, k, p.bnd.imp fun x H1 ⟨d, g1, c1, s1, k1, r1, p1⟩ => by
    cases d with
    | bl v =>
      have r1 : x = .bl v := r1
      cases v with
      | true => exact ⟨true, r1, ⟨g1, c1, k1, p1⟩⟩
      | false => exact ⟨false, r1, Post.here (R := RV1 T) (d := .bl false) k1 rfl p1⟩
    | _ => exact p1.elim⟩
theorem s_or (ha : SndE T W X a ma) (hb : SndE T W X (.BoolOp .Or (b :: rest) pos) mb) : SndE T W X (.BoolOp .Or (a :: b :: rest) pos) (eOr ma mb) :=
  PE.imp (pe_or ha hb) fun σ H Q ⟨g, c, k, p⟩ => ⟨g, c, k, p.bnd.imp fun x H1 ⟨d, g1, c1, s1, k1, r1, p1⟩ => by
    cases d with
    | bl v =>
      have r1 : x = .bl v := r1
      cases v with
      | false => exact ⟨false, r1, ⟨g1, c1, k1, p1⟩⟩
      | true => exact ⟨true, r1, Post.here (R := RV1 T) (d := .bl true) k1 rfl p1⟩
    | _ => exact p1.elim⟩
def eIf {α : Type} (t : M Bool) (x y : M α) : M α := M.bnd t fun b => if b = true then x else y
theorem s_if {t : Expr} {mt : M Bool} (ht : SndT T W X t mt) (ha : SndE T W X a ma) (hb : SndE T W X b mb) : SndE T W X (.IfExp t a b pos) (eIf mt ma mb) :=
  PE.imp (pe_ifExp ht ha hb) fun σ H Q ⟨g, c, k, p⟩ => ⟨g, c, k, p.bnd.imp fun x H1 ⟨d, g1, c1, s1, k1, r1, p1⟩ => by
    subst r1
    cases x with
    | true => exact ⟨g1, c1, k1, p1⟩
    | false => exact ⟨g1, c1, k1, p1⟩⟩

/-! ### chains of two comparisons -/
variable {d : Expr} {md : M D} {k' : D → D → M D}
def eChain (k k' : D → D → M D) (ma mb md : M D) : M D := M.bnd ma fun x => M.bnd mb fun y => M.bnd (k x y) fun r => match r with
  | .bl true => M.bnd md fun z => k' y z
  | .bl false => M.ret (.bl false)
  | _ => M.stk
theorem s_chain {op op' : CmpOp} (ho : OpOk T W X (compareOp op) k) (ho' : OpOk T W X (compareOp op') k') (ha : SndB T W X a ma) (hb : SndB T W X b mb) (hd : SndB T W X d md)
    (hm : lastMarks [op, op'] [b, d] = false := by with_unfolding_all rfl) : SndE T W X (.Compare a [op, op'] [b, d] pos) (eChain k k' ma mb md) := by
  refine ⟨fun pins s σ H Q I ⟨g, c, kk, p⟩ => ?_⟩
  refine PyProof.Rows.Compare_chain (thn (ha.run pins s σ H _ I ⟨g, c, kk, p.bnd⟩) fun v s1 ⟨x, H1, I1, r1, dx, g1, c1, s1', k1, q1, p1⟩ => PyProof.Rows.chain_link (thn (hb.run pins s1 σ H1 _ I1 ⟨g1, c1, k1, p1.bnd⟩) fun u s2 ⟨y, H2, I2, r2, dy, g2, c2, s2', k2, q2, p2⟩ =>
    thn (ho pins s2 σ H2 x y v u _ g2 c2 dx dy I2 r1 r2 k2 (q1.step s2') q2 p2.bnd) fun d s3 ⟨z, H3, I3, r3, dz, g3, c3, s3', k3, q3, p3⟩ => ?_)) hm
  cases dz with
  | bl b =>
    have q3 : z = .bl b := q3
    subst q3
    cases r3
    refine wpAny_truthy_bool ?_
    cases b with
    | false => exact PyProof.Rows.ite_ff ⟨.bl false, H3, I3, rfl, Post.here (R := RV1 T) (d := .bl false) k3 rfl p3⟩
    | true => exact PyProof.Rows.ite_tt (PyProof.Rows.chain_last (thn (hd.run pins s3 σ H3 _ I3 ⟨g3, c3, k3, Post.bnd p3⟩) fun w' s4 ⟨z', H4, I4, r4, dw, g4, c4, s4', k4, q4, p4⟩ => ho' pins s4 σ H4 y z' u w' Q g4 c4 dy dw I4 r2 r4 k4 ((q2.step s3').step s4') q4 p4))
  | _ => exact p3.elim
theorem t_chain {op op' : CmpOp} (ho : OpOk T W X (compareOp op) k) (ho' : OpOk T W X (compareOp op') k') (ha : SndB T W X a ma) (hb : SndB T W X b mb) (hd : SndB T W X d md)
    (hm : lastMarks [op, op'] [b, d] = false := by with_unfolding_all rfl) : SndT T W X (.Compare a [op, op'] [b, d] pos) (tOf (eChain k k' ma mb md)) := by
  refine ⟨fun pins s σ H Q I ⟨g, c, kk, p⟩ => ?_⟩
  have p := p.bnd (R := RV1 T)
  refine PyProof.Rows.isTrue_chain (thn (ha.run pins s σ H _ I ⟨g, c, kk, p.bnd⟩) fun v s1 ⟨x, H1, I1, r1, dx, g1, c1, s1', k1, q1, p1⟩ => PyProof.Rows.test_link (thn (hb.run pins s1 σ H1 _ I1 ⟨g1, c1, k1, p1.bnd⟩) fun u s2 ⟨y, H2, I2, r2, dy, g2, c2, s2', k2, q2, p2⟩ =>
    thn (ho pins s2 σ H2 x y v u _ g2 c2 dx dy I2 r1 r2 k2 (q1.step s2') q2 p2.bnd) fun d s3 ⟨z, H3, I3, r3, dz, g3, c3, s3', k3, q3, p3⟩ => ?_)) hm
  cases dz with
  | bl b =>
    have q3 : z = .bl b := q3
    subst q3
    cases r3
    refine wpAny_truthy_bool ?_
    cases b with
    | false =>
      obtain ⟨d5, g5, c5, s5, k5, q5, p5⟩ := Post.here (R := RV1 T) (d := .bl false) k3 rfl p3
      cases d5 with
      | bl b5 => cases (show V.bl false = V.bl b5 from q5); exact PyProof.Rows.ite_ff ⟨H3, I3, Post.here (R := REq) k5 rfl p5⟩
      | _ => exact p5.elim
    | true =>
      refine PyProof.Rows.ite_tt (PyProof.Rows.test_last (thn (hd.run pins s3 σ H3 _ I3 ⟨g3, c3, k3, Post.bnd p3⟩) fun w' s4 ⟨z', H4, I4, r4, dw, g4, c4, s4', k4, q4, p4⟩ =>
        thn (ho' pins s4 σ H4 y z' u w' _ g4 c4 dy dw I4 r2 r4 k4 ((q2.step s3').step s4') q4 p4) fun d' s5 ⟨z2, H5, I5, r5, d5, g5, c5, s5', k5, q5, p5⟩ => ?_))
      exact asB_end I5 r5 k5 q5 p5
  | _ => exact p3.elim

/-! ### operators on plain values -/
theorem RepB.rep {g : Gh} {H : Hp} {v : V} {d : D} (r : RepB T g H v d) (h : ∀ xs, d ≠ .lst xs) : Rep T g v d := by
  rcases r with r | ⟨a, vs, xs, e1, e2, _⟩
  · exact r
  · exact absurd e2 (h xs)
theorem RepB.list {g : Gh} {H : Hp} {c : Cfg} {σ : L2.St} {v : V} {xs : List D} (k : Held T g σ H c) (r : RepB T g H v (.lst xs)) : ∃ a vs, v = .ref a ∧ H a = some (.lst vs) ∧ Reps T g vs xs := by
  rcases r with ⟨a, vs, e, h, r⟩ | ⟨a, vs, ys, e1, e2, h, o, r⟩
  · exact ⟨a, vs, e, k.sub _ _ h, r⟩
  · cases e2; exact ⟨a, vs, e1, h, r⟩
theorem RepB.int {g : Gh} {H : Hp} {v : V} {i : Int} (r : RepB T g H v (.int i)) : v = .int i := r.rep (fun _ => by simp)
theorem RepB.str {g : Gh} {H : Hp} {v : V} {i : Str} (r : RepB T g H v (.str i)) : v = .str i := r.rep (fun _ => by simp)
theorem RepB.bl {g : Gh} {H : Hp} {v : V} {i : Bool} (r : RepB T g H v (.bl i)) : v = .bl i := r.rep (fun _ => by simp)
theorem RepB.tup {g : Gh} {H : Hp} {v : V} {xs : List D} (r : RepB T g H v (.tup xs)) : ∃ a vs, v = .ref a ∧ SqT T.K g.I a vs ∧ Reps T g vs xs := r.rep (fun _ => by simp)
theorem SqT.sub {K : PySem.W.Frag} {I H : Hp} {a : Addr} {vs : List V} (h : SqT K I a vs) (e : Ext I H) : SqT K H a vs := h.ext e
theorem Ctx.sqt (C : Ctx T W X) {I H : Hp} {a : Addr} {vs : List V} (h : SqT T.K I a vs) (e : Ext I H) : SqT X.K H a vs := by rw [C.K]; exact L2.SqT.ext h e
/-- a new list that nobody holds yet -/
def RF (T : Tab) : Gh → Hp → V → List D → Prop := fun g H v xs => ∃ a vs, v = .ref a ∧ H a = some (.lst vs) ∧ Reps T g vs xs ∧ g.I a = none ∧ g.O a = none ∧ ¬ g.B a
abbrev SndF (T : Tab) (W : WX) (X : Cx) (e : Expr) (m : M (List D)) : Prop := PE X e (rd T (RF T) W m)
def eL (m : M (List D)) : M D := M.bnd m fun xs => M.ret (.lst xs)
theorem SndF.e {e : Expr} {m : M (List D)} (h : SndF T W X e m) : SndE T W X e (eL m) := PE.imp h fun σ H Q ⟨g, c, k, p⟩ => ⟨g, c, k, p.bnd.imp fun v H1 ⟨xs, g1, c1, s1, k1, r1, p1⟩ => by
  obtain ⟨a, vs, e, h, r, hI, hO, hB⟩ := r1
  subst e
  obtain ⟨x1, x2, x3⟩ := lst_step k1 hI hO hB h r
  exact p1 _ _ _ x1 x2 x3⟩
theorem new_f {g : Gh} {σ : L2.St} {H : Hp} {c : Cfg} {p : Addr} {vs : List V} {ds : List D} (k : Held T g σ H c) (n : H p = none) (r : Reps T g vs ds) :
    StpE g H g (upd H p (.lst vs)) ∧ Held T g σ (upd H p (.lst vs)) c ∧ RF T g (upd H p (.lst vs)) (.ref p) ds := by
  obtain ⟨f1, f2, f3⟩ := k.free n
  exact ⟨upd_stepE k n, k.upd n, p, vs, rfl, upd_same, r, f1, f2, f3⟩
def fLst (ma : M (List D)) : M (List D) := M.bnd ma fun ds => if sizeOk ds.length then M.ret ds else M.stk
theorem f_lst {es : List Expr} {ma : M (List D)} (h : SndA T W X es ma) : SndF T W X (.List es pos) (fLst ma) := PE.imp (pe_lst h) fun σ H Q ⟨g, c, k, p⟩ =>
  ⟨g, c, k, p.bnd.imp fun vs H1 ⟨ds, g1, c1, s1, k1, r1, p1⟩ => by
    by_cases z : sizeOk ds.length = true
    · rw [if_pos z] at p1
      refine ⟨by rw [r1.length]; exact line_of z, fun a n => ?_⟩
      obtain ⟨x1, x2, x3⟩ := new_f k1 n r1
      exact p1 _ _ _ x1 x2 x3
    · rw [if_neg z] at p1; exact p1.elim⟩
/-- a result that is no object -/
theorem end_flat {pins : List (Addr × Obj)} {σ : L2.St} {H : Hp} {s : Shared} {g : Gh} {c : Cfg} {d : D} {x : V} {u : Value} {Q : VK} (I : Inv X pins σ H s) (k : Held T g σ H c) (r : Rep T g x d) (rv : RelV x u) (p : Post T (RV1 T) W g σ H Q (.ok d c)) : EP X pins σ Q u s :=
  ⟨x, H, I, rv, Post.here (R := RV1 T) k r p⟩
def oP (op : Bop) : D → D → M D := fun a b => M.opt (binP op a b)
theorem op_add' (C : Ctx T W X) : OpOk T W X (binaryOp .Add) (oP .add) := by
  intro pins s σ H x y v u Q g c dx dy I rx ry k qx qy p
  cases dx with
  | int i => cases dy with
    | int j =>
      cases qx.int; cases qy.int
      obtain ⟨t, rfl⟩ := rx; obtain ⟨t', rfl⟩ := ry
      exact PyProof.Rows.add_int (end_flat (d := .int (i + j)) (x := .int (i + j)) (I.tok _) k rfl ⟨_, rfl⟩ p)
    | _ => exact p.elim
  | str i => cases dy with
    | str j =>
      cases qx.str; cases qy.str
      have p : Post T (RV1 T) W g σ H Q (M.opt (if sizeOk (i.length + j.length) = true then some (D.str (i ++ j)) else none) c) := p
      by_cases z : sizeOk (i.length + j.length) = true
      · rw [if_pos z] at p
        exact op_add_str pins s σ H _ _ v u Q I rx ry ⟨i, j, rfl, rfl, line_of z, Post.here (R := RV1 T) (d := .str (i ++ j)) k rfl p⟩
      · rw [if_neg z] at p; exact p.elim
    | _ => exact p.elim
  | tup xs => cases dy with
    | tup ys =>
      have p : Post T (RV1 T) W g σ H Q (M.opt (if sizeOk (xs.length + ys.length) = true then some (D.tup (xs ++ ys)) else none) c) := p
      by_cases z : sizeOk (xs.length + ys.length) = true
      · rw [if_pos z] at p
        obtain ⟨a, vs, e1, h1, r1⟩ := qx.tup
        obtain ⟨b, ws, e2, h2, r2⟩ := qy.tup
        have whole : Reps T g (vs ++ ws) (xs ++ ys) := r1.app r2
        refine op_catA pins s σ H x y v u Q I rx ry ⟨a, b, vs, ws, e1, e2, C.sqt h1 k.sub, C.sqt h2 k.sub, by rw [r1.length, r2.length]; exact line_of z, fun e => ?_, fun _ e => ?_, fun _ _ q n => ?_⟩
        · subst e
          exact Post.here (R := RV1 T) (d := .tup (xs ++ ys)) k ⟨b, ws, rfl, h2, whole⟩ p
        · subst e
          rw [List.append_nil] at whole
          exact Post.here (R := RV1 T) (d := .tup (xs ++ ys)) k ⟨a, vs, rfl, h1, whole⟩ p
        · obtain ⟨x1, x2, x3⟩ := new_tup k n (r1.app r2)
          exact p _ _ _ x1 x2 x3
      · rw [if_neg z] at p; exact p.elim
    | _ => exact p.elim
  | _ => exact p.elim
theorem op_sub' : OpOk T W X (binaryOp .Sub) (oP .sub) := by
  intro pins s σ H x y v u Q g c dx dy I rx ry k qx qy p
  cases dx with
  | int i => cases dy with
    | int j =>
      cases qx.int; cases qy.int
      obtain ⟨t, rfl⟩ := rx; obtain ⟨t', rfl⟩ := ry
      exact PyProof.Rows.sub_int (end_flat (d := .int (i - j)) (x := .int (i - j)) (I.tok _) k rfl ⟨_, rfl⟩ p)
    | _ => exact p.elim
  | _ => exact p.elim
theorem mulOk_ok {i j : Int} (h : mulOk i j = true) : IntMulOk i j := by
  unfold mulOk at h
  rcases Bool.or_eq_true_iff.mp h with h | h
  · rcases Bool.or_eq_true_iff.mp h with h | h
    · have h := of_decide_eq_true h
      exact .of_left (intBits_le_64 (by omega) (by omega))
    · have h := of_decide_eq_true h
      exact .of_right (intBits_le_64 (by omega) (by omega))
  · have h := of_decide_eq_true h
    exact CMulW.ok h
theorem op_mul' : OpOk T W X (binaryOp .Mult) (oP .mul) := by
  intro pins s σ H x y v u Q g c dx dy I rx ry k qx qy p
  cases dx with
  | int i => cases dy with
    | int j =>
      cases qx.int; cases qy.int
      have p : Post T (RV1 T) W g σ H Q (M.opt (if mulOk i j = true then some (D.int (i * j)) else none) c) := p
      by_cases z : mulOk i j = true
      · rw [if_pos z] at p
        obtain ⟨t, rfl⟩ := rx; obtain ⟨t', rfl⟩ := ry
        exact PyProof.Rows.mul_int (end_flat (d := .int (i * j)) (x := .int (i * j)) (I.tok _) k rfl ⟨_, rfl⟩ p) (mulOk_ok z)
      · rw [if_neg z] at p; exact p.elim
    | _ => exact p.elim
  | _ => exact p.elim
theorem op_fdiv' : OpOk T W X (binaryOp .FloorDiv) (oP .fdiv) := by
  intro pins s σ H x y v u Q g c dx dy I rx ry k qx qy p
  cases dx with
  | int i => cases dy with
    | int j =>
      cases qx.int; cases qy.int
      have p : Post T (RV1 T) W g σ H Q (M.opt (if divOk j = true then some (D.int (i.fdiv j)) else none) c) := p
      by_cases z : divOk j = true
      · rw [if_pos z] at p
        obtain ⟨t, rfl⟩ := rx; obtain ⟨t', rfl⟩ := ry
        obtain ⟨z1, z2⟩ := Bool.and_eq_true_iff.mp z
        exact PyProof.Rows.floordiv_int (of_decide_eq_true z1) (end_flat (d := .int (i.fdiv j)) (x := .int (i.fdiv j)) (I.tok _) k rfl ⟨_, rfl⟩ p) (.inl (PyProof.noPylong_of_log2 (of_decide_eq_true z2)))
      · rw [if_neg z] at p; exact p.elim
    | _ => exact p.elim
  | _ => exact p.elim
theorem op_mod' : OpOk T W X (binaryOp .Mod) (oP .mod) := by
  intro pins s σ H x y v u Q g c dx dy I rx ry k qx qy p
  cases dx with
  | int i => cases dy with
    | int j =>
      cases qx.int; cases qy.int
      have p : Post T (RV1 T) W g σ H Q (M.opt (if j ≠ 0 then some (D.int (i.fmod j)) else none) c) := p
      by_cases z : j ≠ 0
      · rw [if_pos z] at p
        obtain ⟨t, rfl⟩ := rx; obtain ⟨t', rfl⟩ := ry
        exact PyProof.Rows.mod_int' z (end_flat (d := .int (i.fmod j)) (x := .int (i.fmod j)) (I.tok _) k rfl ⟨_, rfl⟩ p)
      · rw [if_neg z] at p; exact p.elim
    | _ => exact p.elim
  | _ => exact p.elim

/-! order -/
inductive Cop where
  | lt | le | gt | ge
def strLt (a b : Str) : Bool := decide (a.cps.toList < b.cps.toList)
def cmpP : Cop → D → D → Option D
  | .lt, .int i, .int j => some (.bl (decide (i < j)))
  | .le, .int i, .int j => some (.bl (decide (i ≤ j)))
  | .gt, .int i, .int j => some (.bl (decide (j < i)))
  | .ge, .int i, .int j => some (.bl (decide (j ≤ i)))
  | .lt, .str i, .str j => some (.bl (strLt i j))
  | .le, .str i, .str j => some (.bl (!strLt j i))
  | .gt, .str i, .str j => some (.bl (strLt j i))
  | .ge, .str i, .str j => some (.bl (!strLt i j))
  | _, _, _ => none
def oC (op : Cop) : D → D → M D := fun a b => M.opt (cmpP op a b)
theorem opC_of {op : CmpOp} {o : Cop} {fi : Int → Int → Bool} {fs : Str → Str → Bool} (hi : OpR X (compareOp op) (rI0 fun i j => .bl (fi i j))) (hs : OpR X (compareOp op) (fun x y H Q => ∃ i j, x = .str i ∧ y = .str j ∧ Q (.bl (fs i j)) H))
    (ei : ∀ i j, cmpP o (.int i) (.int j) = some (.bl (fi i j))) (es : ∀ i j, cmpP o (.str i) (.str j) = some (.bl (fs i j)))
    (no : ∀ dx dy, (∀ i j, dx = .int i → dy ≠ .int j) → (∀ i j, dx = .str i → dy ≠ .str j) → cmpP o dx dy = none) : OpOk T W X (compareOp op) (oC o) := by
  intro pins s σ H x y v u Q g c dx dy I rx ry k qx qy p
  by_cases hI : ∃ i j, dx = .int i ∧ dy = .int j
  · obtain ⟨i, j, rfl, rfl⟩ := hI
    cases qx.int; cases qy.int
    have p : Post T (RV1 T) W g σ H Q (M.opt (cmpP o (.int i) (.int j)) c) := p
    rw [ei] at p
    exact hi pins s σ H _ _ v u Q I rx ry ⟨i, j, rfl, rfl, Post.here (R := RV1 T) (d := .bl (fi i j)) k rfl p⟩
  · by_cases hS : ∃ i j, dx = .str i ∧ dy = .str j
    · obtain ⟨i, j, rfl, rfl⟩ := hS
      cases qx.str; cases qy.str
      have p : Post T (RV1 T) W g σ H Q (M.opt (cmpP o (.str i) (.str j)) c) := p
      rw [es] at p
      exact hs pins s σ H _ _ v u Q I rx ry ⟨i, j, rfl, rfl, Post.here (R := RV1 T) (d := .bl (fs i j)) k rfl p⟩
    · have p : Post T (RV1 T) W g σ H Q (M.opt (cmpP o dx dy) c) := p
      rw [no dx dy (fun i j a b => hI ⟨i, j, a, b⟩) (fun i j a b => hS ⟨i, j, a, b⟩)] at p
      exact p.elim
theorem cmp_no (o : Cop) (dx dy : D) (h : ∀ i j, dx = .int i → dy ≠ .int j) (h' : ∀ i j, dx = .str i → dy ≠ .str j) : cmpP o dx dy = none := by
  cases dx <;> cases dy <;> first | rfl | (cases o <;> rfl) | exact absurd rfl (h _ _ rfl) | exact absurd rfl (h' _ _ rfl)
theorem op_lt' : OpOk T W X (compareOp .Lt) (oC .lt) := opC_of op_lt op_lt_str (fun _ _ => rfl) (fun _ _ => rfl) (cmp_no .lt)
theorem op_le' : OpOk T W X (compareOp .LtE) (oC .le) := opC_of op_le op_le_str (fun _ _ => rfl) (fun _ _ => rfl) (cmp_no .le)
theorem op_gt' : OpOk T W X (compareOp .Gt) (oC .gt) := opC_of op_gt op_gt_str (fun _ _ => rfl) (fun _ _ => rfl) (cmp_no .gt)
theorem op_ge' : OpOk T W X (compareOp .GtE) (oC .ge) := opC_of op_ge op_ge_str (fun _ _ => rfl) (fun _ _ => rfl) (cmp_no .ge)
end
end TL

end
section
set_option Elab.async false
set_option linter.all false
set_option maxRecDepth 100000
/-! Tl7: == and != of trees, own ones within them. -/
namespace TLQ
open PySem PySem.SeqAt
open AutoSeq1 (wpAny_loadPart')
open MeetsSeq MeetsSeq2 MeetsSeq3 SeqRoads2
section
variable {prog : Program} {w : World} {A : Around} {R : Result → Shared → Prop}
theorem tuple_eqB (l b : Addr) (items items2 : Array Value) (n n2 : Nat) (dd dd2 : Option Addr) (sl sl2 : Array (Option Value)) (F : Nat → Bool) (I : Nat → Shared → Prop) (J : Shared → Prop)
    (turn : ∀ i (h1 : i < items.size) (h2 : i < items2.size) s, I i s → wpAny (model prog w) A.in1 (eqBool items[i] items2[i]) (fun r s' => r = F i ∧ (r = true → I (i + 1) s') ∧ (r = false → J s')) (fun e s' => R (.error e) s') s)
    (finT : ∀ s, I (min items.size items2.size) s → R (.ok (.ret (.bool (items.size == items2.size)))) s) (finF : ∀ s, J s → R (.ok (.ret (.bool false))) s)
    {s : Shared} (hl1 : s.heap.get? l = some { cls := .type "tuple", dict := dd, data := .seq items n, slots := sl }) (hb1 : s.heap.get? b = some { cls := .type "tuple", dict := dd2, data := .seq items2 n2, slots := sl2 }) (h : I 0 s) :
    wpAny (model prog w) A.in1 (Builtin.«tuple.__eq__» ⟨[.ref l, .ref b], []⟩) (GQ.FinOf prog w A R) (fun e s' => R (.error e) s') s := by
  have f2 := AutoSeq1.sub_tuple_tuple
  have hZ : (items.toList.zip items2.toList).length = min items.size items2.size := by simp
  have h0 := h
  obtain ⟨hp, g, d, tk, os⟩ := s
  wp_walk using wpAny_loadPart' hl1, wpAny_loadPart' hb1, wpAny_forIn_list _ (fun rest b s' => b.1 = none ∧ ∃ i, rest = (items.toList.zip items2.toList).drop i ∧ i ≤ min items.size items2.size ∧ I i s') _
  case turn =>
    rintro ⟨y, x⟩ rest b s' ⟨hb', i, hz, hi, hI⟩
    have hlt : i < (items.toList.zip items2.toList).length := by
      rcases Nat.lt_or_ge i (items.toList.zip items2.toList).length with h' | h'
      · exact h'
      · rw [List.drop_of_length_le h'] at hz; cases hz
    have h1 : i < items.size := by rw [hZ] at hlt; omega
    have h2 : i < items2.size := by rw [hZ] at hlt; omega
    rw [List.drop_eq_getElem_cons hlt] at hz
    injection hz with hyx hrest
    have hy : y = items[i] := by have := congrArg Prod.fst hyx; simpa using this
    have hx : x = items2[i] := by have := congrArg Prod.snd hyx; simpa using this
    subst hy hx
    refine wpAny_bind (wpAny_mono (turn i h1 h2 s' hI) (fun r s2 q2 => ?_) fun _ _ x => x)
    obtain ⟨hr, q2, q3⟩ := q2
    cases r with
    | true =>
      wp_walk
      exact ⟨rfl, i + 1, hrest, by omega, q2 rfl⟩
    | false =>
      wp_walk
      have q := finF s2 (q3 rfl)
      exact q
  case fin =>
    rintro ⟨b1, b2⟩ s' ⟨hb', i, hz, hi, hI⟩
    simp only at hb'
    subst hb'
    have hge : min items.size items2.size ≤ i := by
      rcases Nat.lt_or_ge i (items.toList.zip items2.toList).length with h' | h'
      · rw [List.drop_eq_getElem_cons h'] at hz; cases hz
      · exact hZ ▸ h'
    have hi' : i = min items.size items2.size := by omega
    have hR := finT s' (hi' ▸ hI)
    wp_walk
    simpa [Builtin.Tuple.tupleCompareSizes] using hR
  case h =>
    exact ⟨rfl, 0, rfl, Nat.zero_le _, h0⟩
theorem tuple_neB (l b : Addr) (items items2 : Array Value) (n n2 : Nat) (dd dd2 : Option Addr) (sl sl2 : Array (Option Value)) (F : Nat → Bool) (I : Nat → Shared → Prop) (J : Shared → Prop)
    (turn : ∀ i (h1 : i < items.size) (h2 : i < items2.size) s, I i s → wpAny (model prog w) A.in1 (eqBool items[i] items2[i]) (fun r s' => r = F i ∧ (r = true → I (i + 1) s') ∧ (r = false → J s')) (fun e s' => R (.error e) s') s)
    (finT : ∀ s, I (min items.size items2.size) s → R (.ok (.ret (.bool (items.size != items2.size)))) s) (finF : ∀ s, J s → R (.ok (.ret (.bool true))) s)
    {s : Shared} (hl1 : s.heap.get? l = some { cls := .type "tuple", dict := dd, data := .seq items n, slots := sl }) (hb1 : s.heap.get? b = some { cls := .type "tuple", dict := dd2, data := .seq items2 n2, slots := sl2 }) (h : I 0 s) :
    wpAny (model prog w) A.in1 (Builtin.«tuple.__ne__» ⟨[.ref l, .ref b], []⟩) (GQ.FinOf prog w A R) (fun e s' => R (.error e) s') s := by
  have f2 := AutoSeq1.sub_tuple_tuple
  have hZ : (items.toList.zip items2.toList).length = min items.size items2.size := by simp
  have h0 := h
  obtain ⟨hp, g, d, tk, os⟩ := s
  wp_walk using wpAny_loadPart' hl1, wpAny_loadPart' hb1, wpAny_forIn_list _ (fun rest b s' => b.1 = none ∧ ∃ i, rest = (items.toList.zip items2.toList).drop i ∧ i ≤ min items.size items2.size ∧ I i s') _
  case turn =>
    rintro ⟨y, x⟩ rest b s' ⟨hb', i, hz, hi, hI⟩
    have hlt : i < (items.toList.zip items2.toList).length := by
      rcases Nat.lt_or_ge i (items.toList.zip items2.toList).length with h' | h'
      · exact h'
      · rw [List.drop_of_length_le h'] at hz; cases hz
    have h1 : i < items.size := by rw [hZ] at hlt; omega
    have h2 : i < items2.size := by rw [hZ] at hlt; omega
    rw [List.drop_eq_getElem_cons hlt] at hz
    injection hz with hyx hrest
    have hy : y = items[i] := by have := congrArg Prod.fst hyx; simpa using this
    have hx : x = items2[i] := by have := congrArg Prod.snd hyx; simpa using this
    subst hy hx
    refine wpAny_bind (wpAny_mono (turn i h1 h2 s' hI) (fun r s2 q2 => ?_) fun _ _ x => x)
    obtain ⟨hr, q2, q3⟩ := q2
    cases r with
    | true =>
      wp_walk
      exact ⟨rfl, i + 1, hrest, by omega, q2 rfl⟩
    | false =>
      wp_walk
      have q := finF s2 (q3 rfl)
      exact q
  case fin =>
    rintro ⟨b1, b2⟩ s' ⟨hb', i, hz, hi, hI⟩
    simp only at hb'
    subst hb'
    have hge : min items.size items2.size ≤ i := by
      rcases Nat.lt_or_ge i (items.toList.zip items2.toList).length with h' | h'
      · rw [List.drop_eq_getElem_cons h'] at hz; cases hz
      · exact hZ ▸ h'
    have hi' : i = min items.size items2.size := by omega
    have hR := finT s' (hi' ▸ hI)
    wp_walk
    simpa [Builtin.Tuple.tupleCompareSizes] using hR
  case h =>
    exact ⟨rfl, 0, rfl, Nat.zero_le _, h0⟩

/-- at each turn the two lists are read anew: N items each; F i says whether the i-th two are equal -/
def ListB (prog : Program) (w : World) (A : Around) (E : Value → Shared → Prop) (l b : Addr) (N : Nat) (F : Nat → Bool) (I : Nat → Shared → Prop) (J : Shared → Prop) : Prop :=
  (∀ i s, I i s → ∃ (items items2 : Array Value) (n n2 : Nat), s.heap.get? l = some { cls := .type "list", data := .seq items n } ∧ s.heap.get? b = some { cls := .type "list", data := .seq items2 n2 } ∧ items.size = N ∧ items2.size = N ∧
    ∀ (h1 : i < items.size) (h2 : i < items2.size), wpAny (model prog w) A.in1 (eqBool items[i] items2[i]) (fun r s' => r = F i ∧ (r = true → I (i + 1) s') ∧ (r = false → J s')) E s) ∧
  ∀ s, J s → ∃ (items items2 : Array Value) (n n2 : Nat), s.heap.get? l = some { cls := .type "list", data := .seq items n } ∧ s.heap.get? b = some { cls := .type "list", data := .seq items2 n2 } ∧ items.size = N ∧ items2.size = N
theorem eq_loopB (l b : Addr) (N : Nat) (F : Nat → Bool) (I : Nat → Shared → Prop) (J : Shared → Prop) (hl : ListB prog w A (fun e s' => R (.error e) s') l b N F I J)
    (finT : ∀ s, I N s → R (.ok (.ret (.bool true))) s) (finF : ∀ s, J s → R (.ok (.ret (.bool false))) s) (k : Nat) :
    ∀ i : Nat, N - i = k → i ≤ N → ∀ s, I i s →
      wpAny (model prog w) A.in1 (Builtin.«list.__eq__.loop» ⟨[.ref l, .ref b, rawInt i, rawInt 2], []⟩) (GQ.FinOf prog w A R) (fun e s' => R (.error e) s') s := by
  induction k with
  | zero =>
    intro i hk hi s h
    obtain ⟨items, items2, n, n2, hl1, hb1, hs1, hs2, _⟩ := hl.1 _ _ h
    have hi' : i = N := by omega
    have hR : R (.ok (.ret (.bool true))) s := finT s (hi' ▸ h)
    obtain ⟨hp, g, d, tk, os⟩ := s
    wp_walk using wpAny_loadPart' hl1, wpAny_loadPart' hb1
    have hi1 : items[((i : Nat) : Int).toNat]? = none := by simp; omega
    have hi2 : items2[((i : Nat) : Int).toNat]? = none := by simp; omega
    rw [hi1, hi2]
    wp_walk using wpAny_loadPart' hl1, wpAny_loadPart' hb1
    show R (.ok (.ret (.bool (items.size == items2.size)))) _
    rw [hs1, hs2]
    simpa using hR
  | succ k ih =>
    intro i hk hi s h
    obtain ⟨items, items2, n, n2, hl1, hb1, hs1, hs2, turn⟩ := hl.1 _ _ h
    have hlt : i < items.size := by omega
    have hlt2 : i < items2.size := by omega
    have ht := turn hlt hlt2
    obtain ⟨hp, g, d, tk, os⟩ := s
    wp_walk using wpAny_loadPart' hl1, wpAny_loadPart' hb1
    have hi1 : items[((i : Nat) : Int).toNat]? = some items[i] := by simp [hlt]
    have hi2 : items2[((i : Nat) : Int).toNat]? = some items2[i] := by simp [hlt2]
    have hc : ((i : Int) + 1) = ((i + 1 : Nat) : Int) := by omega
    rw [hi1, hi2]
    refine wpAny_bind (wpAny_mono ht (fun r s2 h2 => ?_) fun _ _ x => x)
    obtain ⟨hr, h2, h3⟩ := h2
    cases r with
    | true =>
      have hrec := ih (i + 1) (by omega) (by omega) s2 (h2 rfl)
      obtain ⟨hp2, g2, d2, tk2, os2⟩ := s2
      wp_walk
      rw [hc]
      exact ⟨plainId_quiet plain_eq_loop _, codeAny_builtin entry_eq_loop (by
        rw [Around.under_plainId plain_eq_loop _]
        exact hrec)⟩
    | false =>
      obtain ⟨items', items2', n', n2', hl1', hb1', hs1', hs2'⟩ := hl.2 _ (h3 rfl)
      have hR := finF s2 (h3 rfl)
      obtain ⟨hp2, g2, d2, tk2, os2⟩ := s2
      wp_walk using wpAny_loadPart' hl1', wpAny_loadPart' hb1'
      have hj1 : items'[((i : Nat) : Int).toNat]? = some (items'[i]'(by omega)) := by simp
      have hj2 : items2'[((i : Nat) : Int).toNat]? = some (items2'[i]'(by omega)) := by simp
      rw [hj1, hj2]
      wp_walk
      exact hR
theorem list_eqB (l b : Addr) (N : Nat) (F : Nat → Bool) (I : Nat → Shared → Prop) (J : Shared → Prop) (hl : ListB prog w A (fun e s' => R (.error e) s') l b N F I J)
    (finT : ∀ s, I N s → R (.ok (.ret (.bool true))) s) (finF : ∀ s, J s → R (.ok (.ret (.bool false))) s) {s : Shared} (h : I 0 s) :
    wpAny (model prog w) A.in1 (Builtin.«list.__eq__» ⟨[.ref l, .ref b], []⟩) (GQ.FinOf prog w A R) (fun e s' => R (.error e) s') s := by
  obtain ⟨items, items2, n, n2, hl1, hb1, hs1, hs2, _⟩ := hl.1 _ _ h
  have hrec := eq_loopB (A := A) (R := R) l b N F I J hl finT finF _ 0 rfl (Nat.zero_le _) s h
  obtain ⟨hp, g, d, tk, os⟩ := s
  have f3 := AutoSeq1.sub_list_list
  have hne : ¬ (items.size != items2.size) = true := by simp [hs1, hs2]
  wp_walk using wpAny_loadPart' hl1, wpAny_loadPart' hb1
  exact ⟨plainId_quiet plain_eq_loop _, codeAny_builtin entry_eq_loop (by
    rw [Around.under_plainId plain_eq_loop _]
    exact hrec)⟩
/-- lists of unlike lengths -/
theorem list_eqL (l b : Addr) (items items2 : Array Value) (n n2 : Nat) {s : Shared} (hl1 : s.heap.get? l = some { cls := .type "list", data := .seq items n }) (hb1 : s.heap.get? b = some { cls := .type "list", data := .seq items2 n2 }) (hne : items.size ≠ items2.size) (h : R (.ok (.ret (.bool false))) s) :
    wpAny (model prog w) A.in1 (Builtin.«list.__eq__» ⟨[.ref l, .ref b], []⟩) (GQ.FinOf prog w A R) (fun e s' => R (.error e) s') s := by
  obtain ⟨hp, g, d, tk, os⟩ := s
  have f3 := AutoSeq1.sub_list_list
  have hne : (items.size != items2.size) = true := by simp [hne]
  wp_walk using wpAny_loadPart' hl1, wpAny_loadPart' hb1
  exact h
theorem ne_loopB (l b : Addr) (N : Nat) (F : Nat → Bool) (I : Nat → Shared → Prop) (J : Shared → Prop) (hl : ListB prog w A (fun e s' => R (.error e) s') l b N F I J)
    (finT : ∀ s, I N s → R (.ok (.ret (.bool false))) s) (finF : ∀ s, J s → R (.ok (.ret (.bool true))) s) (k : Nat) :
    ∀ i : Nat, N - i = k → i ≤ N → ∀ s, I i s →
      wpAny (model prog w) A.in1 (Builtin.«list.__eq__.loop» ⟨[.ref l, .ref b, rawInt i, rawInt 3], []⟩) (GQ.FinOf prog w A R) (fun e s' => R (.error e) s') s := by
  induction k with
  | zero =>
    intro i hk hi s h
    obtain ⟨items, items2, n, n2, hl1, hb1, hs1, hs2, _⟩ := hl.1 _ _ h
    have hi' : i = N := by omega
    have hR : R (.ok (.ret (.bool false))) s := finT s (hi' ▸ h)
    obtain ⟨hp, g, d, tk, os⟩ := s
    wp_walk using wpAny_loadPart' hl1, wpAny_loadPart' hb1
    have hi1 : items[((i : Nat) : Int).toNat]? = none := by simp; omega
    have hi2 : items2[((i : Nat) : Int).toNat]? = none := by simp; omega
    rw [hi1, hi2]
    wp_walk using wpAny_loadPart' hl1, wpAny_loadPart' hb1
    show R (.ok (.ret (.bool (items.size != items2.size)))) _
    rw [hs1, hs2]
    simpa using hR
  | succ k ih =>
    intro i hk hi s h
    obtain ⟨items, items2, n, n2, hl1, hb1, hs1, hs2, turn⟩ := hl.1 _ _ h
    have hlt : i < items.size := by omega
    have hlt2 : i < items2.size := by omega
    have ht := turn hlt hlt2
    obtain ⟨hp, g, d, tk, os⟩ := s
    wp_walk using wpAny_loadPart' hl1, wpAny_loadPart' hb1
    have hi1 : items[((i : Nat) : Int).toNat]? = some items[i] := by simp [hlt]
    have hi2 : items2[((i : Nat) : Int).toNat]? = some items2[i] := by simp [hlt2]
    have hc : ((i : Int) + 1) = ((i + 1 : Nat) : Int) := by omega
    rw [hi1, hi2]
    refine wpAny_bind (wpAny_mono ht (fun r s2 h2 => ?_) fun _ _ x => x)
    obtain ⟨hr, h2, h3⟩ := h2
    cases r with
    | true =>
      have hrec := ih (i + 1) (by omega) (by omega) s2 (h2 rfl)
      obtain ⟨hp2, g2, d2, tk2, os2⟩ := s2
      wp_walk
      rw [hc]
      exact ⟨plainId_quiet plain_eq_loop _, codeAny_builtin entry_eq_loop (by
        rw [Around.under_plainId plain_eq_loop _]
        exact hrec)⟩
    | false =>
      obtain ⟨items', items2', n', n2', hl1', hb1', hs1', hs2'⟩ := hl.2 _ (h3 rfl)
      have hR := finF s2 (h3 rfl)
      obtain ⟨hp2, g2, d2, tk2, os2⟩ := s2
      wp_walk using wpAny_loadPart' hl1', wpAny_loadPart' hb1'
      have hj1 : items'[((i : Nat) : Int).toNat]? = some (items'[i]'(by omega)) := by simp
      have hj2 : items2'[((i : Nat) : Int).toNat]? = some (items2'[i]'(by omega)) := by simp
      rw [hj1, hj2]
      wp_walk
      exact hR
theorem list_neB (l b : Addr) (N : Nat) (F : Nat → Bool) (I : Nat → Shared → Prop) (J : Shared → Prop) (hl : ListB prog w A (fun e s' => R (.error e) s') l b N F I J)
    (finT : ∀ s, I N s → R (.ok (.ret (.bool false))) s) (finF : ∀ s, J s → R (.ok (.ret (.bool true))) s) {s : Shared} (h : I 0 s) :
    wpAny (model prog w) A.in1 (Builtin.«list.__ne__» ⟨[.ref l, .ref b], []⟩) (GQ.FinOf prog w A R) (fun e s' => R (.error e) s') s := by
  obtain ⟨items, items2, n, n2, hl1, hb1, hs1, hs2, _⟩ := hl.1 _ _ h
  have hrec := ne_loopB (A := A) (R := R) l b N F I J hl finT finF _ 0 rfl (Nat.zero_le _) s h
  obtain ⟨hp, g, d, tk, os⟩ := s
  have f3 := AutoSeq1.sub_list_list
  have hne : ¬ (items.size != items2.size) = true := by simp [hs1, hs2]
  wp_walk using wpAny_loadPart' hl1, wpAny_loadPart' hb1
  exact ⟨plainId_quiet plain_eq_loop _, codeAny_builtin entry_eq_loop (by
    rw [Around.under_plainId plain_eq_loop _]
    exact hrec)⟩
/-- lists of unlike lengths -/
theorem list_neL (l b : Addr) (items items2 : Array Value) (n n2 : Nat) {s : Shared} (hl1 : s.heap.get? l = some { cls := .type "list", data := .seq items n }) (hb1 : s.heap.get? b = some { cls := .type "list", data := .seq items2 n2 }) (hne : items.size ≠ items2.size) (h : R (.ok (.ret (.bool true))) s) :
    wpAny (model prog w) A.in1 (Builtin.«list.__ne__» ⟨[.ref l, .ref b], []⟩) (GQ.FinOf prog w A R) (fun e s' => R (.error e) s') s := by
  obtain ⟨hp, g, d, tk, os⟩ := s
  have f3 := AutoSeq1.sub_list_list
  have hne : (items.size != items2.size) = true := by simp [hne]
  wp_walk using wpAny_loadPart' hl1, wpAny_loadPart' hb1
  exact h
end
end TLQ

end
section
set_option Elab.async false
set_option linter.all false
set_option maxRecDepth 100000
/-! Tl8: == and != of trees over the heap. -/
namespace TL
open PySem L2

/-! ### plain -/
def b2i (b : Bool) : Int := if b then 1 else 0
def eqFlat : D → D → Option Bool
  | .non, .non => some true
  | .bl a, .bl b => some (a == b)
  | .int i, .int j => some (i == j)
  | .str a, .str b => some (a == b)
  | .non, .bl _ => some false
  | .non, .int _ => some false
  | .non, .str _ => some false
  | .bl _, .non => some false
  | .int _, .non => some false
  | .str _, .non => some false
  | .bl _, .str _ => some false
  | .int _, .str _ => some false
  | .str _, .bl _ => some false
  | .str _, .int _ => some false
  | _, _ => none
def eqL (f : D → D → Option Bool) : List D → List D → Option Bool
  | [], [] => some true
  | [], _ :: _ => some false
  | _ :: _, [] => some false
  | x :: xs, y :: ys => match f x y with
    | some true => eqL f xs ys
    | some false => some false
    | none => none
def eqRat (a : Rat) : D → Option Bool
  | .rat b => some (decide (a = b))
  | .non => some false
  | .bl _ => some false
  | .int _ => some false
  | .str _ => some false
  | .tup _ => some false
  | _ => none
def eqN : Nat → D → D → Option Bool
  | n + 1, .tup xs, .tup ys => eqL (eqN n) xs ys
  | n + 1, .lst xs, .lst ys => if xs.length = ys.length then eqL (eqN n) xs ys else some false
  | _, .rat a, d => eqRat a d
  | _, x, y => eqFlat x y
/-- == -/
abbrev eqD (m : Nat) : D → D → Option Bool := eqN m
def toV : D → V
  | .non => .non
  | .bl b => .bl b
  | .int i => .int i
  | .str s => .str s
  | _ => .non
theorem eqFlat_V {dx dy : D} {b : Bool} (h : eqFlat dx dy = some b) : isLit dx = true ∧ isLit dy = true ∧ eqV (toV dx) (toV dy) = b := by
  unfold eqFlat at h
  split at h <;> first | (cases h; exact ⟨rfl, rfl, rfl⟩) | cases h
theorem lit_flat : ∀ {d : D}, isLit d = true → flatV (toV d) = true
  | .non, _ => rfl
  | .bl _, _ => rfl
  | .int _, _ => rfl
  | .str _, _ => rfl
theorem lit_rep {T : Tab} {g : Gh} {v : V} : ∀ {d : D}, isLit d = true → Rep T g v d → v = toV d
  | .non, _, r => r
  | .bl _, _, r => r
  | .int _, _, r => r
  | .str _, _, r => r
theorem lit_not {d : D} (h : isLit d = true) : ∀ xs, d ≠ .lst xs := fun xs e => by subst e; cases h

/-! ### equal values, equal trees -/
section
variable {T : Tab} {W : WX} {X : Cx} {pins : List (Addr × Obj)} {σ : L2.St} {H : Hp} {s : Shared} {g : Gh} {c : Cfg}
theorem eqV_self {v : V} (h : flatV v = true) : eqV v v = true := by
  cases v <;> first | rfl | (simp [eqV]; done) | cases h
theorem eqL_same {f : D → D → Option Bool} {vs : List V} (hf : ∀ v x y b, v ∈ vs → f x y = some b → Rep T g v x → Rep T g v y → b = true) : ∀ {xs ys : List D} {b : Bool}, eqL f xs ys = some b → Reps T g vs xs → Reps T g vs ys → b = true := by
  induction vs with
  | nil =>
    intro xs ys b h r q
    cases xs with
    | cons x xs => obtain ⟨_, _, e, _⟩ := r; cases e
    | nil => cases ys with
      | cons y ys => obtain ⟨_, _, e, _⟩ := q; cases e
      | nil => cases h; rfl
  | cons v vs ih =>
    intro xs ys b h r q
    cases xs with
    | nil => cases (show v :: vs = [] from r)
    | cons x xs => cases ys with
      | nil => cases (show v :: vs = [] from q)
      | cons y ys =>
        obtain ⟨v1, vr, e1, r1, r2⟩ := r
        obtain ⟨v2, vr2, e2, q1, q2⟩ := q
        cases e1; cases e2
        have h : (match f x y with
          | some true => eqL f xs ys
          | some false => some false
          | none => none) = some b := h
        cases e : f x y with
        | none => rw [e] at h; cases h
        | some k =>
          have z := hf v x y k List.mem_cons_self e r1 q1
          subst z
          rw [e] at h
          exact ih (fun w x y b hw => hf w x y b (List.mem_cons_of_mem _ hw)) h r2 q2
theorem RepB.at {v : V} {d : D} (k : Held T g σ H c) (r : RepB T g H v d) : (∃ xs a vs, d = .lst xs ∧ v = .ref a ∧ H a = some (.lst vs) ∧ Reps T g vs xs) ∨ ((∀ xs, d ≠ .lst xs) ∧ Rep T g v d) := by
  by_cases h : ∃ xs, d = .lst xs
  · obtain ⟨xs, rfl⟩ := h
    obtain ⟨a, vs, e, h, q⟩ := r.list k
    exact .inl ⟨xs, a, vs, rfl, e, h, q⟩
  · have h' : ∀ xs, d ≠ .lst xs := fun xs e => h ⟨xs, e⟩
    exact .inr ⟨h', r.rep h'⟩
theorem eqN_same (C : Ctx T W X) (I : Inv X pins σ H s) (k : Held T g σ H c) : ∀ (n : Nat) (dx dy : D) (v : V) (b : Bool), eqN n dx dy = some b → RepB T g H v dx → RepB T g H v dy → b = true := by
  have flat : ∀ (dx dy : D) (v : V) (b : Bool), eqFlat dx dy = some b → RepB T g H v dx → RepB T g H v dy → b = true := fun dx dy v b h r q => by
    obtain ⟨l1, l2, e⟩ := eqFlat_V h
    have e1 := lit_rep l1 (r.rep (lit_not l1))
    have e2 := lit_rep l2 (q.rep (lit_not l2))
    rw [← e1, ← e2] at e
    rw [← e]
    exact eqV_self (by rw [e1]; exact lit_flat l1)
  have rat : ∀ (a : Rat) (dy : D) (v : V) (b : Bool), eqRat a dy = some b → RepB T g H v (.rat a) → RepB T g H v dy → b = true := fun a dy v b h r q => by
    obtain ⟨x, dx, e, hI⟩ := (r.rep (fun _ => by simp) : Rep T g v (.rat a))
    subst e
    have no : ∀ (u : V), (∀ a, u ≠ .ref a) → V.ref x ≠ u := fun u h e => h x e.symm
    cases dy with
    | rat a' =>
      obtain ⟨x', dx', e', hI'⟩ := (q.rep (fun _ => by simp) : Rep T g (.ref x) (.rat a'))
      cases e'
      rw [hI] at hI'
      have h1 : a.num = a'.num ∧ ((a.den : Nat) : Int) = (a'.den : Nat) := by
        injection hI' with h1; injection h1 with h1 h2 h3; injection h3 with h3 h4; injection h4 with h4 h5; injection h3 with _ h3; injection h4 with _ h4
        injection h3 with h3; injection h4 with h4
        exact ⟨h3, h4⟩
      have : a = a' := Rat.ext h1.1 (by exact_mod_cast h1.2)
      have h : some (decide (a = a')) = some b := h
      cases h
      exact decide_eq_true this
    | tup ys =>
      obtain ⟨z, vs, e', hz, _⟩ := (q.rep (fun _ => by simp) : Rep T g (.ref x) (.tup ys))
      cases e'
      have hx := k.sub _ _ hI
      rcases hz with (hz | ⟨o, hz⟩) | ⟨o, its, n, hk, _⟩
      · rw [hI] at hz; cases hz
      · rw [hI] at hz; cases hz
      · have hb := I.ok.mod.kin x o (by rw [C.K]; exact hk)
        rw [(I.bs x o hb).2] at hx; cases hx
    | non => cases (q.rep (fun _ => by simp) : V.ref x = .non)
    | bl _ => cases (q.rep (fun _ => by simp) : V.ref x = .bl _)
    | int _ => cases (q.rep (fun _ => by simp) : V.ref x = .int _)
    | str _ => cases (q.rep (fun _ => by simp) : V.ref x = .str _)
    | _ => cases h
  intro n
  induction n with
  | zero =>
    intro dx dy v b h r q
    cases dx <;> first | exact flat _ dy v b h r q | exact rat _ dy v b h r q | (cases dy <;> cases h)
  | succ n ih =>
    intro dx dy v b h r q
    cases dx with
    | tup xs => cases dy with
      | tup ys =>
        obtain ⟨a, vs, e, h1, r1⟩ := (r.rep (fun _ => by simp) : Rep T g v (.tup xs))
        obtain ⟨a', vs', e', h1', r1'⟩ := (q.rep (fun _ => by simp) : Rep T g v (.tup ys))
        subst e
        cases e'
        have ev := I.tuple_inj (C.sqt h1 k.sub) (C.sqt h1' k.sub)
        subst ev
        exact eqL_same (fun w x y b _ hf rx ry => ih x y w b hf (.inl rx) (.inl ry)) h r1 r1'
      | _ => cases h
    | lst xs => cases dy with
      | lst ys =>
        obtain ⟨a, vs, e, h1, r1⟩ := r.list k
        obtain ⟨a', vs', e', h1', r1'⟩ := q.list k
        subst e
        cases e'
        rw [h1] at h1'
        cases h1'
        have hl : xs.length = ys.length := by rw [← r1.length, ← r1'.length]
        have h : (if xs.length = ys.length then eqL (eqN n) xs ys else some false) = some b := h
        rw [if_pos hl] at h
        exact eqL_same (fun w x y b _ hf rx ry => ih x y w b hf (.inl rx) (.inl ry)) h r1 r1'
      | _ => cases h
    | rat a => exact rat _ dy v b h r q
    | non => exact flat _ dy v b h r q
    | bl _ => exact flat _ dy v b h r q
    | int _ => exact flat _ dy v b h r q
    | str _ => exact flat _ dy v b h r q
    | _ => cases dy <;> cases h
end
end TL

end
section
set_option Elab.async false
set_option linter.all false
set_option maxRecDepth 100000
/-! Tl9a: != by an own ==. -/
namespace PySem.W
open PySem PySem.Calls PyProof.Rows Builtin
section
variable {prog : Program} {w : World} {A : Around} {E : Value → Shared → Prop} {s : Shared} {K : Frag} {x C L f : Addr} {h₀ : Heap} {m : Str → Option Value} {ox : Obj} {od : Option Obj} {b tb : Value}
theorem tlq_boundB {M : Model} {args : List Value} {name : Str} {id : String} {Q : Option Value → Shared → Prop} (X : K.In s.heap) (I : InstAt s.heap x ox C od) (hs : findIn K (.ref C) name = some (some (.builtin id))) (hb : ∀ self, bindSpecial (.builtin id) self = pure (.builtin id, [self]))
    (h : wpAny M A (call (.builtin id) (.ref x :: args)) (fun v => Q (some v)) E s) : wpAny M A (callSpecialIfBound? (.ref x) name args) Q E s := by
  simp only [callSpecialIfBound?, bindSpecialIfBound?]
  refine wpAny_holding (wpAny_bind (wpAny_bind (wpAny_bind (I.type.here ((looks_findIn X hs).here ?_)))))
  refine wpAny_bind (wpAny_askSetting (wpAny_ite ?_))
  have fin : wpAny M A (call (.builtin id) ([.ref x] ++ args) >>= fun v => pure (some v)) Q E s := wpAny_bind (wpAny_mono h (fun v s' h' => wpAny_pure h') fun _ _ h' => h')
  rw [hb]
  split
  · exact wpAny_bind (wpAny_pure (wpAny_pure (by exact fin)))
  · exact wpAny_tryCatch (wpAny_bind (wpAny_pure (wpAny_pure (by exact fin))))
theorem tlq_neBody {Q : Fin → Shared → Prop} (hu : A.units < cLine) (X : K.In s.heap) (I : InstAt s.heap x ox C od) (hs : findIn K (.ref C) "__eq__" = some (some (.ref f))) (hf : isFn K (.ref f) = true)
    (h : wpAny (model prog w) A (call (.ref f) [.ref x, b]) (fun v s' => ∃ r, v = .bool r ∧ Q (.done (.ret (.bool (!r)))) s') E s) :
    wpAny (model prog w) A (Builtin.«object.__ne__» ⟨[.ref x, b], []⟩) Q E s := by
  have one : wpAny (model prog w) A (callSpecialIfBound? (.ref x) "__eq__" [b]) (fun r s' => ∃ k, r = some (.bool k) ∧ Q (.done (.ret (.bool (!k)))) s') E s :=
    ifBound_K X I hs hf (wpAny_mono h (fun v s' ⟨r, e, q⟩ => ⟨r, by rw [e], q⟩) fun _ _ e => e)
  unfold Builtin.«object.__ne__»
  repeat (first
    | with_reducible refine wpAny_cRoomFor hu ?_
    | (refine wpAny_bind (m := callSpecialIfBound? (.ref x) (Str.ofString "__eq__") [b]) (wpAny_mono one (fun r s' hr => by
          obtain ⟨k, rfl, hq⟩ := hr
          repeat (first | exact hq | exact wpAny_pure hq | exact wpAny_truthy_bool hq | (refine wpAny_bind (m := truthy (.bool _)) (wpAny_truthy_bool ?_)) | wp_step)) fun _ _ e => e))
    | wp_step)
theorem tlq_check {M : Model} {Q : Unit → Shared → Prop} (X : K.In s.heap) (I : InstAt s.heap x ox C od) (ho : subIn K (.ref C) (.type "object") = some true) (h : Q () s) : wpAny M A (checkBuiltinCall "object.__ne__" ⟨[.ref x, b], []⟩) Q E s := by
  have L : Looks M s.heap (isInstance (.ref x) (.type "object")) true := I.type.andThen (looks_subIn X ho)
  have ha := F.cmpArgs_ne (.ref x) b
  simp only [checkBuiltinCall, F.cmpKind_ne, F.cmpSplit_ne]
  refine wpAny_bind (L.here ?_)
  simp only [Bool.not_true, Bool.false_eq_true, if_false]
  cases hsig : Manifest.signature? "object.__ne__" with
  | none => exact wpAny_pure h
  | some sig =>
    simp only [argsOk, hsig] at ha
    have h2 : Bind.checkArgs "object.__ne__" sig ⟨[.ref x, b], []⟩ = pure () := ha
    show wpAny M A (Bind.checkArgs "object.__ne__" sig ⟨[.ref x, b], []⟩) Q E _
    rw [h2]; exact wpAny_pure h
theorem ne_own {Q : Value → Shared → Prop} (hu : A.units + 1 < cLine) (F' : Fr h₀ L s.heap m) (X₀ : K.In h₀) (I : InstAt s.heap x ox C od) (hb : Looks (model prog w) s.heap (typeOf b) tb) (hn : notFirst K C tb = true) (ho : subIn K (.ref C) (.type "object") = some true)
    (hs : findIn K (.ref C) "__ne__" = some (some (.builtin "object.__ne__"))) (he : findIn K (.ref C) "__eq__" = some (some (.ref f))) (hf : isFn K (.ref f) = true)
    (h : wpAny (model prog w) A.in1 (call (.ref f) [.ref x, b]) (fun v s' => ∃ r, v = .bool r ∧ Q (.bool (!r)) s') E s) : wpAny (model prog w) A (richCompare .NotEq (.ref x) b) Q E s := by
  have X := X₀.keeps F'.keep
  have one : wpAny (model prog w) A (tryCompare (.ref x) "__ne__" b) (fun r s' => ∃ v, r = some v ∧ Q v s') E s := by
    unfold tryCompare
    refine wpAny_bind (tlq_boundB X I hs (fun self => F.cmp_object.ne.bind self) (wpAny_call (codeAny_call_builtin F.cmp_object.ne.plain F.cmpEntry_ne (tlq_check X I ho
      (tlq_neBody (A := A.in1) hu X I he hf (wpAny_mono h (fun v s' hv => ?_) fun _ _ e => e))))))
    obtain ⟨r, rfl, hq⟩ := hv
    first | exact ⟨r, rfl, wpAny_pure ⟨_, rfl, hq⟩⟩ | exact ⟨r, rfl, wpAny_pure (wpAny_pure ⟨_, rfl, hq⟩)⟩ | exact ⟨r, rfl, ⟨_, rfl, hq⟩⟩
  unfold richCompare
  simp only [oneThing_ref]
  refine wpAny_holding (wpAny_bind (wpAny_cRoomFor (Nat.lt_of_succ_lt hu) ?_))
  refine wpAny_bind (I.type.here (wpAny_bind (hb.here ?_)))
  split
  · rename_i q
    have e : subIn K tb (.ref C) = some false := by
      rcases Bool.or_eq_true_iff.mp hn with e | e
      · rw [beq_iff_eq.mp e] at q; simp at q
      · exact beq_iff_eq.mp e
    refine wpAny_bind ((looks_subIn X e).here ?_)
    simp only [Bool.false_eq_true, if_false]
    refine wpAny_bind (wpAny_mono one (fun r s' z => ?_) fun _ _ e => e)
    obtain ⟨v, rfl, hq⟩ := z
    exact wpAny_pure hq
  · refine wpAny_bind (wpAny_pure ?_)
    simp only [Bool.false_eq_true, if_false]
    refine wpAny_bind (wpAny_mono one (fun r s' z => ?_) fun _ _ e => e)
    obtain ⟨v, rfl, hq⟩ := z
    exact wpAny_pure hq
end
end PySem.W

end
section
set_option Elab.async false
set_option linter.all false
set_option maxRecDepth 100000
/-! Tl9: == and != of trees, as the machine does it. -/
namespace TL
open PySem L2

/-- behind a comparison: the same state but for objects made meanwhile -/
def AftE (T : Tab) (X : Cx) (pins : List (Addr × Obj)) (σ : L2.St) (g : Gh) (H : Hp) (c : Cfg) (s' : Shared) : Prop := ∃ g' H', Inv X pins σ H' s' ∧ StpE g H g' H' ∧ Held T g' σ H' c
section
variable {T : Tab} {W : WX} {X : Cx} {pins : List (Addr × Obj)} {σ : L2.St} {H : Hp} {s : Shared} {g : Gh} {c : Cfg}
/-- a def runs somewhere below -/
theorem call_A {Φ : Phi} {k f : Nat} {A : Around} {us : List Value} {vs : List V} {ds : List D} {d : D} {ce : List (List D)} (sb : Sub X k A) (C : Ctx T W X) (F : FnG T Φ X.prog X.w X.base k f) (hd : [] ∈ T.dfl f)
    (I : Inv X pins σ H s) (r : Vals vs us) (h : Held T g σ H c) (rs : Reps T g vs ds) (e : Φ f ds c.ce = .ok (.v d) ce) :
    wpAny (model X.prog X.w) A (call (.ref (T.fa f)) us) (fun u s' => ∃ v g' H', Inv X pins σ H' s' ∧ RelV v u ∧ Rep T g' v d ∧ StpE g H g' H' ∧ Held T g' σ H' { c with ce := ce }) X.xe s := by
  obtain ⟨⟨fd, ps, Fk, hb⟩, kp⟩ := F
  obtain ⟨hl, us2, r2, bd⟩ := hb [] hd
  have e2 : us2 = [] := by cases r2; rfl
  subst e2
  have e0 : Env0 X.prog X.w X.K X.mg X.base A X.stack s H := by
    have e := I.env0
    exact ⟨by rw [sb.fr]; exact e.frames, e.mod, e.bs, e.bsz, e.funs, e.frf, e.hok, e.bare⟩
  have sp : spF T (Φ f) vs H (fun v H' => ∃ g', Rep T g' v d ∧ StpE g H g' H' ∧ Held T g' σ H' { c with ce := ce }) (WE W σ) :=
    sp_of h rs (by
      unfold callR
      rw [e]
      exact fun v g' H' s k r => ⟨g', r, s, k⟩)
  have Fk' : FnOk X.prog X.w X.K X.mg X.base (L2.CX X.prog X.w) k (T.fa f) fd ps (spF T (Φ f)) := by rw [C.K, C.mg]; exact Fk
  have hlen := Fk.len _ _ _ _ sp
  refine wpAny_call (codeAny_mono (Fk'.run A X.stack s H ⟨us, []⟩ us vs _ (WE W σ) sb.room e0 (by
    have := (show Binds X.K fd ps [] by rw [C.K]; exact bd) s us I.kIn (by rw [List.append_nil, ← r.length]; exact hlen)
    simpa using this) r sp) fun r s' hq => ?_)
  cases r with
  | error e => exact passAt C.tk σ pins H s e s' I hq
  | ok fl =>
    cases fl with
    | ret u =>
      obtain ⟨v, H', I', rv, g', q1, q2, q3⟩ := I.after hq
      exact ⟨v, g', H', I', rv, q1, q2, q3⟩
    | next => exact False.elim hq
    | brk => exact False.elim hq
    | cont => exact False.elim hq

/-- what is known of Ratio: its ==, no other type's subclass -/
structure RatQ (T : Tab) (Φ : Phi) (fe : Nat) : Prop where
  eq : PySem.W.findIn T.K (.ref (T.cls 0)) "__eq__" = some (some (.ref (T.fa fe)))
  ne : PySem.W.findIn T.K (.ref (T.cls 0)) "__ne__" = some (some (.builtin "object.__ne__"))
  fn : PySem.W.isFn T.K (.ref (T.fa fe)) = true
  ob : PySem.W.subIn T.K (.ref (T.cls 0)) (.type "object") = some true
  nf : ∀ n ∈ ["int", "str", "bool", "NoneType", "tuple", "list"], PySem.W.subIn T.K (.type n) (.ref (T.cls 0)) = some false
  val : ∀ a d b ce, eqRat a d = some b → Φ fe [.rat a, d] ce = .ok (.v (.bl b)) ce
  dfl : [] ∈ T.dfl fe
/-- what the comparisons lean on, at level k -/
structure EqC (T : Tab) (W : WX) (X : Cx) (k : Nat) : Prop where
  ctx : Ctx T W X
  rat : ∃ Φ fe, RatQ T Φ fe ∧ FnG T Φ X.prog X.w X.base k fe
/-- the type of a tree, for those that may stand beside a Ratio -/
def tyD (T : Tab) : D → Value
  | .non => .type "NoneType"
  | .bl _ => .type "bool"
  | .int _ => .type "int"
  | .str _ => .type "str"
  | .tup _ => .type "tuple"
  | .lst _ => .type "list"
  | .ins C _ => .ref (T.cls C)
  | .dct _ => .type "dict"
  | _ => .ref (T.cls 0)
theorem looks_ty {y : V} {v : Value} {d : D} (C : Ctx T W X) (I : Inv X pins σ H s) (k : Held T g σ H c) (rv : RelV y v) (r : RepB T g H y d) (hd : ∀ f, d ≠ .fn f) (hc : ∀ j, d ≠ .cell j) (hs : ∀ ns, d ≠ .scr ns) :
    PySem.W.Looks (model X.prog X.w) s.heap (typeOf v) (tyD T d) := by
  have pure_ : ∀ {t : Value}, typeOf v = pure t → PySem.W.Looks (model X.prog X.w) s.heap (typeOf v) t := fun e => PySem.W.Looks.of_pure e
  have ref_ : ∀ {a : Addr} {o : Obj} {t : Value}, v = .ref a → s.heap.get? a = some o → o.cls = t → PySem.W.Looks (model X.prog X.w) s.heap (typeOf v) t := fun {a o t} e h hc => by
    subst e
    intro A Q E s' k q
    exact wpAny_typeOf_ref (k _ _ h) (by rw [hc]; exact q)
  rcases r.at k with ⟨xs, a, vs, e1, e2, h, _⟩ | ⟨nl, r⟩
  · subst e1 e2
    obtain ⟨z, its, n, r, e⟩ := I.hok a _ h
    exact ref_ rv e rfl
  · cases d with
    | non => have r : y = .non := r; subst r; cases rv; exact pure_ rfl
    | bl b => have r : y = .bl b := r; subst r; cases rv; exact pure_ rfl
    | int i => have r : y = .int i := r; subst r; obtain ⟨t, rfl⟩ := rv; exact pure_ rfl
    | str i => have r : y = .str i := r; subst r; obtain ⟨t, rfl⟩ := rv; exact pure_ rfl
    | tup xs =>
      obtain ⟨a, vs, e, h, _⟩ := r
      subst e
      obtain ⟨its, _, p, _⟩ := I.tuple (C.sqt h k.sub)
      obtain ⟨o, e, hc, _⟩ := p
      exact ref_ rv e hc
    | lst xs => exact absurd rfl (nl xs)
    | rat q =>
      obtain ⟨a, dx, e, h⟩ := r
      subst e
      obtain ⟨mA, J, _⟩ := ins_get I.hok (k.sub _ _ h)
      obtain ⟨od, J, _⟩ := J.look
      have := J.type (M := model X.prog X.w)
      cases rv
      exact this
    | ins C fs =>
      obtain ⟨a, dx, vfs, e, _, h, _⟩ := r
      subst e
      obtain ⟨mA, J, _⟩ := ins_get I.hok (k.sub _ _ h)
      obtain ⟨od, J, _⟩ := J.look
      have := J.type (M := model X.prog X.w)
      cases rv
      exact this
    | fn f => exact absurd rfl (hd f)
    | cell j => exact absurd rfl (hc j)
    | scr ns => exact absurd rfl (hs ns)
    | dct kvs =>
      obtain ⟨a, vs, e, h, _⟩ := r
      subst e
      obtain ⟨_, _, _, _, o, es, ep, h1, h2, _⟩ := (show ObjOk X.prog X.w H s.heap a (.dK vs) from I.hok a _ (k.sub _ _ h))
      exact ref_ rv h1 h2.1

/-- == or !=, by its answer -/
def opB (ne : Bool) : CmpOp := if ne then .NotEq else .Eq
def EqB (T : Tab) (X : Cx) (n : Nat) (dx dy : D) (b : Bool) : Prop :=
  ∀ (A : Around) (pins : List (Addr × Obj)) (s : Shared) (σ : L2.St) (H : Hp) (g : Gh) (c : Cfg) (x y : V) (u v : Value), Sub X n A → Inv X pins σ H s → RelV x u → RelV y v → Held T g σ H c → RepB T g H x dx → RepB T g H y dy →
    wpAny (model X.prog X.w) A (eqBool u v) (fun r s' => r = b ∧ AftE T X pins σ g H c s') X.xe s
def RcB (T : Tab) (X : Cx) (n : Nat) (dx dy : D) (b : Bool) : Prop :=
  ∀ (ne : Bool) (A : Around) (pins : List (Addr × Obj)) (s : Shared) (σ : L2.St) (H : Hp) (g : Gh) (c : Cfg) (x y : V) (u v : Value), Sub X n A → Inv X pins σ H s → RelV x u → RelV y v → Held T g σ H c → RepB T g H x dx → RepB T g H y dy →
    wpAny (model X.prog X.w) A (richCompare (opB ne) u v) (fun r s' => r = .bool (xor ne b) ∧ AftE T X pins σ g H c s') X.xe s
theorem AftE.refl (I : Inv X pins σ H s) (k : Held T g σ H c) : AftE T X pins σ g H c s := ⟨g, H, I, StpE.refl, k⟩
theorem rcB_rat {k : Nat} (C : EqC T W X k) {a : Rat} {dy : D} {b : Bool} (e : eqRat a dy = some b) : RcB T X (k + 1) (.rat a) dy b := by
  intro ne A pins s σ H g c x y u v sb I rx ry h qx qy
  obtain ⟨Φ, fe, Q, F⟩ := C.rat
  have C := C.ctx
  obtain ⟨ax, dx, ex, hx⟩ := (qx.rep (fun _ => by simp) : Rep T g x (.rat a))
  subst ex
  cases rx
  have nl : ∀ xs, dy ≠ .lst xs := fun xs z => by subst z; cases e
  have hy := qy.rep nl
  obtain ⟨mA, J, _⟩ := ins_get I.hok (h.sub _ _ hx)
  obtain ⟨od, J, _⟩ := J.look
  obtain ⟨m, hF⟩ := I.fr
  have hb := looks_ty C I h ry qy (fun f z => by subst z; cases e) (fun f z => by subst z; cases e) (fun f z => by subst z; cases e)
  have hn : PySem.W.notFirst X.K (T.cls 0) (tyD T dy) = true := by
    rw [C.K]
    unfold PySem.W.notFirst
    cases dy with
    | rat q => simp [tyD]
    | non => rw [show tyD T D.non = .type "NoneType" from rfl, Q.nf _ (by simp)]; simp
    | bl _ => rw [show tyD T (D.bl _) = .type "bool" from rfl, Q.nf _ (by simp)]; simp
    | int _ => rw [show tyD T (D.int _) = .type "int" from rfl, Q.nf _ (by simp)]; simp
    | str _ => rw [show tyD T (D.str _) = .type "str" from rfl, Q.nf _ (by simp)]; simp
    | tup _ => rw [show tyD T (D.tup _) = .type "tuple" from rfl, Q.nf _ (by simp)]; simp
    | _ => cases e
  have rs : Reps T g [.ref ax, y] [.rat a, dy] := ⟨_, _, rfl, ⟨ax, dx, rfl, hx⟩, _, _, rfl, hy, rfl⟩
  have r2 : Vals [V.ref ax, y] [Value.ref ax, v] := .cons rfl (.cons ry .nil)
  have run : ∀ A', Sub X k A' → wpAny (model X.prog X.w) A' (call (.ref (T.fa fe)) [.ref ax, v]) (fun u s' => u = .bool b ∧ AftE T X pins σ g H c s') X.xe s := fun A' sb' =>
    wpAny_mono (call_A sb' C F Q.dfl I r2 h rs (Q.val a dy b c.ce e)) (fun u s' ⟨w, g', H', I', rv, r, st, k'⟩ => by
      have r : w = .bl b := r
      subst r
      cases rv
      exact ⟨rfl, g', H', I', st, k'⟩) fun _ _ z => z
  cases ne with
  | false =>
    refine PySem.W.cmp_K (op := .Eq) sb.room.units0 hF I.ok.mod.kin J hb hn (by rw [C.K]; exact Q.eq) (by rw [C.K]; exact Q.fn) (wpAny_mono (run A (sb.mono (by omega))) (fun u s' ⟨e, q⟩ => ?_) fun _ _ z => z)
    subst e
    exact ⟨by cases b <;> rfl, q⟩
  | true =>
    have hu : A.units + 1 < cLine := by have := sb.room.units; omega
    refine PySem.W.ne_own hu hF I.ok.mod.kin J hb hn (by rw [C.K]; exact Q.ob) (by rw [C.K]; exact Q.ne) (by rw [C.K]; exact Q.eq) (by rw [C.K]; exact Q.fn) (wpAny_mono (run A.in1 sb.in1) (fun u s' ⟨e, q⟩ => ?_) fun _ _ z => z)
    subst e
    exact ⟨b, rfl, by cases b <;> rfl, q⟩
/-- two different objects inside a builtin -/
theorem eqBool_refB {A : Around} {E : Value → Shared → Prop} {l b : Addr} {Q : Bool → Shared → Prop} {prog : Program} {w : World} (hne : l ≠ b) (h : wpAny (model prog w) A (richCompare .Eq (.ref l) (.ref b)) (fun v s' => ∃ r, v = .bool r ∧ Q r s') E s) : wpAny (model prog w) A (eqBool (.ref l) (.ref b)) Q E s := GQ.eqBool_refG hne h
end
end TL

end
section
set_option Elab.async false
set_option linter.all false
set_option maxRecDepth 100000
/-! Tl10: == and != of trees: lists, tuples, all. -/
namespace TL
open PySem L2
section
variable {T : Tab} {W : WX} {X : Cx} {n k : Nat}
theorem RcB.mono {dx dy : D} {b : Bool} {m : Nat} (h : RcB T X n dx dy b) (hm : n ≤ m) : RcB T X m dx dy b := fun ne A pins s σ H g c x y u v sb => h ne A pins s σ H g c x y u v (sb.mono hm)
theorem EqB.mono {dx dy : D} {b : Bool} {m : Nat} (h : EqB T X n dx dy b) (hm : n ≤ m) : EqB T X m dx dy b := fun A pins s σ H g c x y u v sb => h A pins s σ H g c x y u v (sb.mono hm)
theorem EqB.flat {dx dy : D} {b : Bool} (e : eqFlat dx dy = some b) : EqB T X n dx dy b := by
  intro A pins s σ H g c x y u v sb I rx ry h qx qy
  obtain ⟨l1, l2, e⟩ := eqFlat_V e
  have e1 := lit_rep l1 (qx.rep (lit_not l1))
  have e2 := lit_rep l2 (qy.rep (lit_not l2))
  have q := eqAt_V (A := A) (s := s) rx ry (by rw [e1]; exact lit_flat l1) (by rw [e2]; exact lit_flat l2)
  rw [e1, e2, e] at q
  exact q X.prog X.w X.xe _ ⟨rfl, AftE.refl I h⟩
/-- from a rich comparison of references to == within a list or tuple -/
theorem RcB.eqB (C : Ctx T W X) {m : Nat} {dx dy : D} {b : Bool} (e : eqN m dx dy = some b) (h : RcB T X n dx dy b) (hr : ∀ g H x, RepB T g H x dx → ∃ a, x = .ref a) (hr2 : ∀ g H x, RepB T g H x dy → (∃ a, x = .ref a) ∨ ∀ a, x ≠ .ref a) : EqB T X n dx dy b := by
  intro A pins s σ H g c x y u v sb I rx ry k qx qy
  have rc := h false A pins s σ H g c x y u v sb I rx ry k qx qy
  obtain ⟨a, rfl⟩ := hr _ _ _ qx
  cases rx
  have fin : (Value.ref a == v) = false → wpAny (model X.prog X.w) A (eqBool (.ref a) v) (fun r s' => r = b ∧ AftE T X pins σ g H c s') X.xe s := fun ne => by
    unfold eqBool
    refine wpAny_holding ?_
    refine wpAny_ite_split (fun hab => by rw [ne] at hab; cases hab) (fun _ => ?_)
    have go : wpAny (model X.prog X.w) A (richCompare .Eq (.ref a) v) (fun v s' => wpAny (model X.prog X.w) A (truthOfDropped v) (fun r s' => r = b ∧ AftE T X pins σ g H c s') X.xe s') X.xe s :=
      wpAny_mono rc (fun r s' q => by
        obtain ⟨e, q⟩ := q
        subst e
        exact wpAny_truthy_bool ⟨by cases b <;> rfl, q⟩) fun _ _ x => x
    cases v <;> exact wpAny_bind go
  by_cases hv : v = .ref a
  · subst hv
    have ey : y = .ref a := by
      cases y <;> first | (cases ry; done) | (cases ry; rfl) | (obtain ⟨_, z⟩ := ry; cases z)
    subst ey
    have eb := eqN_same C I k m dx dy (.ref a) b e qx qy
    subst eb
    exact SeqAt.EqAt.same (A := A) (s := s) (.ref a) X.prog X.w X.xe _ ⟨rfl, AftE.refl I k⟩
  · exact fin (by
      cases hq : (Value.ref a == v) with
      | false => rfl
      | true => exact absurd (eq_of_beq hq).symm hv)
/-- item by item -/
theorem items_at {g : Gh} {H : Hp} {vs : List V} {xs : List D} {its : List Value} (r : Reps T g vs xs) (rv : Vals vs its) {i : Nat} (h : i < its.toArray.size) :
    ∃ d w, xs[i]? = some d ∧ RelV w its.toArray[i] ∧ Rep T g w d := by
  have h' : i < its.length := by simpa using h
  have k1 : i < vs.length := by rw [rv.length]; exact h'
  have k2 : i < xs.length := by rw [← r.length]; exact k1
  obtain ⟨w, hw, rw_⟩ := r.at (List.getElem?_eq_getElem k2)
  obtain ⟨u, hu, ru⟩ := rv.get hw
  rw [List.getElem?_eq_getElem h'] at hu
  cases hu
  exact ⟨_, w, List.getElem?_eq_getElem k2, by simpa using ru, rw_⟩
/-- eqL by the places -/
theorem eqL_take {f : D → D → Option Bool} : ∀ {xs ys : List D} {b : Bool}, eqL f xs ys = some b → ∀ i, (∀ j, j < i → ∃ x y, xs[j]? = some x ∧ ys[j]? = some y ∧ f x y = some true) → eqL f (xs.drop i) (ys.drop i) = some b
  | xs, ys, b, h, 0, _ => by simpa using h
  | [], ys, b, h, i + 1, hj => by obtain ⟨_, _, e, _⟩ := hj 0 (by omega); cases e
  | x :: xs, [], b, h, i + 1, hj => by obtain ⟨_, _, _, e, _⟩ := hj 0 (by omega); cases e
  | x :: xs, y :: ys, b, h, i + 1, hj => by
    obtain ⟨x', y', e1, e2, e3⟩ := hj 0 (by omega)
    cases e1; cases e2
    have h : (match f x y with
      | some true => eqL f xs ys
      | some false => some false
      | none => none) = some b := h
    rw [e3] at h
    exact eqL_take h i fun j hj' => hj (j + 1) (by omega)
/-- what is known at a turn -/
theorem eqL_turn {f : D → D → Option Bool} {xs ys : List D} {b : Bool} {i : Nat} {x y : D} (h : eqL f (xs.drop i) (ys.drop i) = some b) (hx : xs[i]? = some x) (hy : ys[i]? = some y) : ∃ r, f x y = some r ∧ (r = true → eqL f (xs.drop (i + 1)) (ys.drop (i + 1)) = some b) ∧ (r = false → b = false) := by
  obtain ⟨h1, e1⟩ := List.getElem?_eq_some_iff.mp hx
  obtain ⟨h2, e2⟩ := List.getElem?_eq_some_iff.mp hy
  rw [List.drop_eq_getElem_cons h1, List.drop_eq_getElem_cons h2, e1, e2] at h
  have h : (match f x y with
      | some true => eqL f (xs.drop (i + 1)) (ys.drop (i + 1))
      | some false => some false
      | none => none) = some b := h
  cases e : f x y with
  | none => rw [e] at h; cases h
  | some r =>
    rw [e] at h
    refine ⟨r, rfl, fun q => by subst q; exact h, fun q => by subst q; cases h; rfl⟩
theorem eqL_end {f : D → D → Option Bool} {xs ys : List D} {b : Bool} (h : eqL f (xs.drop (min xs.length ys.length)) (ys.drop (min xs.length ys.length)) = some b) : b = (xs.length == ys.length) := by
  rcases Nat.lt_trichotomy xs.length ys.length with q | q | q
  · rw [Nat.min_eq_left (by omega), List.drop_length] at h
    have : ys.drop xs.length ≠ [] := by intro e; have := congrArg List.length e; simp at this; omega
    cases e : ys.drop xs.length with
    | nil => exact absurd e this
    | cons a r => rw [e] at h; cases h; simp; omega
  · rw [Nat.min_eq_left (by omega), List.drop_length, q, List.drop_length] at h
    cases h
    simp [q]
  · rw [Nat.min_eq_right (by omega), List.drop_length] at h
    have : xs.drop ys.length ≠ [] := by intro e; have := congrArg List.length e; simp at this; omega
    cases e : xs.drop ys.length with
    | nil => exact absurd e this
    | cons a r => rw [e] at h; cases h; simp; omega
theorem rcB_tup (C : Ctx T W X) {m : Nat} (ih : ∀ dx dy b, eqN m dx dy = some b → EqB T X n dx dy b) {xs ys : List D} {b : Bool} (e : eqL (eqN m) xs ys = some b) : RcB T X (n + 1) (.tup xs) (.tup ys) b := by
  intro ne A pins s σ H g c x y u v sb I rx ry k qx qy
  obtain ⟨a, vs, ea, ha, ra⟩ := qx.tup
  obtain ⟨a', ws, eb, hb, rb⟩ := qy.tup
  subst ea eb
  cases rx
  cases ry
  obtain ⟨its, r, ⟨⟨cls, dd, data, sl⟩, ho, hc, n1, hd⟩, z⟩ := I.tuple (C.sqt ha k.sub)
  obtain ⟨its2, r2, ⟨⟨cls2, dd2, data2, sl2⟩, ho2, hc2, n2, hd2⟩, z2⟩ := I.tuple (C.sqt hb k.sub)
  simp only at hc hd hc2 hd2
  subst hc hd hc2 hd2
  have l1 : its.toArray.size = xs.length := by rw [List.size_toArray, ← r.length, ra.length]
  have l2 : its2.toArray.size = ys.length := by rw [List.size_toArray, ← r2.length, rb.length]
  let F : Nat → Bool := fun i => match xs[i]?, ys[i]? with
    | some x, some y => (eqN m x y).getD false
    | _, _ => false
  let II : Nat → Shared → Prop := fun i s' => AftE T X pins σ g H c s' ∧ eqL (eqN m) (xs.drop i) (ys.drop i) = some b
  let J : Shared → Prop := fun s' => AftE T X pins σ g H c s' ∧ b = false
  have turn : ∀ i (h1 : i < its.toArray.size) (h2 : i < its2.toArray.size) s', II i s' → wpAny (model X.prog X.w) A.in1 (eqBool its.toArray[i] its2.toArray[i]) (fun r s2 => r = F i ∧ (r = true → II (i + 1) s2) ∧ (r = false → J s2)) X.xe s' := by
    intro i h1 h2 s' ⟨⟨g1, H1, I1, st1, k1⟩, el⟩
    obtain ⟨d1, w1, hd1, rw1, rp1⟩ := items_at (H := H) ra r h1
    obtain ⟨d2, w2, hd2, rw2, rp2⟩ := items_at (H := H) rb r2 h2
    obtain ⟨r0, er, ht, hf⟩ := eqL_turn el hd1 hd2
    have eF : F i = r0 := by show (match xs[i]?, ys[i]? with | some x, some y => (eqN m x y).getD false | _, _ => false) = r0; rw [hd1, hd2]; show (eqN m d1 d2).getD false = r0; rw [er]; rfl
    refine wpAny_mono (ih d1 d2 r0 er A.in1 pins s' σ H1 g1 c w1 w2 _ _ sb.in1 I1 rw1 rw2 k1 (.inl (Rep.mono st1.le _ _ rp1)) (.inl (Rep.mono st1.le _ _ rp2))) (fun r s2 ⟨e1, g2, H2, I2, st2, k2⟩ => ?_) fun _ _ x => x
    subst e1
    have af : AftE T X pins σ g H c s2 := ⟨g2, H2, I2, st1.trans st2, k2⟩
    exact ⟨eF.symm, fun q => ⟨af, ht q⟩, fun q => ⟨af, hf q⟩⟩
  have I0 : II 0 s := ⟨AftE.refl I k, by simpa using e⟩
  have finI : ∀ s', II (min its.toArray.size its2.toArray.size) s' → b = (its.toArray.size == its2.toArray.size) ∧ AftE T X pins σ g H c s' := fun s' ⟨af, el⟩ => by
    rw [l1, l2] at el ⊢
    exact ⟨eqL_end el, af⟩
  cases ne with
  | false =>
    refine PySem.wpAny_richCompare_same_room (op := .Eq) ⟨_, ho, rfl⟩ ⟨_, ho2, rfl⟩ PySem.F.slot_tuple_eq (GQ.call_here PySem.F.slot_tuple_eq ⟨_, ho, rfl⟩ PySem.F.entry_tuple_eq (PySem.F.args_tuple_eq_2 _ _) ?_) sb.room.units0
    refine TLQ.tuple_eqB (R := wants (fun v s' => v ≠ .notImplemented ∧ (v = .bool (xor false b) ∧ AftE T X pins σ g H c s')) X.xe) a a' its.toArray its2.toArray n1 n2 dd dd2 sl sl2 F II J turn (fun s' q => ?_) (fun s' q => ?_) ho ho2 I0
    · obtain ⟨q1, q2⟩ := finI s' q
      exact ⟨(fun x => nomatch x), by rw [← q1]; cases b <;> rfl, q2⟩
    · obtain ⟨q1, q2⟩ := q
      subst q2
      exact ⟨(fun x => nomatch x), rfl, q1⟩
  | true =>
    refine PySem.wpAny_richCompare_same_room (op := .NotEq) ⟨_, ho, rfl⟩ ⟨_, ho2, rfl⟩ PySem.F.slot_tuple_ne (GQ.call_here PySem.F.slot_tuple_ne ⟨_, ho, rfl⟩ PySem.F.entry_tuple_ne (PySem.F.args_tuple_ne_2 _ _) ?_) sb.room.units0
    refine TLQ.tuple_neB (R := wants (fun v s' => v ≠ .notImplemented ∧ (v = .bool (xor true b) ∧ AftE T X pins σ g H c s')) X.xe) a a' its.toArray its2.toArray n1 n2 dd dd2 sl sl2 F II J turn (fun s' q => ?_) (fun s' q => ?_) ho ho2 I0
    · obtain ⟨q1, q2⟩ := finI s' q
      exact ⟨(fun x => nomatch x), by unfold bne; rw [← q1]; cases b <;> rfl, q2⟩
    · obtain ⟨q1, q2⟩ := q
      subst q2
      exact ⟨(fun x => nomatch x), rfl, q1⟩
theorem rcB_lst (C : Ctx T W X) {m : Nat} (ih : ∀ dx dy b, eqN m dx dy = some b → EqB T X n dx dy b) {xs ys : List D} {b : Bool} (e : (if xs.length = ys.length then eqL (eqN m) xs ys else some false) = some b) : RcB T X (n + 1) (.lst xs) (.lst ys) b := by
  intro ne A pins s σ H g c x y u v sb I rx ry k qx qy
  -- where the two lists lie, in every state behind
  have look : ∀ (dz : List D) (x : V), RepB T g H x (.lst dz) → ∀ g1 H1 s', Inv X pins σ H1 s' → StpE g H g1 H1 → Held T g1 σ H1 c → ∀ a, x = .ref a → ∃ (vs : List V) (its : List Value) (n : Nat), s'.heap.get? a = some { cls := .type "list", data := .seq its.toArray n } ∧ Vals vs its ∧ Reps T g1 vs dz := by
    intro dz x q g1 H1 s' I1 st1 k1 a ea
    obtain ⟨a', vs, e', h', r'⟩ := (q.step st1).list k1
    rw [ea] at e'; cases e'
    obtain ⟨z, its, n, r, e⟩ := I1.hok a _ h'
    exact ⟨vs, its, n, e, r, r'⟩
  obtain ⟨a, _, ea, _, _⟩ := qx.list k
  obtain ⟨a', _, eb, _, _⟩ := qy.list k
  have lx := fun g1 H1 s' I1 st k1 => look xs x qx g1 H1 s' I1 st k1 a ea
  have ly := fun g1 H1 s' I1 st k1 => look ys y qy g1 H1 s' I1 st k1 a' eb
  subst ea eb
  cases rx
  cases ry
  obtain ⟨vs, its, n1, o1, r1, q1⟩ := lx g H s I StpE.refl k
  obtain ⟨ws, its2, n2, o2, r2, q2⟩ := ly g H s I StpE.refl k
  have l1 : its.toArray.size = xs.length := by rw [List.size_toArray, ← r1.length, q1.length]
  have l2 : its2.toArray.size = ys.length := by rw [List.size_toArray, ← r2.length, q2.length]
  by_cases hl : xs.length = ys.length
  · rw [if_pos hl] at e
    let F : Nat → Bool := fun i => match xs[i]?, ys[i]? with
      | some x, some y => (eqN m x y).getD false
      | _, _ => false
    let II : Nat → Shared → Prop := fun i s' => AftE T X pins σ g H c s' ∧ eqL (eqN m) (xs.drop i) (ys.drop i) = some b
    let J : Shared → Prop := fun s' => AftE T X pins σ g H c s' ∧ b = false
    have LB : TLQ.ListB X.prog X.w A X.xe a a' xs.length F II J := by
      refine ⟨fun i s' ⟨⟨g1, H1, I1, st1, k1⟩, el⟩ => ?_, fun s' ⟨⟨g1, H1, I1, st1, k1⟩, _⟩ => ?_⟩
      · obtain ⟨vs, its, n1, o1, r1, q1⟩ := lx g1 H1 s' I1 st1 k1
        obtain ⟨ws, its2, n2, o2, r2, q2⟩ := ly g1 H1 s' I1 st1 k1
        refine ⟨its.toArray, its2.toArray, n1, n2, o1, o2, by rw [List.size_toArray, ← r1.length, q1.length], by rw [List.size_toArray, ← r2.length, q2.length, hl], fun h1 h2 => ?_⟩
        obtain ⟨d1, w1, hd1, rw1, rp1⟩ := items_at (H := H1) q1 r1 h1
        obtain ⟨d2, w2, hd2, rw2, rp2⟩ := items_at (H := H1) q2 r2 h2
        obtain ⟨r0, er, ht, hf⟩ := eqL_turn el hd1 hd2
        have eF : F i = r0 := by show (match xs[i]?, ys[i]? with | some x, some y => (eqN m x y).getD false | _, _ => false) = r0; rw [hd1, hd2]; show (eqN m d1 d2).getD false = r0; rw [er]; rfl
        refine wpAny_mono (ih d1 d2 r0 er A.in1 pins s' σ H1 g1 c w1 w2 _ _ sb.in1 I1 rw1 rw2 k1 (.inl rp1) (.inl rp2)) (fun r s2 ⟨e1, g2, H2, I2, st2, k2⟩ => ?_) fun _ _ x => x
        subst e1
        have af : AftE T X pins σ g H c s2 := ⟨g2, H2, I2, st1.trans st2, k2⟩
        exact ⟨eF.symm, fun q => ⟨af, ht q⟩, fun q => ⟨af, hf q⟩⟩
      · obtain ⟨vs, its, n1, o1, r1, q1⟩ := lx g1 H1 s' I1 st1 k1
        obtain ⟨ws, its2, n2, o2, r2, q2⟩ := ly g1 H1 s' I1 st1 k1
        exact ⟨its.toArray, its2.toArray, n1, n2, o1, o2, by rw [List.size_toArray, ← r1.length, q1.length], by rw [List.size_toArray, ← r2.length, q2.length, hl]⟩
    have I0 : II 0 s := ⟨AftE.refl I k, by simpa using e⟩
    have finI : ∀ s', II xs.length s' → b = true ∧ AftE T X pins σ g H c s' := fun s' ⟨af, el⟩ => by
      have z : min xs.length ys.length = xs.length := by omega
      rw [← z] at el
      have := eqL_end el
      rw [hl] at this
      exact ⟨by simpa using this, af⟩
    cases ne with
    | false =>
      refine PySem.wpAny_richCompare_same_room (op := .Eq) ⟨_, o1, rfl⟩ ⟨_, o2, rfl⟩ PySem.F.slot_list_eq (GQ.call_here PySem.F.slot_list_eq ⟨_, o1, rfl⟩ PySem.F.entry_list_eq (PySem.F.args_list_eq_2 _ _) ?_) sb.room.units0
      refine TLQ.list_eqB (R := wants (fun v s' => v ≠ .notImplemented ∧ (v = .bool (xor false b) ∧ AftE T X pins σ g H c s')) X.xe) a a' xs.length F II J LB (fun s' q => ?_) (fun s' q => ?_) I0
      · obtain ⟨q1, q2⟩ := finI s' q
        subst q1
        exact ⟨(fun x => nomatch x), rfl, q2⟩
      · obtain ⟨q1, q2⟩ := q
        subst q2
        exact ⟨(fun x => nomatch x), rfl, q1⟩
    | true =>
      refine PySem.wpAny_richCompare_same_room (op := .NotEq) ⟨_, o1, rfl⟩ ⟨_, o2, rfl⟩ PySem.F.slot_list_ne (GQ.call_here PySem.F.slot_list_ne ⟨_, o1, rfl⟩ PySem.F.entry_list_ne (PySem.F.args_list_ne_2 _ _) ?_) sb.room.units0
      refine TLQ.list_neB (R := wants (fun v s' => v ≠ .notImplemented ∧ (v = .bool (xor true b) ∧ AftE T X pins σ g H c s')) X.xe) a a' xs.length F II J LB (fun s' q => ?_) (fun s' q => ?_) I0
      · obtain ⟨q1, q2⟩ := finI s' q
        subst q1
        exact ⟨(fun x => nomatch x), rfl, q2⟩
      · obtain ⟨q1, q2⟩ := q
        subst q2
        exact ⟨(fun x => nomatch x), rfl, q1⟩
  · rw [if_neg hl] at e
    cases e
    have hne : its.toArray.size ≠ its2.toArray.size := by rw [l1, l2]; exact hl
    cases ne with
    | false =>
      refine PySem.wpAny_richCompare_same_room (op := .Eq) ⟨_, o1, rfl⟩ ⟨_, o2, rfl⟩ PySem.F.slot_list_eq (GQ.call_here PySem.F.slot_list_eq ⟨_, o1, rfl⟩ PySem.F.entry_list_eq (PySem.F.args_list_eq_2 _ _) ?_) sb.room.units0
      exact TLQ.list_eqL (R := wants (fun v s' => v ≠ .notImplemented ∧ (v = .bool (xor false false) ∧ AftE T X pins σ g H c s')) X.xe) a a' its.toArray its2.toArray n1 n2 o1 o2 hne ⟨(fun x => nomatch x), rfl, AftE.refl I k⟩
    | true =>
      refine PySem.wpAny_richCompare_same_room (op := .NotEq) ⟨_, o1, rfl⟩ ⟨_, o2, rfl⟩ PySem.F.slot_list_ne (GQ.call_here PySem.F.slot_list_ne ⟨_, o1, rfl⟩ PySem.F.entry_list_ne (PySem.F.args_list_ne_2 _ _) ?_) sb.room.units0
      exact TLQ.list_neL (R := wants (fun v s' => v ≠ .notImplemented ∧ (v = .bool (xor true false) ∧ AftE T X pins σ g H c s')) X.xe) a a' its.toArray its2.toArray n1 n2 o1 o2 hne ⟨(fun x => nomatch x), rfl, AftE.refl I k⟩

/-! ### all -/
theorem rep_ref_tup {g : Gh} {H : Hp} {x : V} {xs : List D} (r : RepB T g H x (.tup xs)) : ∃ a, x = .ref a := let ⟨a, _, e, _⟩ := r.tup; ⟨a, e⟩
theorem rep_ref_lst {g : Gh} {H : Hp} {x : V} {xs : List D} (r : RepB T g H x (.lst xs)) : ∃ a, x = .ref a := by
  rcases r with ⟨a, vs, e, _⟩ | ⟨a, vs, ys, e, _⟩
  · exact ⟨a, e⟩
  · exact ⟨a, e⟩
theorem rep_ref_rat {g : Gh} {H : Hp} {x : V} {q : Rat} (r : RepB T g H x (.rat q)) : ∃ a, x = .ref a := let ⟨a, _, e, _⟩ := (r.rep (fun _ => by simp) : Rep T g x (.rat q)); ⟨a, e⟩
theorem dec_ref (x : V) : (∃ a, x = .ref a) ∨ ∀ a, x ≠ .ref a := by
  cases x <;> first | exact .inl ⟨_, rfl⟩ | exact .inr fun _ => by simp
/-- == in a level more -/
theorem eqB_all (C : EqC T W X k) : ∀ (m : Nat) (dx dy : D) (b : Bool), eqN m dx dy = some b → EqB T X (m + k + 1) dx dy b ∧ (eqFlat dx dy = none → RcB T X (m + k + 1) dx dy b) := by
  have flat : ∀ (m : Nat) (dx dy : D) (b : Bool), eqFlat dx dy = some b → EqB T X (m + k + 1) dx dy b ∧ (eqFlat dx dy = none → RcB T X (m + k + 1) dx dy b) := fun m dx dy b h => ⟨EqB.flat h, fun z => by rw [h] at z; cases z⟩
  have rat : ∀ (m : Nat) (a : Rat) (dy : D) (b : Bool), eqRat a dy = some b → EqB T X (m + k + 1) (.rat a) dy b ∧ (eqFlat (.rat a) dy = none → RcB T X (m + k + 1) (.rat a) dy b) := fun m a dy b h => by
    have rc : RcB T X (m + k + 1) (.rat a) dy b := (rcB_rat C h).mono (by omega)
    have e : eqN m (.rat a) dy = some b := by cases m <;> exact h
    exact ⟨rc.eqB C.ctx e (fun g H x r => rep_ref_rat r) (fun g H x r => dec_ref x), fun _ => rc⟩
  intro m
  induction m with
  | zero =>
    intro dx dy b h
    cases dx <;> first | exact flat 0 _ dy b h | exact rat 0 _ dy b h | (cases dy <;> cases h)
  | succ m ih =>
    intro dx dy b h
    have ih' : ∀ dx dy b, eqN m dx dy = some b → EqB T X (m + k + 1) dx dy b := fun dx dy b h => (ih dx dy b h).1
    have e1 : m + 1 + k + 1 = m + k + 1 + 1 := by omega
    cases dx with
    | tup xs => cases dy with
      | tup ys =>
        have rc := rcB_tup C.ctx ih' h
        rw [e1]
        exact ⟨rc.eqB C.ctx h (fun g H x r => rep_ref_tup r) (fun g H x r => dec_ref x), fun _ => rc⟩
      | _ => cases h
    | lst xs => cases dy with
      | lst ys =>
        have rc := rcB_lst C.ctx ih' h
        rw [e1]
        exact ⟨rc.eqB C.ctx h (fun g H x r => rep_ref_lst r) (fun g H x r => dec_ref x), fun _ => rc⟩
      | _ => cases h
    | rat a => exact rat (m + 1) a dy b h
    | non => exact flat (m + 1) _ dy b h
    | bl _ => exact flat (m + 1) _ dy b h
    | int _ => exact flat (m + 1) _ dy b h
    | str _ => exact flat (m + 1) _ dy b h
    | _ => cases dy <;> cases h

/-! ### the operators == and != -/
def oEq (m : Nat) (ne : Bool) : D → D → M D := fun a b => match eqD m a b with
  | some r => M.ret (.bl (xor ne r))
  | none => M.stk
theorem flat_scal {dx dy : D} {b : Bool} (h : eqFlat dx dy = some b) : isLit dx = true ∧ isLit dy = true ∧ scal (toV dx) (toV dy) = true ∧ decide (toV dx = toV dy) = b := by
  unfold eqFlat at h
  split at h <;> first | (cases h; refine ⟨rfl, rfl, rfl, ?_⟩; first | rfl | exact dec_int | exact dec_bl | exact dec_str) | cases h
theorem op_eq' (m : Nat) (C : EqC T W X k) (hr : Room (k + (m + 1)) X.A) (ne : Bool) : OpOk T W X (compareOp (opB ne)) (oEq m ne) := by
  intro pins s σ H x y v u Q g c dx dy I rx ry h qx qy p
  unfold oEq at p
  cases e : eqD m dx dy with
  | none => rw [e] at p; exact p.elim
  | some b =>
    rw [e] at p
    obtain ⟨_, h2⟩ := eqB_all C m dx dy b e
    cases ef : eqFlat dx dy with
    | none =>
      have rc := h2 ef
      have go := rc ne X.A pins s σ H g c x y v u ⟨hr.mono (by omega), rfl⟩ I rx ry h qx qy
      have ec : compareOp (opB ne) v u = richCompare (opB ne) v u := by cases ne <;> rfl
      rw [ec]
      refine wpAny_mono go (fun r s' ⟨e1, g', H', I', st, k'⟩ => ?_) fun _ _ x => x
      subst e1
      exact ⟨.bl (xor ne b), H', I', rfl, p _ g' H' st k' rfl⟩
    | some b' =>
      obtain ⟨l1, l2, sc, ed⟩ := flat_scal ef
      have eb : b' = b := by
        have e' : eqFlat dx dy = some b := by
          cases m <;> cases dx <;> first | exact e | (cases dy <;> first | exact e | cases ef)
        rw [ef] at e'; cases e'; rfl
      subst eb
      have e1 := lit_rep l1 (qx.rep (lit_not l1))
      have e2 := lit_rep l2 (qy.rep (lit_not l2))
      subst e1 e2
      cases ne with
      | false => exact op_eq pins s σ H _ _ v u Q I rx ry ⟨sc, by rw [ed]; exact Post.here (R := RV1 T) (d := .bl b') h rfl (by cases b' <;> exact p)⟩
      | true => exact op_ne pins s σ H _ _ v u Q I rx ry ⟨sc, by rw [ed]; exact Post.here (R := RV1 T) (d := .bl (!b')) h rfl (by cases b' <;> exact p)⟩
end
end TL

end
section
set_option Elab.async false
set_option linter.all false
set_option maxRecDepth 100000
/-! Tl11: operators of instances; minus; items; slices; fields. -/
namespace PySem.W
open Lean Elab Tactic Meta PySem PySem.Calls PyProof.Rows
section
variable {prog : Program} {w : World} {M : Model} {A : Around} {E : Value → Shared → Prop} {s : Shared} {K : Frag} {x C L f : Addr} {h₀ : Heap} {m : Str → Option Value} {ox : Obj} {od : Option Obj} {nm T : String}
theorem tlq_binT {op : Operator} {b : Value} {fo ro rc : Option Value} {Q : Value → Shared → Prop} (F : Fr h₀ L s.heap m) (X₀ : K.In h₀) (I : InstAt s.heap x ox C od) (hb : Looks (model prog w) s.heap (typeOf b) (.type T)) (hc : selfFirst K C = true)
    (hs : findIn K (.ref C) (PySem.dunder op.info.2) = some (some (.ref f))) (hf : isFn K (.ref f) = true) (hr : findIn K (.ref C) (dunderR op.info.2) = some rc) (hp : rc = none ∨ ∃ g : Addr, rc = some (.ref g))
    (h1 : findIn K (.type T) (PySem.dunder op.info.2) = some fo) (h2 : findIn K (.type T) (dunderR op.info.2) = some ro) (hsub : subIn K (.type T) (.ref C) = some false)
    (h : wpAny (model prog w) A (call (.ref f) [.ref x, b]) (CmpBack Q) E s) : wpAny (model prog w) A (binaryOp op (.ref x) b) Q E s := by
  have X := X₀.keeps F.keep
  obtain ⟨cd, rest, hcd, hm⟩ := ksp_first hc
  rcases hi : op.info with ⟨sym, nm'⟩
  rw [hi] at hs hr h1 h2
  dsimp only at hs hr h1 h2
  have one := ksp_try X I hs hf h
  obtain ⟨hh, g, d, tk, os⟩ := s
  have L1 : Looks (model prog w) hh (typeOf (.ref x)) (.ref C) := I.type
  have L2 : Looks (model prog w) hh (typeOf b) (.type T) := hb
  have L3 : Looks (model prog w) hh (fillsNumberSlot (.ref C) nm') true := fills_K X hcd hm hs
  have L4 : Looks (model prog w) hh (fillsNumberSlot (.type T) nm') ((fo.isSome && !isSeqSlot fo) || (ro.isSome && !isSeqSlot ro)) := ksp_fillsT X h1 h2
  have L5 : Looks (model prog w) hh (isSubtype (.type T) (.ref C)) false := looks_subIn X hsub
  have L6 : Looks (model prog w) hh (numberSlotInPython (.ref C) nm') true := ksp_inPy X hs hr hp
  have L7 : Looks (model prog w) hh (numberSlotInPython (.type T) nm') false := Looks.of_pure rfl
  have L8 : Looks (model prog w) hh (typeLookup (.type T) (dunderR nm')) ro := looks_findIn X h2
  generalize ((fo.isSome && !isSeqSlot fo) || (ro.isSome && !isSeqSlot ro)) = right at L4
  have hne : (Value.ref C == Value.type T) = false := Bool.eq_false_iff.mpr fun q => by cases beq_iff_eq.mp q
  simp only [binaryOp, hi]
  refine wpAny_holding (wpAny_bind ?_)
  unfold binaryOp1
  refine wpAny_bind (L1.at (wpAny_bind (L2.at (wpAny_bind (L3.at ?_)))))
  simp only [hne, Bool.false_eq_true, if_false]
  cases right with
  | false =>
    ksp_lk
    refine wpAny_mono one (fun r s' hr' => ?_) fun _ _ e => e
    obtain ⟨v, rfl, hq⟩ := hr'
    ksp_lk
    exact hq
  | true =>
    ksp_lk
    refine wpAny_mono one (fun r s' hr' => ?_) fun _ _ e => e
    obtain ⟨v, rfl, hq⟩ := hr'
    ksp_lk
    exact hq
end
end PySem.W
namespace TL
open PySem L2
section
variable {T : Tab} {W : WX} {X : Cx} {k : Nat} {pos : Pos}
def Bop.py : Bop → Operator
  | .add => .Add | .sub => .Sub | .mul => .Mult | .fdiv => .FloorDiv | .mod => .Mod
def tyNames : List String := ["int", "str", "bool", "NoneType", "tuple", "list"]
/-- what is known of Ratio's own operator: the def f -/
structure OpQ (T : Tab) (op : Operator) (f : Nat) : Prop where
  at_ : PySem.W.findIn T.K (.ref (T.cls 0)) (PySem.dunder op.info.2) = some (some (.ref (T.fa f)))
  fn : PySem.W.isFn T.K (.ref (T.fa f)) = true
  first : PySem.W.selfFirst T.K (T.cls 0) = true
  no : PySem.W.findIn T.K (.ref (T.cls 0)) (PySem.dunderR op.info.2) = some none
  nf : ∀ n ∈ tyNames, PySem.W.subIn T.K (.type n) (.ref (T.cls 0)) = some false
  dfl : [] ∈ T.dfl f
theorem ty_mro : (tyNames.all fun n => (PySem.fastBuiltinMro n).isSome) = true := by decide +kernel
theorem ty_at {n : String} (h : n ∈ tyNames) (nm : Str) : ∃ fo, PySem.W.findIn T.K (.type n) nm = some fo := by
  have h1 := List.all_eq_true.mp ty_mro n h
  obtain ⟨m, e⟩ := Option.isSome_iff_exists.mp h1
  have q : ∃ fo, PySem.fastLookup n nm = some fo := by
    unfold PySem.fastLookup
    rw [e]
    exact ⟨_, rfl⟩
  exact q
def tyName : D → Option String
  | .non => some "NoneType"
  | .bl _ => some "bool"
  | .int _ => some "int"
  | .str _ => some "str"
  | .tup _ => some "tuple"
  | _ => none
theorem tyName_ok {d : D} {n : String} (h : tyName d = some n) : n ∈ tyNames ∧ tyD T d = .type n ∧ (∀ f, d ≠ .fn f) ∧ (∀ j, d ≠ .cell j) ∧ (∀ ns, d ≠ .scr ns) ∧ ∀ xs, d ≠ .lst xs := by
  cases d <;> first | (cases h; refine ⟨by simp [tyNames], rfl, ?_, ?_, ?_, ?_⟩ <;> intro z w <;> cases w) | cases h
/-- with a Ratio on the left its own def, else by values -/
def opR (Φ : Phi) (f : Nat) (k0 : D → D → M D) : D → D → M D := fun a b => match a with
  | .rat _ => (match b with
    | .rat _ => callR (Φ f) [a, b]
    | _ => (match tyName b with
      | some _ => callR (Φ f) [a, b]
      | none => M.stk))
  | _ => k0 a b
theorem ops_rat {Φ : Phi} {f : Nat} {op : Operator} (C : Ctx T W X) (O : OpQ T op f) (F : FnG T Φ X.prog X.w X.base k f) (hr : Room k X.A) {pins : List (Addr × Obj)} {s : Shared} {σ : L2.St} {H : Hp} {x y : V} {v u : Value} {Q : VK} {g : Gh} {c : Cfg} {a : Rat} {dy : D}
    (I : Inv X pins σ H s) (rx : RelV x v) (ry : RelV y u) (h : Held T g σ H c) (qx : RepB T g H x (.rat a)) (qy : RepB T g H y dy) (hd : (∃ b, dy = .rat b) ∨ ∃ n, tyName dy = some n) (p : Post T (RV1 T) W g σ H Q (callR (Φ f) [.rat a, dy] c)) :
    wpAny (model X.prog X.w) X.A (binaryOp op v u) (EP X pins σ Q) X.xe s := by
  obtain ⟨ax, dx, ex, hx⟩ := (qx.rep (fun _ => by simp) : Rep T g x (.rat a))
  subst ex
  cases rx
  obtain ⟨mA, J, _⟩ := ins_get I.hok (h.sub _ _ hx)
  obtain ⟨od, J, _⟩ := J.look
  obtain ⟨m, hF⟩ := I.fr
  have nl : ∀ xs, dy ≠ .lst xs := fun xs => by
    rcases hd with ⟨b, rfl⟩ | ⟨n, hn⟩
    · simp
    · exact (tyName_ok (T := T) hn).2.2.2.2.2 xs
  have hy := qy.rep nl
  have run : wpAny (model X.prog X.w) X.A (call (.ref (T.fa f)) [.ref ax, u]) (PySem.W.CmpBack (EP X pins σ Q)) X.xe s := by
    refine wpAny_mono (call_G C F hr O.dfl I (us := [.ref ax, u]) (vs := [.ref ax, y]) (ds := [.rat a, dy]) (.cons rfl (.cons ry .nil)) h ⟨_, _, rfl, ⟨ax, dx, rfl, hx⟩, _, _, rfl, hy, rfl⟩ p) (fun r s' q => ?_) fun _ _ z => z
    obtain ⟨z, H', I', rz, q⟩ := q
    have q' : EP X pins σ Q r s' := ⟨z, H', I', rz, q⟩
    cases z <;> first | (cases rz; exact q') | (obtain ⟨_, e⟩ := rz; subst e; exact q')
  rcases hd with ⟨b, rfl⟩ | ⟨n, hn⟩
  · have hb : PySem.W.Looks (model X.prog X.w) s.heap (typeOf u) (.ref (T.cls 0)) := looks_ty C I h ry qy (fun _ => by simp) (fun _ => by simp) (fun _ => by simp)
    exact PySem.W.binop_K hF I.ok.mod.kin J hb (by rw [C.K]; exact O.first) (by rw [C.K]; exact O.at_) (by rw [C.K]; exact O.fn) run
  · obtain ⟨hm, ht, n1, n2, n3, _⟩ := tyName_ok (T := T) hn
    have hb := looks_ty C I h ry qy n1 n2 n3
    rw [ht] at hb
    obtain ⟨fo, e1⟩ := ty_at (T := T) hm (PySem.dunder op.info.2)
    obtain ⟨ro, e2⟩ := ty_at (T := T) hm (PySem.dunderR op.info.2)
    exact PySem.W.tlq_binT hF I.ok.mod.kin J hb (by rw [C.K]; exact O.first) (by rw [C.K]; exact O.at_) (by rw [C.K]; exact O.fn) (by rw [C.K]; exact O.no) (.inl rfl) (by rw [C.K]; exact e1) (by rw [C.K]; exact e2) (by rw [C.K]; exact O.nf n hm) run
theorem op_R {Φ : Phi} {f : Nat} {k0 : D → D → M D} {op : Operator} (C : Ctx T W X) (O : OpQ T op f) (F : FnG T Φ X.prog X.w X.base k f) (hr : Room k X.A) (hp : OpOk T W X (binaryOp op) k0) : OpOk T W X (binaryOp op) (opR Φ f k0) := by
  intro pins s σ H x y v u Q g c dx dy I rx ry h qx qy p
  cases dx with
  | rat a =>
    cases dy with
    | rat b => exact ops_rat C O F hr I rx ry h qx qy (.inl ⟨b, rfl⟩) p
    | non => exact ops_rat C O F hr I rx ry h qx qy (.inr ⟨_, rfl⟩) p
    | bl _ => exact ops_rat C O F hr I rx ry h qx qy (.inr ⟨_, rfl⟩) p
    | int _ => exact ops_rat C O F hr I rx ry h qx qy (.inr ⟨_, rfl⟩) p
    | str _ => exact ops_rat C O F hr I rx ry h qx qy (.inr ⟨_, rfl⟩) p
    | tup _ => exact ops_rat C O F hr I rx ry h qx qy (.inr ⟨_, rfl⟩) p
    | _ => exact p.elim
  | _ => exact hp pins s σ H x y v u Q g c _ dy I rx ry h qx qy p

/-! ### minus -/
def oNeg (Φ : Phi) (f : Nat) : D → M D := fun a => match a with
  | .int i => M.ret (.int (-i))
  | .rat _ => callR (Φ f) [a]
  | _ => M.stk
def oNegI : D → M D := fun a => match a with
  | .int i => M.ret (.int (-i))
  | _ => M.stk
structure NegQ (T : Tab) (f : Nat) : Prop where
  at_ : PySem.W.findIn T.K (.ref (T.cls 0)) "__neg__" = some (some (.ref (T.fa f)))
  fn : PySem.W.isFn T.K (.ref (T.fa f)) = true
  dfl : [] ∈ T.dfl f
theorem s_negI {e : Expr} {m : M D} (he : SndE T W X e m) : SndE T W X (.UnaryOp .USub e pos) (M.bnd m oNegI) :=
  PE.imp (pe_un un_neg he) fun σ H Q ⟨g, c, k, p⟩ => ⟨g, c, k, p.bnd.imp fun x H1 ⟨d, g1, c1, s1, k1, r1, p1⟩ => by
    cases d with
    | int i => exact ⟨i, r1, Post.here (R := RV1 T) (d := .int (-i)) k1 rfl p1⟩
    | _ => exact p1.elim⟩
theorem s_neg {Φ : Phi} {f : Nat} {e : Expr} {m : M D} (C : Ctx T W X) (O : NegQ T f) (F : FnG T Φ X.prog X.w X.base k f) (hr : Room k X.A) (he : SndE T W X e m) : SndE T W X (.UnaryOp .USub e pos) (M.bnd m (oNeg Φ f)) := by
  refine ⟨fun pins s σ H Q I ⟨g, c, k, p⟩ => ?_⟩
  refine PyProof.Rows.UnaryOp_ (thn (he.run pins s σ H _ I ⟨g, c, k, p.bnd⟩) fun u s1 ⟨x, H1, I1, r1, d, g1, c1, s1', k1, q1, p1⟩ => ?_)
  cases d with
  | int i =>
    have q1 : x = .int i := q1
    subst q1
    exact un_neg pins s1 σ H1 _ u Q I1 r1 ⟨i, rfl, Post.here (R := RV1 T) (d := .int (-i)) k1 rfl p1⟩
  | rat a =>
    obtain ⟨ax, dx, ex, hx⟩ := q1
    subst ex
    cases r1
    obtain ⟨mA, J, _⟩ := ins_get I1.hok (k1.sub _ _ hx)
    obtain ⟨od, J, _⟩ := J.look
    obtain ⟨m, hF⟩ := I1.fr
    exact PySem.W.ksp_neg hF I1.ok.mod.kin J (by rw [C.K]; exact O.at_) (by rw [C.K]; exact O.fn) (call_G C F hr O.dfl I1 (us := [.ref ax]) (vs := [.ref ax]) (ds := [.rat a]) (.cons rfl .nil) k1 ⟨_, _, rfl, ⟨ax, dx, rfl, hx⟩, rfl⟩ p1)
  | _ => exact p1.elim
end
end TL

end
section
set_option Elab.async false
set_option linter.all false
set_option maxRecDepth 100000
/-! Tl12: fields, methods, items, slices. -/
namespace TL
open PySem L2
section
variable {T : Tab} {Φ : Phi} {W : WX} {X : Cx} {k : Nat} {pos pos' apos : Pos}

/-! ### fields -/
def fget (f : Nat) : List (Nat × D) → Option D
  | [] => none
  | (g, d) :: r => if g = f then some d else fget f r
def fldD (Cs : List Nat) (f : Nat) : D → Option D
  | .rat q => if Cs.contains 0 then (if f = 0 then some (.int q.num) else if f = 1 then some (.int q.den) else none) else none
  | .ins C fs => if Cs.contains C then fget f fs else none
  | _ => none
theorem fget_look {g : Gh} {f : Nat} {d : D} : ∀ {fs : List (Nat × D)} {vfs : List (Str × V)}, fget f fs = some d → RepF T g vfs fs → ∃ v, vfs.lookup (T.nm f) = some v ∧ Rep T g v d
  | [], _, h, _ => by cases h
  | (k, d') :: r, vfs, h, rf => by
    obtain ⟨v, vr, e, r1, r2⟩ := rf
    subst e
    have h : (if k = f then some d' else fget f r) = some d := h
    by_cases q : k = f
    · rw [if_pos q] at h
      cases h
      subst q
      exact ⟨v, by simp [List.lookup], r1⟩
    · rw [if_neg q] at h
      obtain ⟨w, h1, h2⟩ := fget_look h r2
      refine ⟨w, ?_, h2⟩
      have ne : (T.nm f == T.nm k) = false := by simp; intro z; exact q (T.nmi _ _ z.symm)
      show List.lookup (T.nm f) ((T.nm k, v) :: vr) = some w
      unfold List.lookup
      rw [ne]
      exact h1
/-- the classes Cs have plain fields f -/
def FldQ (T : Tab) (Cs : List Nat) (f : Nat) : Prop := ∀ C ∈ Cs, Cls T.K (T.cls C) ∧ NoAttr T.K (T.cls C) (T.nm f)
def eFld (Cs : List Nat) (f : Nat) (m : M D) : M D := M.bnd m fun d => M.opt (fldD Cs f d)
theorem s_fld {e : Expr} {m : M D} {Cs : List Nat} {f : Nat} {x : Str} (C : Ctx T W X) (q : FldQ T Cs f) (hx : T.nm f = x) (he : SndE T W X e m) (hb : attributeBase e x X.env (eval e X.env) = eval e X.env := by rfl) : SndE T W X (.Attribute e x pos) (eFld Cs f m) := by
  subst hx
  refine PE.imp (pe_fld he hb) fun σ H Q ⟨g, c, k, p⟩ => ⟨g, c, k, p.bnd.imp fun x H1 ⟨d, g1, c1, s1, k1, r1, p1⟩ => ?_⟩
  rw [C.K]
  cases d with
  | rat a =>
    obtain ⟨ax, dx, ex, hx⟩ := r1
    have p1 : Post T (RV1 T) W g1 σ H1 Q (M.opt (if Cs.contains 0 then (if f = 0 then some (D.int a.num) else if f = 1 then some (D.int a.den) else none) else none) c1) := p1
    by_cases h0 : Cs.contains 0 = true
    · rw [if_pos h0] at p1
      obtain ⟨q1, q2⟩ := q 0 (by simpa using h0)
      by_cases f0 : f = 0
      · subst f0
        rw [if_pos rfl] at p1
        exact ⟨ax, T.cls 0, dx, _, .int a.num, ex, k1.sub _ _ hx, q1, q2, by simp [List.lookup], Post.here (R := RV1 T) (d := .int a.num) k1 rfl p1⟩
      · rw [if_neg f0] at p1
        by_cases f1 : f = 1
        · subst f1
          rw [if_pos rfl] at p1
          have ne : (T.nm 1 == T.nm 0) = false := by simp; intro z; have := T.nmi _ _ z; omega
          exact ⟨ax, T.cls 0, dx, _, .int a.den, ex, k1.sub _ _ hx, q1, q2, by simp [List.lookup, ne], Post.here (R := RV1 T) (d := .int a.den) k1 rfl p1⟩
        · rw [if_neg f1] at p1; exact p1.elim
    · rw [if_neg h0] at p1; exact p1.elim
  | ins C' fs =>
    obtain ⟨ax, dx, vfs, ex, hC, hx, rf⟩ := r1
    have p1 : Post T (RV1 T) W g1 σ H1 Q (M.opt (if Cs.contains C' then fget f fs else none) c1) := p1
    by_cases h0 : Cs.contains C' = true
    · rw [if_pos h0] at p1
      obtain ⟨q1, q2⟩ := q C' (by simpa using h0)
      cases e : fget f fs with
      | none => rw [e] at p1; exact p1.elim
      | some d =>
        rw [e] at p1
        obtain ⟨v, h1, h2⟩ := fget_look e rf
        exact ⟨ax, T.cls C', dx, vfs, v, ex, k1.sub _ _ hx, q1, q2, h1, Post.here (R := RV1 T) k1 h2 p1⟩
    · rw [if_neg h0] at p1; exact p1.elim
  | _ => exact p1.elim

/-! ### methods of the program's classes -/
def hasF (m : Nat) : D → Option Nat
  | .rat _ => if m = 0 ∨ m = 1 then none else some 0
  | .ins C fs => if (fget m fs).isSome ∨ C = 0 then none else some C
  | _ => none
theorem fget_none {g : Gh} {f : Nat} : ∀ {fs : List (Nat × D)} {vfs : List (Str × V)}, fget f fs = none → RepF T g vfs fs → vfs.lookup (T.nm f) = none
  | [], vfs, _, rf => by cases (show vfs = [] from rf); rfl
  | (k, d') :: r, vfs, h, rf => by
    obtain ⟨v, vr, e, r1, r2⟩ := rf
    subst e
    have h : (if k = f then some d' else fget f r) = none := h
    by_cases q : k = f
    · rw [if_pos q] at h; cases h
    · rw [if_neg q] at h
      have ne : (T.nm f == T.nm k) = false := by simp; intro z; exact q (T.nmi _ _ z.symm)
      show List.lookup (T.nm f) ((T.nm k, v) :: vr) = none
      unfold List.lookup
      rw [ne]
      exact fget_none h r2
/-- the method m: which def it is, by the class -/
abbrev MTab := List (Nat × Nat)
def mget (ms : MTab) (m : Nat) (d : D) : Option Nat := (hasF m d).bind fun C => ms.lookup C
structure MethQ (T : Tab) (Φ : Phi) (X : Cx) (k : Nat) (m C f : Nat) : Prop where
  cl : Cls T.K (T.cls C)
  me : Meth T.K (T.cls C) (T.nm m) (T.fa f)
  fn : FnG T Φ X.prog X.w X.base k f
  dfl : [] ∈ T.dfl f
def MethsQ (T : Tab) (Φ : Phi) (X : Cx) (k : Nat) (ms : MTab) (m : Nat) : Prop := ∀ C f, ms.lookup C = some f → MethQ T Φ X k m C f
def eMeth (Φ : Phi) (ms : MTab) (m : Nat) (mo : M D) (ma : M (List D)) : M D := M.bnd mo fun d => match mget ms m d with
  | some f => M.bnd ma fun ds => callR (Φ f) (d :: ds)
  | none => M.stk
theorem mget_ok {g : Gh} {H : Hp} {x : V} {d : D} {ms : MTab} {m f : Nat} (h : mget ms m d = some f) (r : Rep T g x d) : ∃ a C dx vfs, x = .ref a ∧ g.I a = some (.ins (T.cls C) dx vfs) ∧ vfs.lookup (T.nm m) = none ∧ ms.lookup C = some f := by
  unfold mget at h
  cases d with
  | rat q =>
    have h : ((if m = 0 ∨ m = 1 then none else some 0).bind fun C => ms.lookup C) = some f := h
    by_cases z : m = 0 ∨ m = 1
    · rw [if_pos z] at h; cases h
    · rw [if_neg z] at h
      obtain ⟨a, dx, e, h'⟩ := r
      refine ⟨a, 0, dx, _, e, h', ?_, h⟩
      have n0 : (T.nm m == T.nm 0) = false := by simp; intro w; exact z (.inl (T.nmi _ _ w))
      have n1 : (T.nm m == T.nm 1) = false := by simp; intro w; exact z (.inr (T.nmi _ _ w))
      simp [List.lookup, n0, n1]
  | ins C fs =>
    have h : ((if (fget m fs).isSome ∨ C = 0 then none else some C).bind fun C => ms.lookup C) = some f := h
    by_cases z : (fget m fs).isSome ∨ C = 0
    · rw [if_pos z] at h; cases h
    · rw [if_neg z] at h
      obtain ⟨a, dx, vfs, e, hC, h', rf⟩ := r
      refine ⟨a, C, dx, vfs, e, h', fget_none ?_ rf, h⟩
      cases e : fget m fs with
      | none => rfl
      | some d => exact absurd (.inl (by rw [e]; rfl)) z
  | _ => cases h
theorem s_meth {ms : MTab} {m : Nat} {x : Str} {o e : Expr} {es : List Expr} {mo : M D} {ma : M (List D)} {pl : Sem Bool} (C : Ctx T W X) (q : MethsQ T Φ X k ms m) (hr : Room k X.A) (hx : T.nm m = x) (ho : SndE T W X o mo) (ha : SndA T W X (e :: es) ma)
    (hst : starEach (e :: es) X.env = (false, eval e X.env) :: starEach es X.env := by rfl) (hpl : (backTo pos (starEach es X.env)).any (·.1) = false := by rfl)
    (ht : eval (.Call (.Attribute o x apos) (e :: es) [] pos) X.env = (do
      let ov ← eval o X.env
      standAt apos.atName
      let (f, first) ← holding [ov] (getMethod ov x pl)
      callWith pos f first (backTo pos (starEach (e :: es) X.env)) (backToKw pos (keywordEach [] X.env))) := by rfl) : SndE T W X (.Call (.Attribute o x apos) (e :: es) [] pos) (eMeth Φ ms m mo ma) := by
  subst hx
  refine ⟨fun pins s σ H Q I ⟨g, c, h, p⟩ => ?_⟩
  refine PySem.W.methodCall_KW (pl := pl) (thn (ho.run pins s σ H _ I ⟨g, c, h, p.bnd⟩) fun u s1 ⟨x, H1, I1, rx, d, g1, c1, s1', k1, r1, p1⟩ => ?_) ht
  cases e0 : mget ms m d with
  | none => rw [e0] at p1; exact p1.elim
  | some f =>
    rw [e0] at p1
    obtain ⟨a, C', dx, vfs, ex, ea, l, el⟩ := mget_ok (H := H1) e0 r1
    obtain ⟨cl, me, fn, dfl⟩ := q C' f el
    subst ex
    obtain rfl : u = Value.ref a := rx
    refine getmeth_ok I1 (k1.sub _ _ ea) (by rw [C.K]; exact cl) (by rw [C.K]; exact me) l ?_
    refine PySem.W.callWith_K (first := [.ref a]) (h₀ := X.base) I.ok.mod.kin (by rw [C.K]; exact me.kp) (thn (ha.run pos pins s1 σ H1 _ I1 ⟨g1, c1, k1, p1.bnd⟩) fun us s2 ⟨vs, H2, I2, r, ds, g2, c2, s2', k2, r2, p2⟩ => ⟨I2.kIn, ?_⟩) hst hpl
    have := call_G C fn hr dfl I2 (us := .ref a :: us) (vs := .ref a :: vs) (ds := d :: ds) (.cons rfl r) k2 ⟨_, _, rfl, Rep.mono s2'.le _ _ r1, r2⟩ (by rw [List.append_nil]; exact p2)
    exact this
theorem s_meth0 {ms : MTab} {m : Nat} {x : Str} {o : Expr} {mo : M D} {pl : Sem Bool} (C : Ctx T W X) (q : MethsQ T Φ X k ms m) (hr : Room k X.A) (hx : T.nm m = x) (ho : SndE T W X o mo)
    (ht : eval (.Call (.Attribute o x apos) [] [] pos) X.env = (do
      let ov ← eval o X.env
      standAt apos.atName
      let (f, first) ← holding [ov] (getMethod ov x pl)
      callWith pos f first (backTo pos (starEach [] X.env)) (backToKw pos (keywordEach [] X.env))) := by rfl) : SndE T W X (.Call (.Attribute o x apos) [] [] pos) (eMeth Φ ms m mo aNil) := by
  subst hx
  refine ⟨fun pins s σ H Q I ⟨g, c, h, p⟩ => ?_⟩
  refine PySem.W.methodCall_KW (pl := pl) (thn (ho.run pins s σ H _ I ⟨g, c, h, p.bnd⟩) fun u s1 ⟨x, H1, I1, rx, d, g1, c1, s1', k1, r1, p1⟩ => ?_) ht
  cases e0 : mget ms m d with
  | none => rw [e0] at p1; exact p1.elim
  | some f =>
    rw [e0] at p1
    obtain ⟨a, C', dx, vfs, ex, ea, l, el⟩ := mget_ok (H := H1) e0 r1
    obtain ⟨cl, me, fn, dfl⟩ := q C' f el
    subst ex
    obtain rfl : u = Value.ref a := rx
    refine getmeth_ok I1 (k1.sub _ _ ea) (by rw [C.K]; exact cl) (by rw [C.K]; exact me) l ?_
    exact PySem.W.callWith_K0 (first := [.ref a]) I1.kIn (by rw [C.K]; exact me.kp) (call_G C fn hr dfl I1 (us := [.ref a]) (vs := [.ref a]) (ds := [d]) (.cons rfl .nil) k1 ⟨_, _, rfl, r1, rfl⟩ p1)

/-! ### items -/
def ixD : List D → Int → Option D := fun xs i => atI xs i
def itemP (ce : List (List D)) : D → D → Option D
  | .tup xs, .int i => atI xs i
  | .lst xs, .int i => atI xs i
  | .cell j, .int i => (ce[j]?).bind fun xs => atI xs i
  | .str z, .int i => if sizeOk z.length then (atI z.cps.toList i).map fun c => .str ⟨#[c]⟩ else none
  | _, _ => none
def eIx (ma mb : M D) : M D := M.bnd ma fun x => M.bnd mb fun y => fun c => match itemP c.ce x y with
  | some d => .ok d c
  | none => .stuck
theorem atI_of {g : Gh} {vs : List V} {xs : List D} {i : Int} {d : D} (h : atI xs i = some d) (r : Reps T g vs xs) : ∃ v, atI vs i = some v ∧ Rep T g v d := by
  unfold atI at h ⊢
  rw [r.length]
  cases e : ixN xs.length i with
  | none => rw [e] at h; cases h
  | some j =>
    rw [e] at h
    exact r.at h
theorem s_ix {a b : Expr} {ma mb : M D} (C : Ctx T W X) (ha : SndB T W X a ma) (hb : SndE T W X b mb) (hs : PlainIx b := by exact fun _ _ => rfl) : SndE T W X (.Subscript a b pos) (eIx ma mb) :=
  PE.imp (pe_ix ix_seq ha hb hs) fun σ H Q ⟨g, c, k, p⟩ => ⟨g, c, k, p.bnd.imp fun x H1 ⟨d1, g1, c1, s1, k1, r1, p1⟩ => ⟨g1, c1, k1, p1.bnd.imp fun y H2 ⟨d2, g2, c2, s2, k2, r2, p2⟩ => by
    have r1 := r1.step s2
    rw [C.K]
    cases d2 with
    | int i =>
      have r2 : y = .int i := r2
      subst r2
      cases d1 with
      | tup xs =>
        have p2 : Post T (RV1 T) W g2 σ H2 Q (match atI xs i with | some d => .ok d c2 | none => .stuck) := p2
        obtain ⟨a, vs, e, h, r⟩ := r1.tup
        cases ei : atI xs i with
        | none => rw [ei] at p2; exact p2.elim
        | some d =>
          rw [ei] at p2
          obtain ⟨v, h1, h2⟩ := atI_of ei r
          exact .inr (.inl ⟨a, vs, i, v, e, rfl, L2.SqT.ext h k2.sub, h1, Post.here (R := RV1 T) k2 h2 p2⟩)
      | lst xs =>
        have p2 : Post T (RV1 T) W g2 σ H2 Q (match atI xs i with | some d => .ok d c2 | none => .stuck) := p2
        obtain ⟨a, vs, e, h, r⟩ := r1.list k2
        cases ei : atI xs i with
        | none => rw [ei] at p2; exact p2.elim
        | some d =>
          rw [ei] at p2
          obtain ⟨v, h1, h2⟩ := atI_of ei r
          exact .inl ⟨a, vs, i, v, e, rfl, SqL.of h, h1, Post.here (R := RV1 T) k2 h2 p2⟩
      | cell j =>
        have p2 : Post T (RV1 T) W g2 σ H2 Q (match (c2.ce[j]?).bind fun xs => atI xs i with | some d => .ok d c2 | none => .stuck) := p2
        obtain ⟨a, e, ha⟩ := (r1.rep (fun _ => by simp) : Rep T g2 x (.cell j))
        cases ej : c2.ce[j]? with
        | none => rw [ej] at p2; exact p2.elim
        | some xs =>
          rw [ej] at p2
          have p2 : Post T (RV1 T) W g2 σ H2 Q (match atI xs i with | some d => .ok d c2 | none => .stuck) := p2
          obtain ⟨_, vs, h, r⟩ := k2.ce j a xs ha ej
          cases ei : atI xs i with
          | none => rw [ei] at p2; exact p2.elim
          | some d =>
            rw [ei] at p2
            obtain ⟨v, h1, h2⟩ := atI_of ei r
            exact .inl ⟨a, vs, i, v, e, rfl, SqL.of h, h1, Post.here (R := RV1 T) k2 h2 p2⟩
      | str z =>
        have p2 : Post T (RV1 T) W g2 σ H2 Q (match (if sizeOk z.length then (atI z.cps.toList i).map fun c => D.str ⟨#[c]⟩ else none) with | some d => .ok d c2 | none => .stuck) := p2
        by_cases hz : sizeOk z.length = true
        · rw [if_pos hz] at p2
          cases ei : atI z.cps.toList i with
          | none => rw [ei] at p2; exact p2.elim
          | some ch =>
            rw [ei] at p2
            exact .inr (.inr ⟨z, i, ch, r1.str, rfl, line_of hz, ei, Post.here (R := RV1 T) (d := .str ⟨#[ch]⟩) k2 rfl p2⟩)
        · rw [if_neg hz] at p2; exact p2.elim
      | _ => exact p2.elim
    | _ => cases d1 <;> exact p2.elim⟩⟩
end
end TL

end
section
set_option Elab.async false
set_option linter.all false
set_option maxRecDepth 100000
/-! Tl13: slices; built-in functions; isinstance. -/
namespace TL
open PySem L2
section
variable {T : Tab} {Φ : Phi} {W : WX} {X : Cx} {k : Nat} {pos pos' apos p p2 : Pos}

/-! ### slices -/
abbrev SndO (T : Tab) (W : WX) (X : Cx) (e : Option Expr) (m : M (Option Int)) : Prop := PO X e (rd T REq W m)
theorem PO.imp {e : Option Expr} {t t' : TO} (p : PO X e t) (h : ∀ σ H Q, t' σ H Q → t σ H Q) : PO X e t' := ⟨fun pins s σ H Q I q => p.run pins s σ H Q I (h σ H Q q)⟩
def oNone : M (Option Int) := M.ret none
def oSome (m : M D) : M (Option Int) := M.bnd m fun d => match d with
  | .int i => M.ret (some i)
  | _ => M.stk
theorem o_none : SndO T W X none oNone := PO.imp po_none fun σ H Q ⟨g, c, k, p⟩ => Post.here (R := REq) k rfl p
theorem o_some {e : Expr} {m : M D} (h : SndE T W X e m) : SndO T W X (some e) (oSome m) := PO.imp (po_some h) fun σ H Q ⟨g, c, k, p⟩ => ⟨g, c, k, p.bnd.imp fun x H1 ⟨d, g1, c1, s1, k1, r1, p1⟩ => by
  cases d with
  | int i => exact ⟨i, r1, Post.here (R := REq) k1 rfl p1⟩
  | _ => exact p1.elim⟩
def cutD (xs : List D) (lo hi : Option Int) : List D := (xs.drop (HT.sIx xs.length 0 lo)).take (HT.sIx xs.length xs.length hi - HT.sIx xs.length 0 lo)
theorem Reps.drop {g : Gh} : ∀ {vs : List V} {xs : List D} (n : Nat), Reps T g vs xs → Reps T g (vs.drop n) (xs.drop n)
  | vs, [], n, r => by cases (show vs = [] from r); simp; exact rfl
  | vs, x :: xs, 0, r => r
  | vs, x :: xs, n + 1, r => by
    obtain ⟨v, vr, e, r1, r2⟩ := r
    subst e
    exact Reps.drop n r2
theorem Reps.take {g : Gh} : ∀ {vs : List V} {xs : List D} (n : Nat), Reps T g vs xs → Reps T g (vs.take n) (xs.take n)
  | vs, [], n, r => by cases (show vs = [] from r); simp; exact rfl
  | vs, x :: xs, 0, r => rfl
  | vs, x :: xs, n + 1, r => by
    obtain ⟨v, vr, e, r1, r2⟩ := r
    subst e
    exact ⟨v, vr.take n, rfl, r1, Reps.take n r2⟩
theorem Reps.cut {g : Gh} {vs : List V} {xs : List D} {lo hi : Option Int} (r : Reps T g vs xs) : Reps T g (cutV vs lo hi) (cutD xs lo hi) := by
  unfold cutV cutD
  rw [r.length]
  exact (r.drop _).take _
def slP (lo hi : Option Int) : D → Option D
  | .tup xs => some (.tup (cutD xs lo hi))
  | .lst xs => some (.lst (cutD xs lo hi))
  | .str z => if sizeOk z.length then some (.str (cutS z lo hi)) else none
  | .scr ns => some (.lst (cutD (ns.map .int) lo hi))
  | _ => none
def eSl (m : M D) (ml mh : M (Option Int)) : M D := M.bnd m fun d => M.bnd ml fun lo => M.bnd mh fun hi => M.opt (slP lo hi d)
theorem reps_ints {g : Gh} : ∀ ns : List Int, Reps T g (ns.map V.int) (ns.map D.int)
  | [] => rfl
  | n :: ns => ⟨.int n, ns.map V.int, rfl, rfl, reps_ints ns⟩
theorem s_sl {e : Expr} {lo hi : Option Expr} {m : M D} {ml mh : M (Option Int)} (C : Ctx T W X) (he : SndB T W X e m) (hl : SndO T W X lo ml) (hh : SndO T W X hi mh) : SndE T W X (.Subscript e (.Slice lo hi none p2) pos) (eSl m ml mh) :=
  PE.imp (pe_slice ((sl_tupA.or sl_list).or sl_str) he hl hh) fun σ H Q ⟨g, c, k, p⟩ => ⟨g, c, k, p.bnd.imp fun x H1 ⟨d, g1, c1, s1, k1, r1, p1⟩ => ⟨g1, c1, k1, p1.bnd.imp fun l H2 ⟨l', g2, c2, s2, k2, r2, p2⟩ => ⟨g2, c2, k2, p2.bnd.imp fun h H3 ⟨h', g3, c3, s3, k3, r3, p3⟩ => by
    have r1 := (r1.step s2).step s3
    subst r2 r3
    cases d with
    | tup xs =>
      obtain ⟨a, vs, e, ha, r⟩ := r1.tup
      have p3 : Post T (RV1 T) W g3 σ H3 Q (.ok (.tup (cutD xs l h)) c3) := p3
      refine .inl (.inl ⟨a, vs, e, C.sqt ha k3.sub, fun w => ?_, fun w q n => ?_⟩)
      · have e2 : cutD xs l h = xs := by
          unfold cutD
          rw [← r.length, w.1, w.2]
          simp [r.length]
        rw [e2] at p3
        exact Post.here (R := RV1 T) (d := .tup xs) k3 ⟨a, vs, rfl, ha, r⟩ p3
      · obtain ⟨x1, x2, x3⟩ := new_tup k3 n r.cut
        exact p3 _ _ _ x1 x2 x3
    | lst xs =>
      obtain ⟨a, vs, e, ha, r⟩ := r1.list k3
      have p3 : Post T (RV1 T) W g3 σ H3 Q (.ok (.lst (cutD xs l h)) c3) := p3
      refine .inl (.inr ⟨a, vs, e, SqL.of ha, fun q n => ?_⟩)
      obtain ⟨x1, x2, x3⟩ := new_lst k3 n r.cut
      exact p3 _ _ _ x1 x2 x3
    | scr ns =>
      obtain ⟨a, e, ha⟩ := (r1.rep (fun _ => by simp) : Rep T g3 x (.scr ns))
      have p3 : Post T (RV1 T) W g3 σ H3 Q (.ok (.lst (cutD (ns.map .int) l h)) c3) := p3
      refine .inl (.inr ⟨a, ns.map V.int, e, by rw [C.K]; exact L2.SqL.ext ha k3.sub, fun q n => ?_⟩)
      obtain ⟨x1, x2, x3⟩ := new_lst k3 n (reps_ints ns).cut
      exact p3 _ _ _ x1 x2 x3
    | str z =>
      have p3 : Post T (RV1 T) W g3 σ H3 Q (M.opt (if sizeOk z.length then some (D.str (cutS z l h)) else none) c3) := p3
      by_cases hz : sizeOk z.length = true
      · rw [if_pos hz] at p3
        exact .inr ⟨z, r1.str, line_of hz, Post.here (R := RV1 T) (d := .str (cutS z l h)) k3 rfl p3⟩
      · rw [if_neg hz] at p3; exact p3.elim
    | _ => exact p3.elim⟩⟩⟩

/-! ### built-in functions of one argument that is looked into -/
def BiOk {α : Type} (T : Tab) (W : WX) (R : Gh → Hp → V → α → Prop) (r : List V → Hp → VK → Prop) (f : D → M α) : Prop :=
  ∀ (σ : L2.St) (H : Hp) (Q : VK) (g : Gh) (c : Cfg) (x : V) (d : D), Held T g σ H c → RepB T g H x d → Post T R W g σ H Q (f d c) → r [x] H Q
section
variable {α : Type} {R : Gh → Hp → V → α → Prop} {r : List V → Hp → VK → Prop} {f : D → M α} {x : Str} {e : Expr} {m : M D} {id : String}
theorem arg1 (he : SndB T W X e m) (hb : BiOk T W R r f) (hs : starEach [e] X.env = (false, eval e X.env) :: starEach [] X.env := by rfl) : ∀ σ H Q, rd T R W (M.bnd m f) σ H Q → tCB r (tCons (rd T (RepB T) W m) tNil) σ H Q := fun σ H Q ⟨g, c, k, p⟩ =>
  ⟨g, c, k, p.bnd.imp fun x H1 ⟨d, g1, c1, s1, k1, r1, p1⟩ => hb σ H1 Q g1 c1 x d k1 r1 p1⟩
theorem b_fn (C : Ctx T W X) (hc : CallR X (.builtin id) r) (hb : BiOk T W R r f) (he : SndB T W X e m) (hm : T.mg x = none) (hv : bootBuiltins x = some (.builtin id)) (hg : Gl X x := by rfl) (hn : x ≠ "__name__" := by decide) (hdb : (x == ("__debug__" : Str)) = false := by decide)
    (hs : starEach [e] X.env = (false, eval e X.env) :: starEach [] X.env := by rfl) (hpl : (backTo pos (starEach [] X.env)).any (·.1) = false := by rfl) : PE X (.Call (.Name x p) [e] [] pos) (rd T R W (M.bnd m f)) :=
  PE.imp (pe_callB hc hg (by rw [C.mg]; exact hm) hv (pa_cons he pa_nil hs) hn hdb hs hpl) (arg1 he hb hs)
theorem b_ty {Ty : String} (C : Ctx T W X) (hc : CallR X (.type Ty) r) (hb : BiOk T W R r f) (he : SndB T W X e m) (hm : T.mg x = none) (hv : bootBuiltins x = some (.type Ty)) (hg : Gl X x := by rfl) (hn : x ≠ "__name__" := by decide) (hdb : (x == ("__debug__" : Str)) = false := by decide)
    (hs : starEach [e] X.env = (false, eval e X.env) :: starEach [] X.env := by rfl) (hpl : (backTo pos (starEach [] X.env)).any (·.1) = false := by rfl) : PE X (.Call (.Name x p) [e] [] pos) (rd T R W (M.bnd m f)) :=
  PE.imp (pe_callTy hc hg (by rw [C.mg]; exact hm) hv (pa_cons he pa_nil hs) hn hdb hs hpl) (arg1 he hb hs)
end
/-- len -/
def lenK (d : D) : M D := fun c => match d with
  | .tup xs => .ok (.int xs.length) c
  | .lst xs => .ok (.int xs.length) c
  | .str z => if sizeOk z.length then .ok (.int z.length) c else .stuck
  | .scr ns => .ok (.int ns.length) c
  | _ => .stuck
theorem len_ok (C : Ctx T W X) : CallR X (.builtin "len") (fun xs H Q => (∃ p ys, xs = [.ref p] ∧ (SqL X.K H p ys ∨ SqT X.K H p ys) ∧ Q (.int ys.length) H) ∨ ∃ z, xs = [.str z] ∧ z.length ≤ sizeLine ∧ Q (.int z.length) H) := call_len_seq.or call_len_str
theorem len_bi (C : Ctx T W X) : BiOk T W (RV1 T) (fun xs H Q => (∃ p ys, xs = [.ref p] ∧ (SqL X.K H p ys ∨ SqT X.K H p ys) ∧ Q (.int ys.length) H) ∨ ∃ z, xs = [.str z] ∧ z.length ≤ sizeLine ∧ Q (.int z.length) H) lenK := by
  intro σ H Q g c x d k r p
  cases d with
  | tup xs =>
    obtain ⟨a, vs, e, h, r⟩ := r.tup
    exact .inl ⟨a, vs, by rw [e], .inr (C.sqt h k.sub), by rw [r.length]; exact Post.here (R := RV1 T) (d := .int xs.length) k rfl p⟩
  | lst xs =>
    obtain ⟨a, vs, e, h, r⟩ := r.list k
    exact .inl ⟨a, vs, by rw [e], .inl (SqL.of h), by rw [r.length]; exact Post.here (R := RV1 T) (d := .int xs.length) k rfl p⟩
  | scr ns =>
    obtain ⟨a, e, h⟩ := (r.rep (fun _ => by simp) : Rep T g x (.scr ns))
    have q := Post.here (R := RV1 T) (d := .int ns.length) k rfl p
    exact .inl ⟨a, ns.map V.int, by rw [e], .inl (by rw [C.K]; exact L2.SqL.ext h k.sub), by rw [List.length_map]; exact q⟩
  | str z =>
    have p : Post T (RV1 T) W g σ H Q (if sizeOk z.length then .ok (.int z.length) c else .stuck) := p
    by_cases hz : sizeOk z.length = true
    · rw [if_pos hz] at p
      exact .inr ⟨z, by rw [r.str], line_of hz, Post.here (R := RV1 T) (d := .int z.length) k rfl p⟩
    · rw [if_neg hz] at p; exact p.elim
  | _ => exact p.elim
theorem s_len {x : Str} {e : Expr} {m : M D} (C : Ctx T W X) (he : SndB T W X e m) (hx : x = "len" := by rfl) (hm : T.mg "len" = none) (hg : Gl X x := by rfl) (hs : starEach [e] X.env = (false, eval e X.env) :: starEach [] X.env := by rfl) : SndE T W X (.Call (.Name x p) [e] [] pos) (M.bnd m lenK) := by
  subst hx
  exact b_fn C (len_ok C) (len_bi C) he hm PySem.boot_len hg (hs := hs)
/-- tuple(x) -/
def tupK (d : D) : M D := match d with
  | .tup xs => M.ret (.tup xs)
  | .lst xs => M.ret (.tup xs)
  | _ => M.stk
theorem tup_bi (C : Ctx T W X) : BiOk T W (RV1 T) (fun xs H Q => ∃ p ys, xs = [.ref p] ∧ ((SqL X.K H p ys ∧ ∀ l, H l = none → Q (.ref l) (upd H l (.tup ys))) ∨ (SqT X.K H p ys ∧ Q (.ref p) H))) tupK := by
  intro σ H Q g c x d k r p
  cases d with
  | tup xs =>
    obtain ⟨a, vs, e, h, r⟩ := r.tup
    exact ⟨a, vs, by rw [e], .inr ⟨C.sqt h k.sub, Post.here (R := RV1 T) (d := .tup xs) k ⟨a, vs, rfl, h, r⟩ p⟩⟩
  | lst xs =>
    obtain ⟨a, vs, e, h, r⟩ := r.list k
    refine ⟨a, vs, by rw [e], .inl ⟨SqL.of h, fun l n => ?_⟩⟩
    obtain ⟨x1, x2, x3⟩ := new_tup k n r
    exact p _ _ _ x1 x2 x3
  | _ => exact p.elim
theorem s_tuple {x : Str} {e : Expr} {m : M D} (C : Ctx T W X) (he : SndB T W X e m) (hx : x = "tuple" := by rfl) (hm : T.mg "tuple" = none) (hg : Gl X x := by rfl) (hs : starEach [e] X.env = (false, eval e X.env) :: starEach [] X.env := by rfl) : SndE T W X (.Call (.Name x p) [e] [] pos) (M.bnd m tupK) := by
  subst hx
  exact b_ty C call_tuple_of (tup_bi C) he hm (by decide +kernel) hg (hs := hs)
/-- list(x) -/
def lstK (d : D) : M (List D) := match d with
  | .tup xs => M.ret xs
  | .lst xs => M.ret xs
  | _ => M.stk
theorem lst_bi (C : Ctx T W X) : BiOk T W (RF T) (fun xs H Q => ∃ p ys, xs = [.ref p] ∧ (SqL X.K H p ys ∨ SqT X.K H p ys) ∧ ∀ l, H l = none → Q (.ref l) (upd H l (.lst ys))) lstK := by
  intro σ H Q g c x d k r p
  cases d with
  | tup xs =>
    obtain ⟨a, vs, e, h, r⟩ := r.tup
    refine ⟨a, vs, by rw [e], .inr (C.sqt h k.sub), fun l n => ?_⟩
    obtain ⟨x1, x2, x3⟩ := new_f k n r
    exact p _ _ _ x1 x2 x3
  | lst xs =>
    obtain ⟨a, vs, e, h, r⟩ := r.list k
    refine ⟨a, vs, by rw [e], .inl (SqL.of h), fun l n => ?_⟩
    obtain ⟨x1, x2, x3⟩ := new_f k n r
    exact p _ _ _ x1 x2 x3
  | _ => exact p.elim
theorem f_list {x : Str} {e : Expr} {m : M D} (C : Ctx T W X) (he : SndB T W X e m) (hx : x = "list" := by rfl) (hm : T.mg "list" = none) (hg : Gl X x := by rfl) (hs : starEach [e] X.env = (false, eval e X.env) :: starEach [] X.env := by rfl) : SndF T W X (.Call (.Name x p) [e] [] pos) (M.bnd m lstK) := by
  subst hx
  exact b_ty C call_list_of (lst_bi C) he hm (by decide +kernel) hg (hs := hs)
/-- abs, int -/
def absK (d : D) : M D := match d with
  | .int i => M.ret (.int (if i < 0 then -i else i))
  | _ => M.stk
theorem abs_bi : BiOk T W (RV1 T) (fun xs H Q => ∃ i, xs = [.int i] ∧ Q (.int (if i < 0 then -i else i)) H) absK := by
  intro σ H Q g c x d k r p
  cases d with
  | int i => exact ⟨i, by rw [r.int], Post.here (R := RV1 T) (d := .int (if i < 0 then -i else i)) k rfl p⟩
  | _ => exact p.elim
theorem s_abs {x : Str} {e : Expr} {m : M D} (C : Ctx T W X) (he : SndB T W X e m) (hx : x = "abs" := by rfl) (hm : T.mg "abs" = none) (hg : Gl X x := by rfl) (hs : starEach [e] X.env = (false, eval e X.env) :: starEach [] X.env := by rfl) : SndE T W X (.Call (.Name x p) [e] [] pos) (M.bnd m absK) := by
  subst hx
  exact b_fn C call_abs abs_bi he hm (by decide +kernel) hg (hs := hs)
def intK (d : D) : M D := match d with
  | .int i => M.ret (.int i)
  | .bl b => M.ret (.int (if b then 1 else 0))
  | .str z => (match PySem.intText? z with
    | some n => if z.length ≤ 640 then M.ret (D.int n) else M.stk
    | none => M.stk)
  | _ => M.stk
theorem int_bi : BiOk T W (RV1 T) (fun xs H Q => ((∃ i, xs = [.int i] ∧ Q (.int i) H) ∨ ∃ k, xs = [.bl k] ∧ Q (.int (if k then 1 else 0)) H) ∨ ∃ a n, xs = [.str a] ∧ PySem.intText? a = some n ∧ a.length ≤ 640 ∧ Q (.int n) H) intK := by
  intro σ H Q g c x d k r p
  cases d with
  | int i => exact .inl (.inl ⟨i, by rw [r.int], Post.here (R := RV1 T) (d := .int i) k rfl p⟩)
  | bl b => exact .inl (.inr ⟨b, by rw [r.bl], Post.here (R := RV1 T) (d := .int (if b then 1 else 0)) k rfl p⟩)
  | str z =>
    have p : Post T (RV1 T) W g σ H Q ((match PySem.intText? z with
      | some n => if z.length ≤ 640 then M.ret (D.int n) else M.stk
      | none => M.stk) c) := p
    cases e : PySem.intText? z with
    | none => rw [e] at p; exact p.elim
    | some n =>
      rw [e] at p
      have p : Post T (RV1 T) W g σ H Q ((if z.length ≤ 640 then M.ret (D.int n) else M.stk) c) := p
      by_cases hz : z.length ≤ 640
      · rw [if_pos hz] at p
        exact .inr ⟨z, n, by rw [r.str], e, hz, Post.here (R := RV1 T) (d := .int n) k rfl p⟩
      · rw [if_neg hz] at p; exact p.elim
  | _ => exact p.elim
theorem s_int' {x : Str} {e : Expr} {m : M D} (C : Ctx T W X) (he : SndB T W X e m) (hx : x = "int" := by rfl) (hm : T.mg "int" = none) (hg : Gl X x := by rfl) (hs : starEach [e] X.env = (false, eval e X.env) :: starEach [] X.env := by rfl) : SndE T W X (.Call (.Name x p) [e] [] pos) (M.bnd m intK) := by
  subst hx
  exact b_ty C (call_int1.or call_int_str) int_bi he hm (by decide +kernel) hg (hs := hs)
/-- all, any, sum of a list -/
def bls : List D → Option (List Bool)
  | [] => some []
  | .bl b :: r => (bls r).map (b :: ·)
  | _ :: _ => none
def intL : List D → Option (List Int)
  | [] => some []
  | .int b :: r => (intL r).map (b :: ·)
  | _ :: _ => none
theorem bls_ok {g : Gh} : ∀ {xs : List D} {vs : List V} {bs : List Bool}, bls xs = some bs → Reps T g vs xs → vs = bs.map V.bl
  | [], vs, bs, h, r => by cases h; exact r
  | .bl b :: xs, vs, bs, h, r => by
    obtain ⟨v, vr, e, r1, r2⟩ := r
    have h : (bls xs).map (b :: ·) = some bs := h
    cases e2 : bls xs with
    | none => rw [e2] at h; cases h
    | some l =>
      rw [e2] at h; cases h
      have r1 : v = .bl b := r1
      rw [e, r1, bls_ok e2 r2]; rfl
  | .non :: _, _, _, h, _ => by cases h
  | .int _ :: _, _, _, h, _ => by cases h
  | .str _ :: _, _, _, h, _ => by cases h
  | .tup _ :: _, _, _, h, _ => by cases h
  | .lst _ :: _, _, _, h, _ => by cases h
  | .rat _ :: _, _, _, h, _ => by cases h
  | .ins _ _ :: _, _, _, h, _ => by cases h
  | .fn _ :: _, _, _, h, _ => by cases h
  | .cell _ :: _, _, _, h, _ => by cases h
  | .scr _ :: _, _, _, h, _ => by cases h
  | .dct _ :: _, _, _, h, _ => by cases h
theorem intL_ok {g : Gh} : ∀ {xs : List D} {vs : List V} {bs : List Int}, intL xs = some bs → Reps T g vs xs → vs = bs.map V.int
  | [], vs, bs, h, r => by cases h; exact r
  | .int b :: xs, vs, bs, h, r => by
    obtain ⟨v, vr, e, r1, r2⟩ := r
    have h : (intL xs).map (b :: ·) = some bs := h
    cases e2 : intL xs with
    | none => rw [e2] at h; cases h
    | some l =>
      rw [e2] at h; cases h
      have r1 : v = .int b := r1
      rw [e, r1, intL_ok e2 r2]; rfl
  | .non :: _, _, _, h, _ => by cases h
  | .bl _ :: _, _, _, h, _ => by cases h
  | .str _ :: _, _, _, h, _ => by cases h
  | .tup _ :: _, _, _, h, _ => by cases h
  | .lst _ :: _, _, _, h, _ => by cases h
  | .rat _ :: _, _, _, h, _ => by cases h
  | .ins _ _ :: _, _, _, h, _ => by cases h
  | .fn _ :: _, _, _, h, _ => by cases h
  | .cell _ :: _, _, _, h, _ => by cases h
  | .scr _ :: _, _, _, h, _ => by cases h
  | .dct _ :: _, _, _, h, _ => by cases h
def blsK (f : List Bool → Bool) (d : D) : M D := match d with
  | .lst xs => (match bls xs with
    | some bs => M.ret (D.bl (f bs))
    | none => M.stk)
  | _ => M.stk
theorem bls_bi {f : List Bool → Bool} (C : Ctx T W X) : BiOk T W (RV1 T) (fun vs H Q => ∃ (a : Addr) (bs : List Bool), vs = [V.ref a] ∧ SqL X.K H a (bs.map V.bl) ∧ Q (.bl (f bs)) H) (blsK f) := by
  intro σ H Q g c x d k r p
  cases d with
  | lst xs =>
    obtain ⟨a, vs, e, h, r⟩ := r.list k
    have p : Post T (RV1 T) W g σ H Q ((match bls xs with
      | some bs => M.ret (D.bl (f bs))
      | none => M.stk) c) := p
    cases eb : bls xs with
    | none => rw [eb] at p; exact p.elim
    | some bs =>
      rw [eb] at p
      have ev := bls_ok eb r
      subst ev
      exact ⟨a, bs, by rw [e], SqL.of h, Post.here (R := RV1 T) (d := .bl (f bs)) k rfl p⟩
  | _ => exact p.elim
theorem s_all {x : Str} {e : Expr} {m : M D} (C : Ctx T W X) (he : SndB T W X e m) (hx : x = "all" := by rfl) (hm : T.mg "all" = none) (hg : Gl X x := by rfl) (hs : starEach [e] X.env = (false, eval e X.env) :: starEach [] X.env := by rfl) : SndE T W X (.Call (.Name x p) [e] [] pos) (M.bnd m (blsK fun bs => bs.all id)) := by
  subst hx
  exact b_fn C (cr_all C.calm) (bls_bi C) he hm (by decide +kernel) hg (hs := hs)
theorem s_any {x : Str} {e : Expr} {m : M D} (C : Ctx T W X) (he : SndB T W X e m) (hx : x = "any" := by rfl) (hm : T.mg "any" = none) (hg : Gl X x := by rfl) (hs : starEach [e] X.env = (false, eval e X.env) :: starEach [] X.env := by rfl) : SndE T W X (.Call (.Name x p) [e] [] pos) (M.bnd m (blsK fun bs => bs.any id)) := by
  subst hx
  exact b_fn C (cr_any C.calm) (bls_bi C) he hm (by decide +kernel) hg (hs := hs)
def sumK (d : D) : M D := match d with
  | .lst xs => (match intL xs with
    | some bs => M.ret (D.int bs.sum)
    | none => M.stk)
  | _ => M.stk
theorem sum_bi (C : Ctx T W X) : BiOk T W (RV1 T) (rSum X.K) sumK := by
  intro σ H Q g c x d k r p
  cases d with
  | lst xs =>
    obtain ⟨a, vs, e, h, r⟩ := r.list k
    have p : Post T (RV1 T) W g σ H Q ((match intL xs with
      | some bs => M.ret (D.int bs.sum)
      | none => M.stk) c) := p
    cases eb : intL xs with
    | none => rw [eb] at p; exact p.elim
    | some bs =>
      rw [eb] at p
      have ev := intL_ok eb r
      subst ev
      exact ⟨a, bs, by rw [e], SqL.of h, Post.here (R := RV1 T) (d := .int bs.sum) k rfl p⟩
  | _ => exact p.elim
theorem s_sum {x : Str} {e : Expr} {m : M D} (C : Ctx T W X) (he : SndB T W X e m) (hx : x = "sum" := by rfl) (hm : T.mg "sum" = none) (hg : Gl X x := by rfl) (hs : starEach [e] X.env = (false, eval e X.env) :: starEach [] X.env := by rfl) : SndE T W X (.Call (.Name x p) [e] [] pos) (M.bnd m sumK) := by
  subst hx
  exact b_fn C (cr_sum C.calm) (sum_bi C) he hm (by decide +kernel) hg (hs := hs)
/-- str of an int -/
def strK (d : D) : M D := match d with
  | .int i => if i.natAbs.log2 < 1920 then M.ret (.str (toString i)) else M.stk
  | _ => M.stk
theorem str_bi : BiOk T W (RV1 T) (fun xs H Q => ∃ i : Int, xs = [.int i] ∧ i.natAbs.log2 < 1920 ∧ Q (.str (toString i)) H) strK := by
  intro σ H Q g c x d k r p
  cases d with
  | int i =>
    have p : Post T (RV1 T) W g σ H Q ((if i.natAbs.log2 < 1920 then M.ret (D.str (toString i)) else M.stk) c) := p
    by_cases hz : i.natAbs.log2 < 1920
    · rw [if_pos hz] at p
      exact ⟨i, by rw [r.int], hz, Post.here (R := RV1 T) (d := .str (toString i)) k rfl p⟩
    · rw [if_neg hz] at p; exact p.elim
  | _ => exact p.elim
end
end TL

end
section
set_option Elab.async false
set_option linter.all false
set_option maxRecDepth 100000
/-! Tl14: statements. -/
namespace TL
open PySem L2
section
variable {T : Tab} {W : WX} {g g' : Gh} {σ : L2.St} {H H' : Hp} {c : Cfg}
theorem Stp.of (s : StpE g H g' H') : Stp g H g' H' := s.toStp
/-- a slot is stored -/
theorem Held.store {i : Nat} {v : V} {s : Sl} (k : Held T g σ H c) (new : SlOk T g (σ.set i (some v)) H i s) : Held T g (σ.set i (some v)) H { c with sl := c.sl.set i s } := by
  refine ⟨k.sub, k.ow, k.bs, fun j t e => ?_, k.cn, by simpa using k.ln, k.ce⟩
  have e : (c.sl.set i s)[j]? = some t := e
  by_cases q : j = i
  · subst q
    by_cases hl : j < c.sl.length
    · rw [List.getElem?_set_self hl] at e; cases e; exact new
    · rw [List.getElem?_eq_none (by simpa using hl)] at e; cases e
  · rw [List.getElem?_set_ne (Ne.symm q)] at e
    have h := k.sl j t e
    have same : (σ.set i (some v))[j]? = σ[j]? := List.getElem?_set_ne (Ne.symm q)
    cases t with
    | no => trivial
    | v d => obtain ⟨w, e1, r⟩ := h; exact ⟨w, by rw [same]; exact e1, r⟩
    | own xs => obtain ⟨a, vs, e1, r⟩ := h; exact ⟨a, vs, by rw [same]; exact e1, r⟩
    | obj C fs => obtain ⟨a, dx, vfs, es, e1, r⟩ := h; exact ⟨a, dx, vfs, es, by rw [same]; exact e1, r⟩
    | exc fs => obtain ⟨e1, r⟩ := h; exact ⟨by rw [same]; exact e1, r⟩
/-- a slot beyond is no slot -/
theorem set_self {i : Nat} {v : V} (h : i < σ.length) : (σ.set i (some v))[i]? = some (some v) := List.getElem?_set_self h
theorem SlOk.v_at {i : Nat} {v : V} {d : D} (h : i < σ.length) (r : Rep T g v d) : SlOk T g (σ.set i (some v)) H i (.v d) := ⟨v, set_self h, r⟩
theorem Held.storeV {i : Nat} {v : V} {d : D} (k : Held T g σ H c) (r : Rep T g v d) : Held T g (σ.set i (some v)) H { c with sl := c.sl.set i (.v d) } := by
  by_cases h : i < σ.length
  · exact k.store (SlOk.v_at h r)
  · have h2 : ¬ i < c.sl.length := fun z => h (Nat.lt_of_lt_of_le z k.ln)
    have e : c.sl.set i (.v d) = c.sl.set i .no := by rw [List.set_eq_of_length_le (by omega), List.set_eq_of_length_le (by omega)]
    rw [e]
    exact k.store (s := .no) trivial
/-- an owner is told -/
def Gh.own (g : Gh) (a : Addr) (w : Ow) : Gh := { g with O := fun b => if b = a then some w else g.O b }
theorem own_held {a : Addr} {w : Ow} {o : HO} (k : Held T g σ H c) (hI : g.I a = none) (oa : g.O a = none) (h : H a = some o) : Held T (g.own a w) σ H c := by
  have keep : ∀ b u, g.O b = some u → (g.own a w).O b = some u := fun b u e => by
    show (if b = a then some w else g.O b) = _
    rw [if_neg (fun z => by rw [z, oa] at e; cases e)]; exact e
  refine ⟨k.sub, fun b z => ?_, k.bs, fun j t e => ?_, k.cn, k.ln, fun m b xs e1 e2 => ?_⟩
  · by_cases q : b = a
    · rw [q]; exact ⟨hI, by rw [h]; simp⟩
    · have z' : (if b = a then some w else g.O b) ≠ none := z
      rw [if_neg q] at z'
      exact k.ow b z'
  · have le : GL g (g.own a w) := ⟨fun _ _ h => h, ⟨[], by simp [Gh.own]⟩⟩
    have hk := k.sl j t e
    cases t with
    | no => trivial
    | v d => obtain ⟨v, e, r⟩ := hk; exact ⟨v, e, Rep.gl le _ _ r⟩
    | own xs => obtain ⟨b, vs, e, q, nb, h, r⟩ := hk; exact ⟨b, vs, e, keep b _ q, nb, h, Reps.gl le _ _ r⟩
    | obj C fs => obtain ⟨b, dx, vfs, es, e, q, h, r⟩ := hk; exact ⟨b, dx, vfs, es, e, keep b _ q, h, RepF.gl le _ _ r⟩
    | exc fs => obtain ⟨e, dd, vfs, q, h, r⟩ := hk; exact ⟨e, dd, vfs, q, h, RepF.gl le _ _ r⟩
  · obtain ⟨h1, vs, h2, r⟩ := k.ce m b xs e1 e2
    exact ⟨keep b _ h1, vs, h2, Reps.gl (⟨fun _ _ h => h, ⟨[], by simp [Gh.own]⟩⟩ : GL g (g.own a w)) _ _ r⟩
theorem own_stp {a : Addr} {w : Ow} {g0 : Gh} {H0 : Hp} (s : Stp g0 H0 g H) (n : g0.B a → g0.O a ≠ none) : Stp g0 H0 (g.own a w) H := by
  refine ⟨⟨⟨s.le.I, s.le.cl⟩, s.le.B, s.le.sf⟩, fun b o e hb z => ?_⟩
  obtain ⟨h1, h2, h3⟩ := s.fr b o e hb z
  refine ⟨h1, h2, ?_⟩
  show (if b = a then some w else g.O b) = none
  rw [if_neg (fun q => by subst q; exact n hb z)]; exact h3

theorem PostS.from {E : Ends} {o : Out Flow} (s : Stp g H g' H') (p : PostS T W g H E o) : PostS T W g' H' E o := by
  cases o with
  | stuck => exact p
  | err x c => exact fun cls dd σ' g2 H2 s2 k x => p cls dd σ' g2 H2 (s.trans s2) k x
  | ok f c =>
    cases f with
    | nx => exact fun σ' g2 H2 s2 k => p σ' g2 H2 (s.trans s2) k
    | bk => exact fun σ' g2 H2 s2 k => p σ' g2 H2 (s.trans s2) k
    | ct => exact fun σ' g2 H2 s2 k => p σ' g2 H2 (s.trans s2) k
    | rt r => cases r with
      | v d => exact fun v σ' g2 H2 s2 k r => p v σ' g2 H2 (s.trans s2) k r
      | f xs => exact fun a vs σ' g2 H2 s2 k => p a vs σ' g2 H2 (s.trans s2) k
theorem PostS.bnd {α β : Type} {R : Gh → Hp → β → α → Prop} {E : Ends} {m : M α} {f : α → M Flow} {c : Cfg} (p : PostS T W g H E (M.bnd m f c)) :
    Post T R W g σ H (fun b H1 => ∃ a g1 c1, StpE g H g1 H1 ∧ Held T g1 σ H1 c1 ∧ R g1 H1 b a ∧ PostS T W g1 H1 E (f a c1)) (m c) := by
  unfold M.bnd at p
  cases e : m c with
  | ok a c1 =>
    rw [e] at p
    exact fun b g1 H1 s k r => ⟨a, g1, c1, s, k, r, PostS.from s.toStp p⟩
  | err x c1 =>
    rw [e] at p
    exact fun cls dd g1 H1 s k r => p cls dd σ g1 H1 s.toStp k r
  | stuck => rw [e] at p; exact p
end

/-! ### targets -/
abbrev TgF := D → Cfg → Option Cfg
/-- the slots beyond is stand -/
structure Same (is : List Nat) (σ σ' : L2.St) : Prop where
  len : σ'.length = σ.length
  kp : ∀ j, j ∉ is → σ'[j]? = σ[j]?
theorem Same.refl {is : List Nat} {σ : L2.St} : Same is σ σ := ⟨rfl, fun _ _ => rfl⟩
theorem Same.trans {is js : List Nat} {a b c : L2.St} (h : Same is a b) (k : Same js b c) : Same (is ++ js) a c :=
  ⟨k.len.trans h.len, fun j n => by rw [List.mem_append] at n; rw [k.kp j (fun z => n (.inr z)), h.kp j (fun z => n (.inl z))]⟩
theorem Same.mono {is js : List Nat} {a b : L2.St} (h : Same is a b) (s : ∀ i ∈ is, i ∈ js) : Same js a b := ⟨h.len, fun j n => h.kp j fun z => n (s j z)⟩
theorem Same.set {i : Nat} {v : V} {σ : L2.St} : Same [i] σ (σ.set i (some v)) := ⟨by simp, fun j n => List.getElem?_set_ne (fun z => n (by simp [z]))⟩
def PostG (T : Tab) (is : List Nat) (g : Gh) (H : Hp) (σ : L2.St) (Q : L2.St → Hp → Prop) : Option Cfg → Prop
  | some c => ∀ σ', Same is σ σ' → Held T g σ' H c → Q σ' H
  | none => False
def rdG (T : Tab) (is : List Nat) (k : TgF) : TG := fun v σ H Q => ∃ g c d, Held T g σ H c ∧ Rep T g v d ∧ PostG T is g H σ Q (k d c)
def rdGs (T : Tab) (is : List Nat) (k : List D → Cfg → Option Cfg) : TGs := fun vs σ H Q => ∃ g c ds, Held T g σ H c ∧ Reps T g vs ds ∧ PostG T is g H σ Q (k ds c)
abbrev SndG (T : Tab) (X : Cx) (is : List Nat) (tg : Expr) (k : TgF) : Prop := PG X tg (rdG T is k)
abbrev SndGs (T : Tab) (X : Cx) (is : List Nat) (tgs : List Expr) (k : List D → Cfg → Option Cfg) : Prop := PGs X tgs (rdGs T is k)
theorem PG.imp {X : Cx} {e : Expr} {t t' : TG} (p : PG X e t) (h : ∀ v σ H Q, t' v σ H Q → t v σ H Q) : PG X e t' := ⟨fun pins s σ H v u Q I r q => p.run pins s σ H v u Q I r (h v σ H Q q)⟩
theorem PGs.imp {X : Cx} {e : List Expr} {t t' : TGs} (p : PGs X e t) (h : ∀ v σ H Q, t' v σ H Q → t v σ H Q) : PGs X e t' := ⟨fun pins s σ H v u Q I r q => p.run pins s σ H v u Q I r (h v σ H Q q)⟩
def setS (i : Nat) (s : Sl) (c : Cfg) : Cfg := { c with sl := c.sl.set i s }
def gN (i : Nat) : TgF := fun d c => some (setS i (.v d) c)
def gsNil : List D → Cfg → Option Cfg
  | [], c => some c
  | _, _ => none
def gsCons (k : TgF) (r : List D → Cfg → Option Cfg) : List D → Cfg → Option Cfg
  | d :: ds, c => match k d c with
    | some c' => r ds c'
    | none => none
  | [], _ => none
def gT (n : Nat) (k : List D → Cfg → Option Cfg) : TgF := fun d c => match d with
  | .tup xs => if xs.length = n then k xs c else none
  | .lst xs => if xs.length = n then k xs c else none
  | _ => none
section
variable {T : Tab} {Φ : Phi} {W : WX} {X : Cx} {pos px : Pos}
theorem g_name (i : Nat) {x : Str} (C : Ctx T W X) (hi : X.N[i]? = some x := by rfl) (hx : Loc X.env.scope x := by first | exact .inl rfl | exact .inr rfl) (hf : X.fn x = true ∨ X.env.scope.names.lookup x = some .local := by first | exact .inl rfl | exact .inr rfl) : SndG T X [i] (.Name x px) (gN i) :=
  PG.imp (pg_name C.nd hi hx hf) fun v σ H Q ⟨g, c, d, k, r, p⟩ => p _ Same.set (k.storeV r)
theorem gs_nil : SndGs T X [] [] gsNil := PGs.imp pgs_nil fun v σ H Q ⟨g, c, ds, k, r, p⟩ => by
  cases ds with
  | nil => exact ⟨r, p _ Same.refl k⟩
  | cons d ds => exact p.elim
theorem gs_cons {is js : List Nat} {e : Expr} {es : List Expr} {k : TgF} {r : List D → Cfg → Option Cfg} (h1 : SndG T X is e k) (h2 : SndGs T X js es r) (hs : (assignEach (e :: es) X.env).map (·.2) = assign e X.env :: (assignEach es X.env).map (·.2) := by rfl) : SndGs T X (is ++ js) (e :: es) (gsCons k r) :=
  PGs.imp (pgs_cons h1 h2 hs) fun vs σ H Q ⟨g, c, ds, kk, rr, p⟩ => by
    cases ds with
    | nil => exact p.elim
    | cons d ds =>
      obtain ⟨v, vr, e, r1, r2⟩ := rr
      refine ⟨v, vr, e, g, c, d, kk, r1, ?_⟩
      have p : PostG T (is ++ js) g H σ Q (match k d c with | some c' => r ds c' | none => none) := p
      cases e2 : k d c with
      | none => rw [e2] at p; exact p.elim
      | some c' =>
        rw [e2] at p
        intro σ1 s1 k1
        refine ⟨g, c', ds, k1, r2, ?_⟩
        have p : PostG T (is ++ js) g H σ Q (r ds c') := p
        cases e3 : r ds c' with
        | none => rw [e3] at p; exact p.elim
        | some c2 => rw [e3] at p; exact fun σ' s' k' => p σ' (s1.trans s') k'
theorem g_tup {is : List Nat} {es : List Expr} {j : Nat} {k : List D → Cfg → Option Cfg} (n : Nat) (C : Ctx T W X) (h : SndGs T X is es k) (hn : (assignEach es X.env).length = n := by rfl) (hst : (assignEach es X.env).findIdx? (·.1) = none := by rfl) : SndG T X is (.Tuple es j pos) (gT n k) := by
  refine ⟨fun pins s σ H v u Q I r hw => ?_⟩
  obtain ⟨g, c, d, kk, rr, p⟩ := hw
  cases d with
  | tup xs =>
    have q := pg_tup (pos := pos) (k := j) C.calm h hn hst
    obtain ⟨a, vs, e, hh, r2⟩ := rr
    have p : PostG T is g H σ Q (if xs.length = n then k xs c else none) := p
    by_cases z : xs.length = n
    · rw [if_pos z] at p
      exact q.run pins s σ H v u Q I r ⟨a, vs, e, C.sqt hh kk.sub, by rw [r2.length]; exact z, g, c, xs, kk, r2, p⟩
    · rw [if_neg z] at p; exact p.elim
  | lst xs =>
    obtain ⟨a, vs, e, hh, r2⟩ := rr
    have p : PostG T is g H σ Q (if xs.length = n then k xs c else none) := p
    by_cases z : xs.length = n
    · rw [if_pos z] at p
      exact (pg_lst (pos := pos) (k := j) C.calm h hn hst).run pins s σ H v u Q I r ⟨a, vs, e, SqL.of (kk.sub _ _ hh), by rw [r2.length]; exact z, g, c, xs, kk, r2, p⟩
    · rw [if_neg z] at p; exact p.elim
  | _ => exact p.elim

/-! ### statements -/
def nxt : M Flow := M.ret .nx
def sAsg (k : TgF) (m : M D) : M Flow := M.bnd m fun d c => match k d c with
  | some c' => .ok .nx c'
  | none => .stuck
theorem asg_end {is : List Nat} {k : TgF} {g : Gh} {σ : L2.St} {H : Hp} {E : Ends} {c : Cfg} {d : D} {v : V} (kk : Held T g σ H c) (r : Rep T g v d) (p : PostS T W g H E (match k d c with | some c' => .ok .nx c' | none => .stuck)) : rdG T is k v σ H E.nx := by
  refine ⟨g, c, d, kk, r, ?_⟩
  cases e : k d c with
  | none => rw [e] at p; exact p.elim
  | some c' => rw [e] at p; exact fun σ' s k' => p σ' g H Stp.refl k'
theorem s_asg {is : List Nat} {tg e : Expr} {m : M D} {k : TgF} (he : SndE T W X e m) (hg : SndG T X is tg k) (hs : swapsWithSole [tg] e pos.line X.env = pure false := by rfl) (hw : swappedStores [tg] e X.env = pure none := by rfl)
    (h1 : (assignEach [tg] X.env).map (·.2) = [assign tg X.env] := by rfl) : SndS T W X (.Assign [tg] e pos) (sAsg k m) :=
  PS.imp (ps_asg he hg hs hw h1) fun E σ H ⟨g, c, kk, p⟩ => ⟨g, c, kk, (PostS.bnd (R := RV1 T) (β := V) p).imp fun v H1 ⟨d, g1, c1, s1, k1, r1, p1⟩ => asg_end k1 r1 p1⟩
theorem s_set (i : Nat) {x : Str} {e : Expr} {m : M D} (C : Ctx T W X) (he : SndE T W X e m) (hi : X.N[i]? = some x := by rfl) (hx : Loc X.env.scope x := by first | exact .inl rfl | exact .inr rfl) (hs : swapsWith e (some (.Name x px)) pos.line X.env = pure false := by rfl) (hf : X.fn x = true ∨ X.env.scope.names.lookup x = some .local := by first | exact .inl rfl | exact .inr rfl) :
    SndS T W X (.Assign [.Name x px] e pos) (sAsg (gN i) m) :=
  PS.imp (ps_set C.nd hi hx he hs hf) fun E σ H ⟨g, c, kk, p⟩ => ⟨g, c, kk, (PostS.bnd (R := RV1 T) (β := V) p).imp fun v H1 ⟨d, g1, c1, s1, k1, r1, p1⟩ => p1 _ g1 H1 Stp.refl (k1.storeV r1)⟩
/-- a fresh list is stored: the slot's own -/
def sOwn (i : Nat) (m : M (List D)) : M Flow := M.bnd m fun xs c => .ok .nx (setS i (.own xs) c)
theorem held_own {i : Nat} {g : Gh} {σ : L2.St} {H : Hp} {c : Cfg} {v : V} {xs : List D} (k : Held T g σ H c) (r : RF T g H v xs) : ∃ g', Stp g H g' H ∧ Held T g' (σ.set i (some v)) H (setS i (.own xs) c) := by
  obtain ⟨a, vs, rfl, h, r, hI, hO, nb⟩ := r
  refine ⟨g.own a (.sl i), own_stp Stp.refl (fun z => absurd z nb), ?_⟩
  have k2 : Held T (g.own a (.sl i)) σ H c := own_held k hI hO h
  by_cases hl : i < σ.length
  · exact k2.store ⟨a, vs, set_self hl, by show (if a = a then some (Ow.sl i) else _) = _; rw [if_pos rfl], nb, h, Reps.gl (⟨fun _ _ h => h, ⟨[], by simp [Gh.own]⟩⟩ : GL g (g.own a (.sl i))) _ _ r⟩
  · have h2 : ¬ i < c.sl.length := fun z => hl (Nat.lt_of_lt_of_le z k.ln)
    have e : c.sl.set i (.own xs) = c.sl.set i .no := by rw [List.set_eq_of_length_le (by omega), List.set_eq_of_length_le (by omega)]
    unfold setS
    rw [e]
    exact k2.store (s := .no) trivial
theorem s_own (i : Nat) {x : Str} {e : Expr} {m : M (List D)} (C : Ctx T W X) (he : SndF T W X e m) (hi : X.N[i]? = some x := by rfl) (hx : Loc X.env.scope x := by first | exact .inl rfl | exact .inr rfl) (hs : swapsWith e (some (.Name x px)) pos.line X.env = pure false := by rfl) (hf : X.fn x = true ∨ X.env.scope.names.lookup x = some .local := by first | exact .inl rfl | exact .inr rfl) :
    SndS T W X (.Assign [.Name x px] e pos) (sOwn i m) :=
  PS.imp (ps_set C.nd hi hx he hs hf) fun E σ H ⟨g, c, kk, p⟩ => ⟨g, c, kk, (PostS.bnd (R := RF T) p).imp fun v H1 ⟨xs, g1, c1, s1, k1, r1, p1⟩ => by
    obtain ⟨g2, s2, k2⟩ := held_own (i := i) k1 r1
    exact p1 _ g2 H1 s2 k2⟩
/-- a fresh list is stored: a new cell -/
def sCell (i : Nat) (m : M (List D)) : M Flow := M.bnd m fun xs c => .ok .nx ⟨c.sl.set i (.v (.cell c.ce.length)), c.ce ++ [xs]⟩
theorem held_cell {i : Nat} {g : Gh} {σ : L2.St} {H : Hp} {c : Cfg} {v : V} {xs : List D} (k : Held T g σ H c) (r : RF T g H v xs) : ∃ g', Stp g H g' H ∧ Held T g' (σ.set i (some v)) H ⟨c.sl.set i (.v (.cell c.ce.length)), c.ce ++ [xs]⟩ := by
  obtain ⟨a, vs, rfl, h, r, hI, hO, nb⟩ := r
  let g2 : Gh := { g.own a (.ce c.ce.length) with cl := g.cl ++ [a] }
  have k1 : Held T (g.own a (.ce c.ce.length)) σ H c := own_held k hI hO h
  have le : GL g g2 := ⟨fun _ _ h => h, ⟨[a], rfl⟩⟩
  have le1 : GL (g.own a (.ce c.ce.length)) g2 := ⟨fun _ _ h => h, ⟨[a], rfl⟩⟩
  have st : Stp g H g2 H := by
    obtain ⟨x1, x2⟩ := own_stp (w := .ce c.ce.length) (a := a) (g := g) (H := H) Stp.refl (fun z => absurd z nb)
    exact ⟨⟨⟨x1.I, ⟨[a], rfl⟩⟩, rfl, rfl⟩, x2⟩
  have k2 : Held T g2 σ H ⟨c.sl, c.ce ++ [xs]⟩ := by
    refine ⟨k1.sub, k1.ow, k1.bs, fun j t e => ?_, by simp [g2, Gh.own, k.cn], k.ln, fun m b ys e1 e2 => ?_⟩
    · have hk := k1.sl j t e
      cases t with
      | no => trivial
      | v d => obtain ⟨v, e, r⟩ := hk; exact ⟨v, e, Rep.gl le1 _ _ r⟩
      | own xs => obtain ⟨b, vs, e, q, nb, h, r⟩ := hk; exact ⟨b, vs, e, q, nb, h, Reps.gl le1 _ _ r⟩
      | obj C fs => obtain ⟨b, dx, vfs, es, e, q, h, r⟩ := hk; exact ⟨b, dx, vfs, es, e, q, h, RepF.gl le1 _ _ r⟩
      | exc fs => obtain ⟨e, dd, vfs, q, h, r⟩ := hk; exact ⟨e, dd, vfs, q, h, RepF.gl le1 _ _ r⟩
    · have e1 : (g.cl ++ [a])[m]? = some b := e1
      have e2 : (c.ce ++ [xs])[m]? = some ys := e2
      by_cases q : m < g.cl.length
      · rw [List.getElem?_append_left q] at e1
        rw [List.getElem?_append_left (by rw [← k.cn]; exact q)] at e2
        obtain ⟨h1, vs, h2, r⟩ := k1.ce m b ys e1 e2
        exact ⟨h1, vs, h2, Reps.gl le1 _ _ r⟩
      · rw [List.getElem?_append_right (by omega)] at e1
        rw [List.getElem?_append_right (by rw [← k.cn]; omega)] at e2
        have hm : m = g.cl.length := by
          by_cases w : m - g.cl.length = 0
          · omega
          · obtain ⟨j, hj⟩ := Nat.exists_eq_succ_of_ne_zero w
            rw [hj] at e1; cases e1
        subst hm
        rw [Nat.sub_self] at e1
        rw [k.cn, Nat.sub_self] at e2
        cases e1; cases e2
        exact ⟨by show (if a = a then some (Ow.ce c.ce.length) else _) = _; rw [if_pos rfl, k.cn], vs, h, Reps.gl le _ _ r⟩
  have r2 : Rep T g2 (.ref a) (.cell c.ce.length) := ⟨a, rfl, by show (g.cl ++ [a])[c.ce.length]? = some a; rw [← k.cn]; simp⟩
  exact ⟨g2, st, k2.storeV r2⟩
theorem s_cell (i : Nat) {x : Str} {e : Expr} {m : M (List D)} (C : Ctx T W X) (he : SndF T W X e m) (hi : X.N[i]? = some x := by rfl) (hx : Loc X.env.scope x := by first | exact .inl rfl | exact .inr rfl) (hs : swapsWith e (some (.Name x px)) pos.line X.env = pure false := by rfl) (hf : X.fn x = true ∨ X.env.scope.names.lookup x = some .local := by first | exact .inl rfl | exact .inr rfl) :
    SndS T W X (.Assign [.Name x px] e pos) (sCell i m) :=
  PS.imp (ps_set C.nd hi hx he hs hf) fun E σ H ⟨g, c, kk, p⟩ => ⟨g, c, kk, (PostS.bnd (R := RF T) p).imp fun v H1 ⟨xs, g1, c1, s1, k1, r1, p1⟩ => by
    obtain ⟨g2, s2, k2⟩ := held_cell (i := i) k1 r1
    exact p1 _ g2 H1 s2 k2⟩
/-- return -/
def sRet (m : M D) : M Flow := M.bnd m fun d => M.ret (.rt (.v d))
theorem s_ret {e : Expr} {m : M D} (he : SndE T W X e m) : SndS T W X (.Return (some e) pos) (sRet m) :=
  PS.imp (ps_ret he) fun E σ H ⟨g, c, kk, p⟩ => ⟨g, c, kk, (PostS.bnd (R := RV1 T) (β := V) p).imp fun v H1 ⟨d, g1, c1, s1, k1, r1, p1⟩ => p1 v σ g1 H1 Stp.refl k1 r1⟩
def sRetF (m : M (List D)) : M Flow := M.bnd m fun d => M.ret (.rt (.f d))
theorem s_retF {e : Expr} {m : M (List D)} (he : SndF T W X e m) : SndS T W X (.Return (some e) pos) (sRetF m) :=
  PS.imp (ps_ret he) fun E σ H ⟨g, c, kk, p⟩ => ⟨g, c, kk, (PostS.bnd (R := RF T) p).imp fun v H1 ⟨d, g1, c1, s1, k1, r1, p1⟩ => by
    obtain ⟨a, vs, rfl, h, r, hI, hO, nb⟩ := r1
    exact p1 a vs σ g1 H1 Stp.refl k1 nb hI (fun j => by rw [hO]; exact fun z => nomatch z) h r⟩
def sRetN : M Flow := M.ret (.rt (.v .non))
theorem s_retN : SndS T W X (.Return none pos) sRetN := PS.imp ps_retN fun E σ H ⟨g, c, kk, p⟩ => p .non σ g H Stp.refl kk rfl
/-- the slot's own list goes out -/
def sRetO (i : Nat) : M Flow := fun c => match c.sl[i]? with
  | some (.own xs) => .ok (.rt (.f xs)) c
  | some (.v d) => .ok (.rt (.v d)) c
  | _ => .stuck
theorem s_retO (i : Nat) {x : Str} {p : Pos} (hN : X.N[i]? = some x := by rfl) (hv : Vis X.env.scope x := by first | exact Or.inl rfl | exact Or.inr (Or.inl rfl) | exact Or.inr (Or.inr rfl)) (hd : (x == ("__debug__" : Str)) = false := by decide)
    (hcd : (x == ("__classdict__" : Str)) = false := by decide) : SndS T W X (.Return (some (.Name x p)) pos) (sRetO i) :=
  PS.imp (ps_ret (pv i hN hv hd hcd)) fun E σ H ⟨g, c, k, p⟩ => by
    unfold sRetO at p
    cases e : c.sl[i]? with
    | none => rw [e] at p; exact p.elim
    | some s =>
      rw [e] at p
      have q := k.sl i s e
      cases s with
      | no => exact p.elim
      | obj C fs => exact p.elim
      | exc fs => exact p.elim
      | v d =>
        obtain ⟨v, ev, r⟩ := q
        exact ⟨v, ev, p v σ g H Stp.refl k r⟩
      | own xs =>
        obtain ⟨a, vs, ev, ho, nb, h, r⟩ := q
        exact ⟨.ref a, ev, p a vs σ g H Stp.refl k nb (k.ow a (by rw [ho]; simp)).1 (fun j => by rw [ho]; exact fun z => nomatch z) h r⟩
theorem s_pass : SndS T W X (.Pass pos) nxt := PS.imp ps_pass fun E σ H ⟨g, c, k, p⟩ => p σ g H Stp.refl k
theorem s_break : SndS T W X (.Break pos) (M.ret .bk) := PS.imp ps_break fun E σ H ⟨g, c, k, p⟩ => p σ g H Stp.refl k
theorem s_continue : SndS T W X (.Continue pos) (M.ret .ct) := PS.imp ps_continue fun E σ H ⟨g, c, k, p⟩ => p σ g H Stp.refl k
theorem s_doc {x j p'} : SndS T W X (.Expr (.Constant (.str x) j p') pos) nxt := PS.imp ps_doc fun E σ H ⟨g, c, k, p⟩ => p σ g H Stp.refl k
def sDrop (m : M D) : M Flow := M.bnd m fun _ => nxt
theorem s_expr {e : Expr} {m : M D} (he : SndE T W X e m) (hs : swapsWith e none pos.line X.env = pure false := by rfl) : SndS T W X (.Expr e pos) (sDrop m) :=
  PS.imp (ps_expr he hs) fun E σ H ⟨g, c, kk, p⟩ => ⟨g, c, kk, (PostS.bnd (R := RV1 T) (β := V) p).imp fun v H1 ⟨d, g1, c1, s1, k1, r1, p1⟩ => p1 σ g1 H1 Stp.refl k1⟩
def sIf (t : M Bool) (a b : M Flow) : M Flow := M.bnd t fun c => if c = true then a else b
theorem s_ifS {t : Expr} {a b : List Stmt} {mt : M Bool} {ma mb : M Flow} (ht : SndT T W X t mt) (ha : SndSs T W X a ma) (hb : SndSs T W X b mb) : SndS T W X (.If t a b pos) (sIf mt ma mb) :=
  PS.imp (ps_if ht ha hb) fun E σ H ⟨g, c, kk, p⟩ => ⟨g, c, kk, (PostS.bnd (R := REq (α := Bool)) p).imp fun v H1 ⟨d, g1, c1, s1, k1, r1, p1⟩ => by
    subst r1
    cases v with
    | true => exact ⟨g1, c1, k1, p1⟩
    | false => exact ⟨g1, c1, k1, p1⟩⟩
/-- one after another -/
def sSeq (a b : M Flow) : M Flow := fun c => match a c with
  | .ok .nx c' => b c'
  | o => o
theorem ss_nil : SndSs T W X [] nxt := PSs.imp pss_nil fun E σ H ⟨g, c, k, p⟩ => p σ g H Stp.refl k
theorem ss_cons {s : Stmt} {ss : List Stmt} {a b : M Flow} (h1 : SndS T W X s a) (h2 : SndSs T W X ss b) : SndSs T W X (s :: ss) (sSeq a b) :=
  PSs.imp (pss_cons h1 h2) fun E σ H ⟨g, c, k, p⟩ => by
    refine ⟨g, c, k, ?_⟩
    unfold sSeq at p
    cases e : a c with
    | stuck => rw [e] at p; exact p
    | err x c' => rw [e] at p; exact p
    | ok f c' =>
      rw [e] at p
      cases f with
      | nx => exact fun σ' g' H' s k => ⟨g', c', k, PostS.from s p⟩
      | bk => exact p
      | ct => exact p
      | rt r => cases r <;> exact p
theorem ss_one {s : Stmt} {a : M Flow} (h1 : SndS T W X s a) : SndSs T W X [s] a := pss_one h1
/-- code that is not come to -/
theorem s_never {s : Stmt} : SndS T W X s (fun _ => .stuck) := PS.imp ps_never fun E σ H ⟨g, c, k, p⟩ => p
theorem ss_never {s : List Stmt} : SndSs T W X s (fun _ => .stuck) := PSs.imp pss_never fun E σ H ⟨g, c, k, p⟩ => p
/-- a, b = e, e' (names) -/
def sPar (i j : Nat) (ma : M (List D)) : M Flow := M.bnd ma fun ds c => match ds with
  | [d, e] => .ok .nx (setS j (.v e) (setS i (.v d) c))
  | _ => .stuck
theorem s_par (i j : Nat) {x y : Str} {a b : Expr} {ma : M (List D)} {py pt : Pos} {kt k2 pt2} (C : Ctx T W X) (ha : SndA T W X [a, b] ma) (hi : X.N[i]? = some x := by rfl) (hj : X.N[j]? = some y := by rfl) (hij : i ≠ j := by decide)
    (hx : X.env.scope.names.lookup x = some .local := by rfl) (hy : X.env.scope.names.lookup y = some .local := by rfl)
    (hw : swappedStores [.Tuple [.Name x px, .Name y py] kt pt] (.Tuple [a, b] k2 pt2) X.env = pure (some [x, y]) := by rfl)
    (hs : swapsWithSole [.Tuple [.Name x px, .Name y py] kt pt] (.Tuple [a, b] k2 pt2) pos.line X.env = pure false := by rfl) :
    SndS T W X (.Assign [.Tuple [.Name x px, .Name y py] kt pt] (.Tuple [a, b] k2 pt2) pos) (sPar i j ma) :=
  PS.imp (ps_par C.calm C.nd hi hj hij hx hy ha hw hs) fun E σ H ⟨g, c, kk, p⟩ => ⟨g, c, kk, (PostS.bnd (R := RVs T) (β := List V) p).imp fun vs H1 ⟨ds, g1, c1, s1, k1, r1, p1⟩ => by
    match ds, r1, p1 with
    | [d, e], ⟨v, vr, e1, q1, w, vr2, e2, q2, e3⟩, p1 =>
      have e3 : vr2 = [] := e3
      subst e1 e2 e3
      exact ⟨v, w, rfl, p1 _ g1 H1 Stp.refl ((k1.storeV q1).storeV q2)⟩
    | [], _, p1 => exact p1.elim
    | [_], _, p1 => exact p1.elim
    | _ :: _ :: _ :: _, _, p1 => exact p1.elim⟩
end
end TL

end
section
set_option Elab.async false
set_option linter.all false
set_option maxRecDepth 100000
/-! Tl15: walks, for, while. -/
namespace TL
open PySem L2

/-- what a loop walks: ds, one after another, whatever the body makes -/
structure WalkD (T : Tab) (J : It) (ds : List D) (g0 : Gh) : Prop where
  ex : ∃ Y, L2.Walk J ds.length (fun H => Ext g0.I H) Y ∧ ∀ g σ H c i x H' d, GL g0 g → Held T g σ H c → ds[i]? = some d → Y i H x H' → ∃ g', StpE g H g' H' ∧ Held T g' σ H' c ∧ Rep T g' x d
theorem WalkD.gl {T : Tab} {J : It} {ds : List D} {g0 g1 : Gh} (w : WalkD T J ds g0) (h : GL g0 g1) : WalkD T J ds g1 := by
  obtain ⟨Y, w, y⟩ := w.ex
  refine ⟨Y, w.mono (fun H e => h.I.trans e) (fun i H x H' _ _ y => y), fun g σ H c i x H' d hg => y g σ H c i x H' d ⟨h.I.trans hg.I, ?_⟩⟩
  obtain ⟨m1, e1⟩ := h.cl
  obtain ⟨m2, e2⟩ := hg.cl
  exact ⟨m1 ++ m2, by rw [e2, e1, List.append_assoc]⟩
abbrev RW (T : Tab) : Gh → Hp → It → List D → Prop := fun g _ J ds => WalkD T J ds g
abbrev SndI (T : Tab) (W : WX) (X : Cx) (tg e : Expr) (m : M (List D)) : Prop := PI X tg e (rd T (RW T) W m)
section
variable {T : Tab} {W : WX} {X : Cx} {tg : Expr} {pos p : Pos} {g : Gh} {σ : L2.St} {H : Hp} {c : Cfg}
theorem walkD_list {a : Addr} {vs : List V} {ds : List D} (h : g.I a = some (.lst vs)) (r : Reps T g vs ds) : WalkD T (Itl T.K a) ds g := by
  refine ⟨YAt vs, ?_, fun g2 σ H c i x H' d hg k e y => ?_⟩
  · have w : L2.Walk (Itl T.K a) vs.length (fun H => SqL T.K H a vs) (YAt vs) := walk_list
    rw [r.length] at w
    exact w.mono (fun H e => SqL.of (e _ _ h)) fun _ _ _ _ _ _ y => y
  · obtain ⟨rfl, e2⟩ := y
    obtain ⟨v, e3, r3⟩ := r.at e
    rw [e3] at e2; cases e2
    exact ⟨g2, StpE.refl, k, Rep.gl hg _ _ r3⟩
theorem walkD_tup {a : Addr} {vs : List V} {ds : List D} (h : SqT T.K g.I a vs) (r : Reps T g vs ds) : WalkD T (Itt T.K a) ds g := by
  refine ⟨YAt vs, ?_, fun g2 σ H c i x H' d hg k e y => ?_⟩
  · have w : L2.Walk (Itt T.K a) vs.length (fun H => SqT T.K H a vs) (YAt vs) := walk_tup
    rw [r.length] at w
    exact w.mono (fun H e => L2.SqT.ext h e) fun _ _ _ _ _ _ y => y
  · obtain ⟨rfl, e2⟩ := y
    obtain ⟨v, e3, r3⟩ := r.at e
    rw [e3] at e2; cases e2
    exact ⟨g2, StpE.refl, k, Rep.gl hg _ _ r3⟩
/-- the signs of a text -/
def signs (z : Str) : List D := z.cps.toList.map fun c => .str ⟨#[c]⟩
theorem walkD_str {z : Str} : WalkD T (Its z) (signs z) g := by
  refine ⟨fun i H v H' => H' = H ∧ ∃ c, z.cps[i]? = some c ∧ v = .str ⟨#[c]⟩, ?_, fun g2 σ H c i x H' d hg k e y => ?_⟩
  · have e : (signs z).length = z.cps.size := by simp [signs]
    rw [e]; exact (walk_str (z := z)).mono (fun _ _ => trivial) fun _ _ _ _ _ _ y => y
  · obtain ⟨rfl, ch, e2, rfl⟩ := y
    refine ⟨g2, StpE.refl, k, ?_⟩
    have e3 : (signs z)[i]? = some (.str ⟨#[ch]⟩) := by simp [signs, e2]
    rw [e3] at e; cases e
    rfl
def wOf : D → Option (List D)
  | .lst xs => some xs
  | .tup xs => some xs
  | .str z => some (signs z)
  | _ => none
def wV (m : M D) : M (List D) := M.bnd m fun d => M.opt (wOf d)
theorem i_val {e : Expr} {m : M D} (C : Ctx T W X) (he : SndE T W X e m) : SndI T W X tg e (wV m) := by
  refine ⟨fun pins s σ H R I ⟨g, c, k, p⟩ => ?_⟩
  unfold wV M.bnd at p
  cases em : m c with
  | stuck => rw [em] at p; exact p.elim
  | err x c1 =>
    rw [em] at p
    exact (pi_list he).run pins s σ H R I ⟨g, c, k, by rw [em]; exact p⟩
  | ok d c1 =>
    rw [em] at p
    cases d with
    | lst xs =>
      refine (pi_list he).run pins s σ H R I ⟨g, c, k, ?_⟩
      rw [em]
      intro v g1 H1 s1 k1 r1
      obtain ⟨a, vs, e, h, r⟩ := r1
      exact ⟨a, e, ⟨vs, SqL.of (k1.sub _ _ h)⟩, p _ g1 H1 s1 k1 (by rw [C.K]; exact walkD_list h r)⟩
    | tup xs =>
      refine (pi_tup he).run pins s σ H R I ⟨g, c, k, ?_⟩
      rw [em]
      intro v g1 H1 s1 k1 r1
      obtain ⟨a, vs, e, h, r⟩ := r1
      exact ⟨a, e, ⟨vs, C.sqt h k1.sub⟩, p _ g1 H1 s1 k1 (by rw [C.K]; exact walkD_tup h r)⟩
    | str z =>
      refine (pi_str he).run pins s σ H R I ⟨g, c, k, ?_⟩
      rw [em]
      intro v g1 H1 s1 k1 r1
      have r1 : v = .str z := r1
      exact ⟨z, r1, p _ g1 H1 s1 k1 walkD_str⟩
    | _ => exact p.elim
/-! range -/
def small62 (i : Int) : Bool := decide (-(2 ^ 62) ≤ i) && decide (i < 2 ^ 62)
theorem small62_ok {i : Int} (h : small62 i = true) : -(2 ^ 62) ≤ i ∧ i < 2 ^ 62 := by
  obtain ⟨h1, h2⟩ := Bool.and_eq_true_iff.mp h
  exact ⟨of_decide_eq_true h1, of_decide_eq_true h2⟩
def rng (lo : Int) (n : Nat) : List D := (List.range n).map fun (k : Nat) => .int (lo + k)
def rngD (lo : Int) (n : Nat) : List D := (List.range n).map fun (k : Nat) => .int (lo - k)
theorem walkD_rng {lo : Int} {n : Nat} : WalkD T (Itr lo n) (rng lo n) g := by
  refine ⟨YFn fun i => .int (lo + i), ?_, fun g2 σ H c i x H' d hg k e y => ?_⟩
  · have e : (rng lo n).length = n := by simp [rng]
    rw [e]
    exact (walk_range (lo := lo) (n := n)).mono (fun _ _ => trivial) fun _ _ _ _ _ _ y => y
  · obtain ⟨rfl, rfl⟩ := y
    refine ⟨g2, StpE.refl, k, ?_⟩
    by_cases hi : i < n
    · simp [rng, hi] at e
      subst e; rfl
    · simp [rng, hi] at e
theorem walkD_rngC {lo : Int} {n : Nat} : WalkD T (Itc lo (-1) n) (rngD lo n) g := by
  refine ⟨YFn fun i => .int (lo + (i : Nat) * (-1)), ?_, fun g2 σ H c i x H' d hg k e y => ?_⟩
  · have e : (rngD lo n).length = n := by simp [rngD]
    rw [e]
    exact (walk_rangeC (lo := lo) (c := -1) (n := n)).mono (fun _ _ => trivial) fun _ _ _ _ _ _ y => y
  · obtain ⟨rfl, rfl⟩ := y
    refine ⟨g2, StpE.refl, k, ?_⟩
    by_cases hi : i < n
    · simp [rngD, hi] at e
      subst e
      show V.int _ = V.int _
      congr 1
      omega
    · simp [rngD, hi] at e
def rngP1 (ds : List D) : Option (List D) := match intL ds with
  | some [j] => if small62 j then some (rng 0 j.toNat) else none
  | _ => none
def rngP2 (ds : List D) : Option (List D) := match intL ds with
  | some [i, j] => if small62 i && small62 j then some (rng i (j - i).toNat) else none
  | _ => none
def rngP3 (ds : List D) : Option (List D) := match intL ds with
  | some [i, j, k] => if small62 i && (small62 j && decide (k = -1)) then some (rngD i (i - j).toNat) else none
  | _ => none
theorem i_range1 {a : Expr} {ma : M (List D)} (C : Ctx T W X) (ha : SndA T W X [a] ma) (hm : T.mg "range" = none) (hg : Gl X "range" := by rfl) (hs : starEach [a] X.env = [(false, eval a X.env)] := by rfl) :
    SndI T W X tg (.Call (.Name "range" p) [a] [] pos) (M.bnd ma fun ds => M.opt (rngP1 ds)) := by
  refine ⟨fun pins s σ H R I ⟨g, c, k, q⟩ => (pi_range1 hg (by rw [C.mg]; exact hm) ha hs).run pins s σ H R I ⟨g, c, k, (Post.bnd (R := RVs T) q).imp fun vs H1 ⟨ds, g1, c1, s1, k1, r1, q1⟩ => ?_⟩⟩
  unfold rngP1 at q1
  split at q1
  · rename_i j e
    have ev := intL_ok e r1
    subst ev
    by_cases z : small62 j = true
    · rw [if_pos z] at q1
      obtain ⟨z1, z2⟩ := small62_ok z
      exact ⟨j, rfl, z1, z2, Post.here (R := RW T) k1 walkD_rng q1⟩
    · rw [if_neg z] at q1; exact q1.elim
  · exact q1.elim
theorem i_range2 {a b : Expr} {ma : M (List D)} (C : Ctx T W X) (ha : SndA T W X [a, b] ma) (hm : T.mg "range" = none) (hg : Gl X "range" := by rfl) (hs : starEach [a, b] X.env = [(false, eval a X.env), (false, eval b X.env)] := by rfl) (hs2 : starEach [b] X.env = [(false, eval b X.env)] := by rfl) :
    SndI T W X tg (.Call (.Name "range" p) [a, b] [] pos) (M.bnd ma fun ds => M.opt (rngP2 ds)) := by
  refine ⟨fun pins s σ H R I ⟨g, c, k, q⟩ => (pi_range2 hg (by rw [C.mg]; exact hm) ha hs hs2).run pins s σ H R I ⟨g, c, k, (Post.bnd (R := RVs T) q).imp fun vs H1 ⟨ds, g1, c1, s1, k1, r1, q1⟩ => ?_⟩⟩
  unfold rngP2 at q1
  split at q1
  · rename_i i j e
    have ev := intL_ok e r1
    subst ev
    by_cases z : (small62 i && small62 j) = true
    · rw [if_pos z] at q1
      obtain ⟨za, zb⟩ := Bool.and_eq_true_iff.mp z
      obtain ⟨z1, z2⟩ := small62_ok za
      obtain ⟨z3, z4⟩ := small62_ok zb
      exact ⟨i, j, rfl, ⟨z1, z2, z3, z4⟩, Post.here (R := RW T) k1 walkD_rng q1⟩
    · rw [if_neg z] at q1; exact q1.elim
  · exact q1.elim
theorem i_range3 {a b d : Expr} {ma : M (List D)} (C : Ctx T W X) (ha : SndA T W X [a, b, d] ma) (hm : T.mg "range" = none) (hg : Gl X "range" := by rfl) (hs : starEach [a, b, d] X.env = (false, eval a X.env) :: starEach [b, d] X.env := by rfl) (hpl : (backTo pos (starEach [b, d] X.env)).any (·.1) = false := by rfl) :
    SndI T W X tg (.Call (.Name "range" p) [a, b, d] [] pos) (M.bnd ma fun ds => M.opt (rngP3 ds)) := by
  refine ⟨fun pins s σ H R I ⟨g, c, k, q⟩ => (pi_range3 hg (by rw [C.mg]; exact hm) ha hs hpl).run pins s σ H R I ⟨g, c, k, (Post.bnd (R := RVs T) q).imp fun vs H1 ⟨ds, g1, c1, s1, k1, r1, q1⟩ => ?_⟩⟩
  unfold rngP3 at q1
  split at q1
  · rename_i i j m e
    have ev := intL_ok e r1
    subst ev
    by_cases z : (small62 i && (small62 j && decide (m = -1))) = true
    · rw [if_pos z] at q1
      obtain ⟨za, zb⟩ := Bool.and_eq_true_iff.mp z
      obtain ⟨zb, zc⟩ := Bool.and_eq_true_iff.mp zb
      obtain ⟨z1, z2⟩ := small62_ok za
      obtain ⟨z3, z4⟩ := small62_ok zb
      have zc := of_decide_eq_true zc
      subst zc
      exact ⟨i, j, -1, _, rfl, RgC.neg z1 z2 z3 z4, Post.here (R := RW T) k1 walkD_rngC q1⟩
    · rw [if_neg z] at q1; exact q1.elim
  · exact q1.elim

/-! pairs: zip, enumerate -/
def pairs : List D → List D → List D
  | x :: xs, y :: ys => .tup [x, y] :: pairs xs ys
  | _, _ => []
theorem pairs_len : ∀ (xs ys : List D), (pairs xs ys).length = min xs.length ys.length
  | [], ys => by simp [pairs]
  | x :: xs, [] => by simp [pairs]
  | x :: xs, y :: ys => by simp [pairs, pairs_len xs ys]
theorem pairs_at : ∀ {xs ys : List D} {i : Nat} {d : D}, (pairs xs ys)[i]? = some d → ∃ x y, d = .tup [x, y] ∧ xs[i]? = some x ∧ ys[i]? = some y
  | [], ys, i, d, e => by simp [pairs] at e
  | x :: xs, [], i, d, e => by simp [pairs] at e
  | x :: xs, y :: ys, 0, d, e => by cases (show some (D.tup [x, y]) = some d from e); exact ⟨x, y, rfl, rfl, rfl⟩
  | x :: xs, y :: ys, i + 1, d, e => pairs_at (xs := xs) (ys := ys) (i := i) e
theorem pair_step {Tt : Addr} {x y : V} {dx dy : D} (k : Held T g σ H c) (n : H Tt = none) (r1 : Rep T g x dx) (r2 : Rep T g y dy) : ∃ g', StpE g H g' (upd H Tt (.tup [x, y])) ∧ Held T g' σ (upd H Tt (.tup [x, y])) c ∧ Rep T g' (.ref Tt) (.tup [dx, dy]) := by
  obtain ⟨x1, x2, x3⟩ := new_tup k n (show Reps T g [x, y] [dx, dy] from ⟨x, [y], rfl, r1, y, [], rfl, r2, rfl⟩)
  exact ⟨_, x1, x2, x3⟩
theorem walkD_zip {a b : Addr} {vs ws : List V} {ds es : List D} (h : g.I a = some (.lst vs)) (r : Reps T g vs ds) (h' : g.I b = some (.lst ws)) (r' : Reps T g ws es) : WalkD T (Itz T.K a b) (pairs ds es) g := by
  refine ⟨YPair (fun i => vs[i]?) (fun i => ws[i]?), ?_, fun g2 σ H c i x H' d hg k e y => ?_⟩
  · have w : L2.Walk (Itz T.K a b) (pairs ds es).length (fun H => SqL T.K H a vs ∧ SqL T.K H b ws) (YPair (fun i => vs[i]?) (fun i => ws[i]?)) := walk_zip (by rw [pairs_len, r.length, r'.length])
    exact w.mono (fun H e => ⟨SqL.of (e _ _ h), SqL.of (e _ _ h')⟩) fun _ _ _ _ _ _ y => y
  · obtain ⟨Tt, v, w, rfl, n, rfl, e1, e2⟩ := y
    obtain ⟨dx, dy, rfl, f1, f2⟩ := pairs_at e
    obtain ⟨v', e3, r3⟩ := r.at f1
    obtain ⟨w', e4, r4⟩ := r'.at f2
    have e1 : vs[i]? = some v := e1
    have e2 : ws[i]? = some w := e2
    rw [e3] at e1; cases e1
    rw [e4] at e2; cases e2
    exact pair_step k n (Rep.gl hg _ _ r3) (Rep.gl hg _ _ r4)
theorem walk_zipT {K : PySem.W.Frag} {a b : Addr} {xs ys : List V} {n : Nat} (hn : n = min xs.length ys.length) : L2.Walk (RZ.ItzT K a b) n (fun H => SqT K H a xs ∧ SqT K H b ys) (YPair (fun i => xs[i]?) (fun i => ys[i]?)) := by
  subst hn
  refine ⟨fun i _ hi q => ?_, fun _ q => ⟨xs, ys, q.1, q.2, by omega⟩, fun i H v H' _ q y => ?_⟩
  · have h1 : i < xs.length := by omega
    have h2 : i < ys.length := by omega
    exact ⟨xs, ys, xs[i], ys[i], q.1, q.2, by simp [h1], by simp [h2]⟩
  · obtain ⟨Tt, x, z, h1, h2, h3, h4, h5⟩ := y
    exact ⟨Tt, x, z, h1, h2, h3, h4 xs q.1, h5 ys q.2⟩
theorem walkD_zipT {a b : Addr} {vs ws : List V} {ds es : List D} (h : SqT T.K g.I a vs) (r : Reps T g vs ds) (h' : SqT T.K g.I b ws) (r' : Reps T g ws es) : WalkD T (RZ.ItzT T.K a b) (pairs ds es) g := by
  refine ⟨YPair (fun i => vs[i]?) (fun i => ws[i]?), ?_, fun g2 σ H c i x H' d hg k e y => ?_⟩
  · have w : L2.Walk (RZ.ItzT T.K a b) (pairs ds es).length (fun H => SqT T.K H a vs ∧ SqT T.K H b ws) (YPair (fun i => vs[i]?) (fun i => ws[i]?)) := walk_zipT (by rw [pairs_len, r.length, r'.length])
    exact w.mono (fun H e => ⟨L2.SqT.ext h e, L2.SqT.ext h' e⟩) fun _ _ _ _ _ _ y => y
  · obtain ⟨Tt, v, w, rfl, n, rfl, e1, e2⟩ := y
    obtain ⟨dx, dy, rfl, f1, f2⟩ := pairs_at e
    obtain ⟨v', e3, r3⟩ := r.at f1
    obtain ⟨w', e4, r4⟩ := r'.at f2
    have e1 : vs[i]? = some v := e1
    have e2 : ws[i]? = some w := e2
    rw [e3] at e1; cases e1
    rw [e4] at e2; cases e2
    exact pair_step k n (Rep.gl hg _ _ r3) (Rep.gl hg _ _ r4)
def zipP : List D → Option (List D)
  | [.lst xs, .lst ys] => some (pairs xs ys)
  | [.tup xs, .tup ys] => some (pairs xs ys)
  | _ => none
theorem zipP_some {ds rs : List D} (h : zipP ds = some rs) : (∃ xs ys, ds = [.lst xs, .lst ys] ∧ rs = pairs xs ys) ∨ ∃ xs ys, ds = [.tup xs, .tup ys] ∧ rs = pairs xs ys := by
  unfold zipP at h
  split at h
  · cases h; exact .inl ⟨_, _, rfl, rfl⟩
  · cases h; exact .inr ⟨_, _, rfl, rfl⟩
  · cases h
theorem i_zip {e e2 : Expr} {ma : M (List D)} {elts : List Expr} {kk : Nat} {tpos : Pos} (C : Ctx T W X) (ha : SndA T W X [e, e2] ma) (hm : T.mg "zip" = none) (hg : Gl X "zip" := by rfl) (hs : starEach [e, e2] X.env = (false, eval e X.env) :: starEach [e2] X.env := by rfl) (hpl : (backTo pos (starEach [e2] X.env)).any (·.1) = false := by rfl) :
    SndI T W X (.Tuple elts kk tpos) (.Call (.Name "zip" p) [e, e2] [] pos) (M.bnd ma fun ds => M.opt (zipP ds)) := by
  refine ⟨fun pins s σ H R I ⟨g, c, k, q⟩ => (RZ.pi_zipA hg (by rw [C.mg]; exact hm) ha hs hpl).run pins s σ H R I ⟨g, c, k, (Post.bnd (R := RVs T) q).imp fun vs H1 ⟨ds, g1, c1, s1, k1, r1, q1⟩ => ?_⟩⟩
  cases ez : zipP ds with
  | none => rw [ez] at q1; exact q1.elim
  | some rs =>
    rw [ez] at q1
    rw [C.K]
    rcases zipP_some ez with ⟨xs, ys, rfl, rfl⟩ | ⟨xs, ys, rfl, rfl⟩
    · obtain ⟨v, vr, e1, ⟨a, va, rfl, h1, r1⟩, w, vr2, e2, ⟨b, vb, rfl, h2, r2⟩, e3⟩ := r1
      have e3 : vr2 = [] := e3
      subst e1 e2 e3
      exact ⟨a, b, va, vb, rfl, .inl ⟨SqL.of (k1.sub _ _ h1), SqL.of (k1.sub _ _ h2), Post.here (R := RW T) k1 (walkD_zip h1 r1 h2 r2) q1⟩⟩
    · obtain ⟨v, vr, e1, ⟨a, va, rfl, h1, r1⟩, w, vr2, e2, ⟨b, vb, rfl, h2, r2⟩, e3⟩ := r1
      have e3 : vr2 = [] := e3
      subst e1 e2 e3
      exact ⟨a, b, va, vb, rfl, .inr ⟨L2.SqT.ext h1 k1.sub, L2.SqT.ext h2 k1.sub, Post.here (R := RW T) k1 (walkD_zipT h1 r1 h2 r2) q1⟩⟩
def enumF : Nat → List D → List D
  | _, [] => []
  | i, x :: xs => .tup [.int i, x] :: enumF (i + 1) xs
theorem enum_len : ∀ (n : Nat) (xs : List D), (enumF n xs).length = xs.length
  | n, [] => rfl
  | n, x :: xs => by simp [enumF, enum_len (n + 1) xs]
theorem enum_at : ∀ {xs : List D} {n i : Nat} {d : D}, (enumF n xs)[i]? = some d → ∃ x, d = .tup [.int ((n + i : Nat) : Int), x] ∧ xs[i]? = some x
  | [], n, i, d, e => by simp [enumF] at e
  | x :: xs, n, 0, d, e => by cases (show some (D.tup [.int n, x]) = some d from e); exact ⟨x, rfl, rfl⟩
  | x :: xs, n, i + 1, d, e => by
    obtain ⟨y, h1, h2⟩ := enum_at (xs := xs) (n := n + 1) (i := i) e
    exact ⟨y, by rw [h1, show n + 1 + i = n + (i + 1) by omega], h2⟩
end
end TL

end
section
set_option Elab.async false
set_option linter.all false
set_option maxRecDepth 100000
/-! Tl16: enumerate of a tuple. -/
namespace TL
open PySem PySem.Spec L2
set_option maxHeartbeats 1000000 in
theorem meets_enumerate_newT (l : Addr) (items : Array Value) :
    Meets (Builtin.«enumerate.__new__» ⟨[.type "enumerate", .ref l], []⟩) (fun _ R s => s.heap.IsTuple l items ∧
      R (.ok (.ret (.ref (s.heap.push { cls := .type "tuple_iterator", data := .fields #[.ref l, .int 0 0] }).objs.size)))
        { s with heap := (s.heap.push { cls := .type "tuple_iterator", data := .fields #[.ref l, .int 0 0] }).push { cls := .type "enumerate", data := .fields #[.none, .bool false, .ref s.heap.objs.size, rawInt 0, .none, .none] } }) :=
  .of_wp fun prog w A R s h => by
    obtain ⟨hp, g, d, tk, os⟩ := s; obtain ⟨hL, h⟩ := h
    have hsub := sub_enumerate
    wp_walk
    refine wpAny_stack_any fun st => wpAny_pure ?_
    split
    · rename_i c _ _ _ _ _
      cases (c == Value.type "enumerate")
      · wp_walk using wpAny_pyIter_tuple hL
        exact ⟨_, rfl, h⟩
      · wp_walk using wpAny_pyIter_tuple hL
        exact ⟨_, rfl, h⟩
    · wp_walk using wpAny_pyIter_tuple hL
      exact ⟨_, rfl, h⟩
section
variable {prog : Program} {w : World} {A : Around} {E : Value → Shared → Prop} {s : Shared}
theorem call_enumerate_tuple {l : Addr} {items : Array Value} {Q : Value → Shared → Prop} (hL : s.heap.IsTuple l items)
    (h : ∀ h', IsEnum h' (s.heap.objs.size + 1) s.heap.objs.size 0 .none → h'.IsTupleIter s.heap.objs.size l 0 → h'.objs.size = s.heap.objs.size + 2 →
      (∀ b o, s.heap.get? b = some o → h'.get? b = some o) → Q (.ref (s.heap.objs.size + 1)) { s with heap := h' }) :
    wpAny (model prog w) A (call (.type "enumerate") [.ref l]) Q E s := by
  refine callType_new F.called_enumerate (by decide) (F.typeCall_enumerate_1 _) (F.newCall_enumerate_1 _) (fun obj => F.args_object_init_2 obj _) F.entry_enumerate_new
    (meets_enumerate_newT l items) ⟨hL, ?_⟩
  have hz : (s.heap.push { cls := .type "tuple_iterator", data := .fields #[.ref l, .int 0 0] }).objs.size = s.heap.objs.size + 1 := Heap.size_push ..
  show _ ∧ _
  rw [hz]
  have he : IsEnum ((s.heap.push { cls := .type "tuple_iterator", data := .fields #[.ref l, .int 0 0] }).push
      { cls := .type "enumerate", data := .fields #[.none, .bool false, .ref s.heap.objs.size, rawInt 0, .none, .none] }) (s.heap.objs.size + 1) s.heap.objs.size 0 .none := by
    have := Heap.get?_push_size (s.heap.push { cls := .type "tuple_iterator", data := .fields #[.ref l, .int 0 0] })
      (o := { cls := .type "enumerate", data := .fields #[.none, .bool false, .ref s.heap.objs.size, rawInt 0, .none, .none] }) rfl
    rw [hz] at this; exact this
  refine ⟨⟨_, he, rfl⟩, h _ he ⟨_, Heap.get?_push_of_some _ (Heap.get?_push_size _ rfl), rfl, rfl⟩ (by rw [Heap.size_push, hz]) fun b o x => Heap.get?_push_of_some _ (Heap.get?_push_of_some _ x)⟩
end
open PyProof.Rows in
/-- the tuple at a, each item in a new pair -/
def IteT (K : PySem.W.Frag) (a : Addr) : It :=
  ⟨fun i H => ∃ (xs : List V) (x : V), SqT K H a xs ∧ xs[i]? = some x, fun i H v H' => ∃ Tt x, v = .ref Tt ∧ H Tt = none ∧ H' = L2.upd H Tt (.tup [.int (i : Nat), x]) ∧ ∀ xs, SqT K H a xs → xs[i]? = some x, fun i H => ∃ xs : List V, SqT K H a xs ∧ xs.length ≤ i⟩
theorem turn_enumT {P : Program} {w : World} {K : PySem.W.Frag} {elts : List Expr} {kk : Nat} {tpos : Pos} (a e it : Addr) (hai : a ≠ it) (hea : e ≠ a) :
    Turn P w K (.Tuple elts kk tpos) (IteT K a) [e, it] e (fun i h => (∃ old, IsEnum h e it ((i : Nat) : Int) old) ∧ h.IsTupleIter it a i ∧ e ≠ it) where
  mem := by simp
  obj := fun i h st b hb => by
    obtain ⟨⟨old, he⟩, ⟨o, ho, hc, hd⟩, _⟩ := st
    have e' : b = e ∨ b = it := by simpa using hb
    rcases e' with z | z
    · rw [z]; exact ⟨_, he, fun v q => nomatch q⟩
    · rw [z]; exact ⟨o, ho, fun v q => by rw [hd] at q; cases q⟩
  keep := fun i h h' st k => let ⟨⟨old, he⟩, hi, hne⟩ := st; ⟨⟨old, k e (by simp) _ he⟩, hi.at fun o q => k it (by simp) o q, hne⟩
  item := by
    intro X hP hw hK hc i pins s σ H E I hf st hg
    subst hP hw hK
    obtain ⟨⟨old, he⟩, hit, hne⟩ := st
    obtain ⟨xs, x, hq, hx⟩ := hg
    obtain ⟨its, rv, p, hz⟩ := I.tuple hq
    have p : s.heap.IsTuple a its.toArray := p
    obtain ⟨u, hu, ru⟩ := rv.get hx
    have hel : e < s.heap.objs.size := Heap.lt_size he
    have hil : it < s.heap.objs.size := by obtain ⟨_, q, _⟩ := hit; exact Heap.lt_size q
    have hil2 : i < its.length := by
      rcases Nat.lt_or_ge i its.length with z | z
      · exact z
      · rw [List.getElem?_eq_none z] at hu; cases hu
    refine wpAny_pyNext_enum_itemD (Draws.tuple (prog := X.prog) (w := X.w) (A := X.A.in1) (I.ok.hd hc) it a hai its.toArray) he ⟨hit, p⟩ (by simpa using hil2) hne (by simp [hne, hea]) fun y h' tk hy ho hst' hT hsz hk => ?_
    have yu : y = u := by
      have hy : its.toArray[i]? = some y := hy
      rw [List.getElem?_toArray, hu] at hy
      exact (Option.some.inj hy).symm
    subst yu
    refine ⟨_, rfl, wpAny_letOwnedTupleGo_enum (s := { s with heap := h', toks := tk + 1 }) ho fun h'' he' sb => ?_⟩
    have hT2 : h''.get? s.heap.objs.size = some { cls := .type "tuple", data := .seq #[.int i tk, y] } := (sb.2 _ (Nat.ne_of_gt hel)).trans hT
    have new : ObjOk X.prog X.w (L2.upd H s.heap.objs.size (.tup [.int (i : Nat), x])) h'' s.heap.objs.size (.tup [.int (i : Nat), x]) :=
      ⟨by show 2 ≤ sizeLine; decide, [.int i tk, y], .cons ⟨_, rfl⟩ (.cons ru .nil), ⟨_, hT2, rfl, _, rfl⟩⟩
    have I1 : Inv X pins σ (L2.upd H s.heap.objs.size (.tup [.int (i : Nat), x])) { s with heap := h'', toks := tk + 1 } :=
      I.turnedNew (ch := [e, it]) (fun b ob hb q => (sb.2 b (fun z => hb (by simp [z]))).trans (hk b ob (fun z => hb (by simp [z])) (fun z => hb (by simp [z])) q)) hf (Nat.le_refl _) new
    refine ⟨.ref s.heap.objs.size, _, I1, rfl, ⟨_, x, rfl, I.hok.fresh (Nat.le_refl _), rfl, fun ys hy => by rw [I.tuple_inj hy hq]; exact hx⟩, ⟨⟨y, ?_⟩, hst'.1.at fun o q => (sb.2 it (Ne.symm hne)).trans q, hne⟩, fun b hb => ?_⟩
    · have e1 : ((i + 1 : Nat) : Int) = (i : Int) + 1 := by omega
      rw [e1]; exact he'
    · have hb' : b < s.heap.objs.size := by
        have e' : b = e ∨ b = it := by simpa using hb
        rcases e' with z | z
        · rw [z]; exact hel
        · rw [z]; exact hil
      rw [upd_ne (Nat.ne_of_lt hb')]
      exact (hf b hb).1
  done := by
    intro X hP hw hK hc i pins s σ H E I hf st hg
    subst hP hw hK
    obtain ⟨⟨old, he⟩, hit, hne⟩ := st
    obtain ⟨xs, hq, hx⟩ := hg
    obtain ⟨its, rv, p, hz⟩ := I.tuple hq
    have p : s.heap.IsTuple a its.toArray := p
    obtain ⟨f0, f1, f2, f3, f4, f5⟩ := hf it (by simp)
    have hl := rv.length
    have hT : s.TypeIs (.ref e) "enumerate" := ⟨_, he, rfl⟩
    unfold pyNext
    refine wpAny_bind (wpAny_attempt (wpAny_callSpecial?_slot (name := Str.ofString "__next__") hT F.slot_enumerate_next
      (wpAny_call_entry F.slot_enumerate_next hT F.entry_enumerate_next ?_ (F.args_enumerate_next_1 _))))
    show wpAny _ _ (field (.ref e) 2 >>= _) _ _ _
    refine wpAny_bind (wpAny_field he rfl (x := .ref it) rfl ?_)
    refine wpAny_bind (RZ.nextOf_tuple_end (I.ok.hd hc) hit p (by simp; omega) fun h' x he' hx' => ?_)
    obtain ⟨o, ho, hcl⟩ := hx'
    refine wpAny_bind (wpAny_isInstance (T := "StopIteration") (b := true) ⟨o, ho, hcl⟩ isSubtype_stop ?_)
    exact wpAny_pure ⟨rfl, I.turned (t' := s.toks) (fun b o hb q => he' b o hb q) f0 f1 f3 f4 f5⟩
  self := fun A i s Q E st h => let ⟨⟨_, he⟩, _⟩ := st; wpAny_pyIter_enum he h
def iEnumA (K : PySem.W.Frag) (ta : TA) : TI := fun σ H R => ta σ H fun vs H1 => ∃ a xs, vs = [.ref a] ∧ ((SqL K H1 a xs ∧ R (Ite K a) H1) ∨ (SqT K H1 a xs ∧ R (IteT K a) H1))
theorem pi_enumA {X : Cx} {e : Expr} {ta : TA} {p pos tpos : Pos} {elts : List Expr} {kk : Nat} (hg : Gl X "enumerate") (hm : X.mg "enumerate" = none) (ha : PA X [e] ta) (hs : starEach [e] X.env = [(false, eval e X.env)] := by rfl) :
    PI X (.Tuple elts kk tpos) (.Call (.Name "enumerate" p) [e] [] pos) (iEnumA X.K ta) := by
  refine ⟨fun pins s σ H R I h => ?_⟩
  refine PyProof.Rows.Call_ (ld_blt I hg hm PyProof.Rows.boot_enumerate (PyProof.Rows.callWith_type1 (thn (ha.run pos pins s σ H _ I h) fun us s1 ⟨vs, H1, I1, r1, q1⟩ => ?_) hs rfl))
  obtain ⟨a, xs, ex, q1⟩ := q1
  subst ex
  cases r1 with
  | cons r rr =>
    cases rr
    cases r
    have fp : ∀ b ∈ [s1.heap.objs.size + 1, s1.heap.objs.size], FpOk X pins H1 b := fun b hb => by
      have e' : b = s1.heap.objs.size + 1 ∨ b = s1.heap.objs.size := by simpa using hb
      have hle : s1.heap.objs.size ≤ b := by
        rcases e' with z | z
        · rw [z]; exact Nat.le_add_right _ _
        · rw [z]; exact Nat.le_refl _
      exact I1.fpOk hle (I1.hok.fresh hle)
    rcases q1 with ⟨hq, q⟩ | ⟨hq, q⟩
    · obtain ⟨its, rv, p', hz⟩ := I1.list hq
      refine call_enumerate_list p'.isList fun h' he hit hsz hk => wpAny_pyIter_enum he ?_
      have I2 : Inv X pins σ H1 { s1 with heap := h' } := I1.kept (t' := s1.toks) hk
      exact ⟨s1.heap.objs.size + 1, [s1.heap.objs.size + 1, s1.heap.objs.size], _, _, H1, rfl, I2, turn_enum a (s1.heap.objs.size + 1) s1.heap.objs.size, ⟨⟨.none, he⟩, hit, Nat.succ_ne_self _⟩, fp, q⟩
    · obtain ⟨its, rv, p', hz⟩ := I1.tuple hq
      obtain ⟨ob, hob, _⟩ := id p'
      have la := Heap.lt_size hob
      refine call_enumerate_tuple p' fun h' he hit hsz hk => wpAny_pyIter_enum he ?_
      have I2 : Inv X pins σ H1 { s1 with heap := h' } := I1.kept (t' := s1.toks) hk
      exact ⟨s1.heap.objs.size + 1, [s1.heap.objs.size + 1, s1.heap.objs.size], _, _, H1, rfl, I2, turn_enumT a (s1.heap.objs.size + 1) s1.heap.objs.size (Nat.ne_of_lt la) (Nat.ne_of_gt (Nat.lt_succ_of_lt la)), ⟨⟨.none, he⟩, hit, Nat.succ_ne_self _⟩, fp, q⟩

variable {T : Tab} {W : WX} {X : Cx} {tg : Expr} {pos p : Pos} {g : Gh} {σ : L2.St} {H : Hp} {c : Cfg}
theorem walk_enumT {K : PySem.W.Frag} {a : Addr} {xs : List V} : L2.Walk (IteT K a) xs.length (fun H => SqT K H a xs) (YPair (fun i => some (.int (i : Nat))) (fun i => xs[i]?)) := by
  refine ⟨fun i _ hi q => ⟨xs, xs[i], q, by simp [hi]⟩, fun _ q => ⟨xs, q, Nat.le_refl _⟩, fun i H v H' _ q y => ?_⟩
  obtain ⟨Tt, x, h1, h2, h3, h4⟩ := y
  exact ⟨Tt, .int (i : Nat), x, h1, h2, h3, rfl, h4 xs q⟩
theorem enum_y {vs : List V} {ds : List D} (r : Reps T g vs ds) : ∀ g2 σ H c i x H' d, GL g g2 → Held T g2 σ H c → (enumF 0 ds)[i]? = some d → YPair (fun i => some (.int (i : Nat))) (fun i => vs[i]?) i H x H' → ∃ g', StpE g2 H g' H' ∧ Held T g' σ H' c ∧ Rep T g' x d := by
  intro g2 σ H c i x H' d hg k e y
  obtain ⟨Tt, v, w, rfl, n, rfl, e1, e2⟩ := y
  obtain ⟨dy, rfl, f1⟩ := enum_at e
  obtain ⟨v', e3, r3⟩ := r.at f1
  have e2 : vs[i]? = some w := e2
  rw [e3] at e2; cases e2
  cases e1
  rw [Nat.zero_add]
  exact pair_step k n rfl (Rep.gl hg _ _ r3)
theorem walkD_enum {a : Addr} {vs : List V} {ds : List D} (h : g.I a = some (.lst vs)) (r : Reps T g vs ds) : WalkD T (Ite T.K a) (enumF 0 ds) g := by
  refine ⟨_, ?_, enum_y r⟩
  have w : L2.Walk (Ite T.K a) (enumF 0 ds).length (fun H => SqL T.K H a vs) (YPair (fun i => some (.int (i : Nat))) (fun i => vs[i]?)) := by
    rw [enum_len, ← r.length]; exact walk_enum
  exact w.mono (fun H e => SqL.of (e _ _ h)) fun _ _ _ _ _ _ y => y
theorem walkD_enumT {a : Addr} {vs : List V} {ds : List D} (h : SqT T.K g.I a vs) (r : Reps T g vs ds) : WalkD T (IteT T.K a) (enumF 0 ds) g := by
  refine ⟨_, ?_, enum_y r⟩
  have w : L2.Walk (IteT T.K a) (enumF 0 ds).length (fun H => SqT T.K H a vs) (YPair (fun i => some (.int (i : Nat))) (fun i => vs[i]?)) := by
    rw [enum_len, ← r.length]; exact walk_enumT
  exact w.mono (fun H e => L2.SqT.ext h e) fun _ _ _ _ _ _ y => y
def enumP : List D → Option (List D)
  | [.lst xs] => some (enumF 0 xs)
  | [.tup xs] => some (enumF 0 xs)
  | _ => none
theorem enumP_some {ds rs : List D} (h : enumP ds = some rs) : (∃ xs, ds = [.lst xs] ∧ rs = enumF 0 xs) ∨ ∃ xs, ds = [.tup xs] ∧ rs = enumF 0 xs := by
  unfold enumP at h
  split at h
  · cases h; exact .inl ⟨_, rfl, rfl⟩
  · cases h; exact .inr ⟨_, rfl, rfl⟩
  · cases h
theorem i_enum {e : Expr} {ma : M (List D)} {elts : List Expr} {kk : Nat} {tpos : Pos} (C : Ctx T W X) (ha : SndA T W X [e] ma) (hm : T.mg "enumerate" = none) (hg : Gl X "enumerate" := by rfl) (hs : starEach [e] X.env = [(false, eval e X.env)] := by rfl) :
    SndI T W X (.Tuple elts kk tpos) (.Call (.Name "enumerate" p) [e] [] pos) (M.bnd ma fun ds => M.opt (enumP ds)) := by
  refine ⟨fun pins s σ H R I ⟨g, c, k, q⟩ => (pi_enumA hg (by rw [C.mg]; exact hm) ha hs).run pins s σ H R I ⟨g, c, k, (Post.bnd (R := RVs T) q).imp fun vs H1 ⟨ds, g1, c1, s1, k1, r1, q1⟩ => ?_⟩⟩
  cases ez : enumP ds with
  | none => rw [ez] at q1; exact q1.elim
  | some rs =>
    rw [ez] at q1
    rw [C.K]
    rcases enumP_some ez with ⟨xs, rfl, rfl⟩ | ⟨xs, rfl, rfl⟩
    · obtain ⟨v, vr, e1, ⟨a, va, rfl, h1, r1⟩, e3⟩ := r1
      have e3 : vr = [] := e3
      subst e1 e3
      exact ⟨a, va, rfl, .inl ⟨SqL.of (k1.sub _ _ h1), Post.here (R := RW T) k1 (walkD_enum h1 r1) q1⟩⟩
    · obtain ⟨v, vr, e1, ⟨a, va, rfl, h1, r1⟩, e3⟩ := r1
      have e3 : vr = [] := e3
      subst e1 e3
      exact ⟨a, va, rfl, .inr ⟨L2.SqT.ext h1 k1.sub, Post.here (R := RW T) k1 (walkD_enumT h1 r1) q1⟩⟩
end TL

end
section
set_option Elab.async false
set_option linter.all false
set_option maxRecDepth 100000
/-! Tl17: for, while; lists that change. -/
namespace TL
open PySem L2
def forL (k : TgF) (body : M Flow) : List D → M Flow
  | [] => nxt
  | d :: ds => fun c => match k d c with
    | none => .stuck
    | some c' => match body c' with
      | .ok .nx c2 => forL k body ds c2
      | .ok .ct c2 => forL k body ds c2
      | .ok .bk c2 => .ok .nx c2
      | .ok (.rt r) c2 => .ok (.rt r) c2
      | .err x c2 => .err x c2
      | .stuck => .stuck
def sFor (mi : M (List D)) (k : TgF) (body : M Flow) : M Flow := M.bnd mi (forL k body)
def whl (t : M Bool) (body : M Flow) : Nat → M Flow
  | 0 => M.stk
  | n + 1 => fun c => match t c with
    | .ok true c' => (match body c' with
      | .ok .nx c2 => whl t body n c2
      | .ok .ct c2 => whl t body n c2
      | .ok .bk c2 => .ok .nx c2
      | .ok (.rt r) c2 => .ok (.rt r) c2
      | .err x c2 => .err x c2
      | .stuck => .stuck)
    | .ok false c' => .ok .nx c'
    | .err x c2 => .err x c2
    | .stuck => .stuck
section
variable {T : Tab} {W : WX} {X : Cx} {tg e t : Expr} {body : List Stmt} {pos : Pos}
theorem PostS.from' {g g' : Gh} {H H' : Hp} {E : Ends} {o : Out Flow} (s : Stp g H g' H') (p : PostS T W g H E o) : PostS T W g' H' E o := PostS.from s p
theorem s_for {is : List Nat} {mi : M (List D)} {k : TgF} {mb : M Flow} (C : Ctx T W X) (hi : SndI T W X tg e mi) (hg : SndG T X is tg k) (hb : SndSs T W X body mb) (hs : ∀ x, foldedSetIterable e X.env x = pure x := by intro _; rfl) :
    SndS T W X (.For tg e body [] pos) (sFor mi k mb) :=
  PS.imp (ps_for C.po C.calm hi hg hb hs) fun E σ H ⟨g, c, kk, p⟩ => ⟨g, c, kk, (PostS.bnd (R := RW T) p).imp fun J H1 ⟨ds, g1, c1, s1, k1, w1, p1⟩ => by
    obtain ⟨Y, w, y⟩ := w1.ex
    refine for_it w (fun i σ H => ∃ g c, Held T g σ H c ∧ Stp g1 H1 g H ∧ PostS T W g H E (forL k mb (ds.drop i) c)) ⟨g1, c1, k1, Stp.refl, by simpa using p1⟩ (fun i σ H _ ⟨g, c, k, s, _⟩ => s.le.I.trans k.sub) (fun i x σ H H' hi ⟨g, c, k2, s, q⟩ hy => ?_) fun σ H ⟨g, c, k2, s, q⟩ => ?_
    · have e1 : ds.drop i = ds[i] :: ds.drop (i + 1) := List.drop_eq_getElem_cons hi
      obtain ⟨g2, s2, k3, r3⟩ := y g σ H c i x H' ds[i] s.le.toGL k2 (by simp [hi]) hy
      refine ⟨g2, c, ds[i], k3, r3, ?_⟩
      rw [e1] at q
      have q := PostS.from s2.toStp q
      unfold forL at q
      cases ek : k ds[i] c with
      | none => rw [ek] at q; exact q.elim
      | some c2 =>
        rw [ek] at q
        intro σ3 sm k4
        refine ⟨g2, c2, k4, ?_⟩
        dsimp only at q
        cases eb : mb c2 with
        | stuck => rw [eb] at q; exact q.elim
        | err x c3 => rw [eb] at q; exact q
        | ok f c3 =>
          rw [eb] at q
          cases f with
          | nx => exact fun σ4 g4 H4 s4 k5 => ⟨g4, c3, k5, (s.trans s2.toStp).trans s4, PostS.from s4 q⟩
          | ct => exact fun σ4 g4 H4 s4 k5 => ⟨g4, c3, k5, (s.trans s2.toStp).trans s4, PostS.from s4 q⟩
          | bk => exact q
          | rt r => cases r <;> exact q
    · rw [List.drop_length] at q
      exact q σ g H Stp.refl k2⟩
theorem s_while {mt : M Bool} {mb : M Flow} (n : Nat) (C : Ctx T W X) (ht : SndT T W X t mt) (hb : SndSs T W X body mb) : SndS T W X (.While t body [] pos) (whl mt mb n) :=
  PS.imp (ps_while C.po ht hb) fun E σ H ⟨g, c, kk, p⟩ => by
    refine ⟨fun m σ H => ∃ g c, Held T g σ H c ∧ PostS T W g H E (whl mt mb m c), ⟨n, g, c, kk, p⟩, fun m σ H ⟨g, c, k, p⟩ => ⟨g, c, k, ?_⟩⟩
    cases m with
    | zero => exact p.elim
    | succ m =>
      unfold whl at p
      cases et : mt c with
      | stuck => rw [et] at p; exact p.elim
      | err x c1 => rw [et] at p; exact fun cls dd g1 H1 s1 k1 r => p cls dd σ g1 H1 s1.toStp k1 r
      | ok b c1 =>
        rw [et] at p
        intro b' g1 H1 s1 k1 eb'
        have eb' : b' = b := eb'
        subst eb'
        cases b' with
        | false => exact p σ g1 H1 s1.toStp k1
        | true =>
          dsimp only at p
          have p := PostS.from s1.toStp p
          refine ⟨fun σ' H' => ∃ g c, Held T g σ' H' c ∧ PostS T W g H' E (whl mt mb m c), fun σ' H' z => ⟨m, Nat.lt_succ_self m, z⟩, ⟨g1, c1, k1, ?_⟩⟩
          cases eb : mb c1 with
          | stuck => rw [eb] at p; exact p.elim
          | err x c3 => rw [eb] at p; exact p
          | ok f c3 =>
            rw [eb] at p
            cases f with
            | nx => exact fun σ4 g4 H4 s4 k5 => ⟨g4, c3, k5, PostS.from s4 p⟩
            | ct => exact fun σ4 g4 H4 s4 k5 => ⟨g4, c3, k5, PostS.from s4 p⟩
            | bk => exact p
            | rt r => cases r <;> exact p
end

/-! ### lists that change -/
section
variable {T : Tab} {W : WX} {X : Cx} {pos p p2 apos : Pos} {g : Gh} {σ : L2.St} {H : Hp} {c : Cfg}
/-- a list of a slot's own is written -/
theorem held_put {i : Nat} {xs ys : List D} {vs : List V} (k : Held T g σ H c) (e : c.sl[i]? = some (.own xs)) (r : Reps T g vs ys) :
    ∃ a ws, σ[i]? = some (some (.ref a)) ∧ H a = some (.lst ws) ∧ Reps T g ws xs ∧ Stp g H g (L2.upd H a (.lst vs)) ∧ Held T g σ (L2.upd H a (.lst vs)) (setS i (.own ys) c) := by
  obtain ⟨a, ws, ev, ho, nb, h, r0⟩ := k.sl i _ e
  have hI := (k.ow a (by rw [ho]; simp)).1
  have ne : ∀ b, (∀ o, g.I b = some o → b ≠ a) := fun b o z q => by rw [q, hI] at z; cases z
  refine ⟨a, ws, ev, h, r0, ⟨GLe.refl g, fun b o hb bb ob => ⟨(upd_ne (fun q => by rw [q, ho] at ob; cases ob)).trans hb, rfl, ob⟩⟩, ?_⟩
  refine ⟨fun b o z => (upd_ne (ne b o z)).trans (k.sub b o z), fun b z => ⟨(k.ow b z).1, ?_⟩, fun b z => ?_, fun j t ej => ?_, k.cn, by simpa [setS] using k.ln, fun m b zs e1 e2 => ?_⟩
  · by_cases q : b = a
    · rw [q, upd_same]; simp
    · rw [upd_ne q]; exact (k.ow b z).2
  · by_cases q : b = a
    · rw [q, upd_same]; simp
    · rw [upd_ne q]; exact k.bs b z
  · have ej : (c.sl.set i (.own ys))[j]? = some t := ej
    by_cases q : j = i
    · subst q
      rw [List.getElem?_set_self (List.getElem?_eq_some_iff.mp e).1] at ej
      cases ej
      exact ⟨a, vs, ev, ho, nb, upd_same, r⟩
    · rw [List.getElem?_set_ne (Ne.symm q)] at ej
      refine (k.sl j t ej).step (GLe.refl g) fun b u ob hb => ⟨(upd_ne (fun w => ?_)).trans hb, ob⟩
      rw [w, ho] at ob; injection ob with ob; injection ob with ob; exact q ob.symm
  · obtain ⟨h1, us, h2, r2⟩ := k.ce m b zs e1 e2
    exact ⟨h1, us, (upd_ne (fun w => by rw [w, ho] at h1; cases h1)).trans h2, r2⟩
/-- a cell is written -/
theorem held_putC {m : Nat} {a : Addr} {xs ys : List D} {vs : List V} (k : Held T g σ H c) (ea : g.cl[m]? = some a) (e : c.ce[m]? = some xs) (r : Reps T g vs ys) :
    ∃ ws, H a = some (.lst ws) ∧ Reps T g ws xs ∧ Stp g H g (L2.upd H a (.lst vs)) ∧ Held T g σ (L2.upd H a (.lst vs)) { c with ce := c.ce.set m ys } := by
  obtain ⟨ho, ws, h, r0⟩ := k.ce m a xs ea e
  have hI := (k.ow a (by rw [ho]; simp)).1
  have ne : ∀ b, (∀ o, g.I b = some o → b ≠ a) := fun b o z q => by rw [q, hI] at z; cases z
  refine ⟨ws, h, r0, ⟨GLe.refl g, fun b o hb bb ob => ⟨(upd_ne (fun q => by rw [q, ho] at ob; cases ob)).trans hb, rfl, ob⟩⟩, ?_⟩
  refine ⟨fun b o z => (upd_ne (ne b o z)).trans (k.sub b o z), fun b z => ⟨(k.ow b z).1, ?_⟩, fun b z => ?_, fun j t ej => ?_, by simpa using k.cn, k.ln, fun m' b zs e1 e2 => ?_⟩
  · by_cases q : b = a
    · rw [q, upd_same]; simp
    · rw [upd_ne q]; exact (k.ow b z).2
  · by_cases q : b = a
    · rw [q, upd_same]; simp
    · rw [upd_ne q]; exact k.bs b z
  · refine (k.sl j t ej).step (GLe.refl g) fun b u ob hb => ⟨(upd_ne (fun w => ?_)).trans hb, ob⟩
    rw [w, ho] at ob; cases ob
  · have e2 : (c.ce.set m ys)[m']? = some zs := e2
    by_cases q : m' = m
    · subst q
      rw [List.getElem?_set_self (List.getElem?_eq_some_iff.mp e).1] at e2
      cases e2
      rw [ea] at e1; cases e1
      exact ⟨ho, vs, upd_same, r⟩
    · rw [List.getElem?_set_ne (Ne.symm q)] at e2
      obtain ⟨h1, us, h2, r2⟩ := k.ce m' b zs e1 e2
      exact ⟨h1, us, (upd_ne (fun w => by rw [w, ho] at h1; injection h1 with h1; injection h1 with h1; exact q h1.symm)).trans h2, r2⟩
theorem own_at {i : Nat} {xs : List D} (k : Held T g σ H c) (e : c.sl[i]? = some (.own xs)) : ∃ a ws, σ[i]? = some (some (.ref a)) ∧ H a = some (.lst ws) ∧ Reps T g ws xs := by
  obtain ⟨a, ws, ev, ho, nb, h, r0⟩ := k.sl i _ e
  exact ⟨a, ws, ev, h, r0⟩
/-- the slot's list, of whatever state -/
def ownNow (c : Cfg) (i : Nat) : Bool := match c.sl[i]? with
  | some (.own _) => true
  | _ => false
theorem ownNow_some {i : Nat} (h : ownNow c i = true) : ∃ xs, c.sl[i]? = some (.own xs) := by
  unfold ownNow at h
  split at h
  · exact ⟨_, by assumption⟩
  · cases h
variable {x m : Str} {e : Expr} {es : List Expr}
/-- x.append(e), x.extend(e): by what becomes of the list -/
def sMut (f : List D → List D → Option (List D)) (i : Nat) (ma : M (List D)) : M Flow := fun c => if ownNow c i then (match ma c with
    | .ok ds c => (match c.sl[i]? with
      | some (.own xs) => (match f xs ds with
        | some ys => .ok .nx (setS i (.own ys) c)
        | none => .stuck)
      | _ => .stuck)
    | .err x c => .err x c
    | .stuck => .stuck) else .stuck
/-- r: what the method asks, where it leads -/
def MutOk (T : Tab) (r : V → List V → Hp → VK → Prop) (f : List D → List D → Option (List D)) : Prop :=
  ∀ (g : Gh) (σ : L2.St) (H : Hp) (c : Cfg) (a : Addr) (ws us : List V) (xs ds ys : List D) (Q : VK), Held T g σ H c → H a = some (.lst ws) → Reps T g ws xs → Reps T g us ds → f xs ds = some ys → (∀ vs, Reps T g vs ys → Q .non (L2.upd H a (.lst vs))) → r (.ref a) us H Q
theorem s_mut {id : String} {r : V → List V → Hp → VK → Prop} {f : List D → List D → Option (List D)} {ma : M (List D)} (i : Nat) (slot : Slot "list" m id) (hty : typeOf (.builtin id) = pure (.type "method_descriptor")) (hm : MtM X id r) (hf : MutOk T r f)
    (ha : SndA T W X (e :: es) ma) (hN : X.N[i]? = some x := by rfl) (hv : Vis X.env.scope x := by first | exact Or.inl rfl | exact Or.inr (Or.inl rfl) | exact Or.inr (Or.inr rfl)) (hd : (x == ("__debug__" : Str)) = false := by decide)
    (hcd : (x == ("__classdict__" : Str)) = false := by decide)
    (hbase : attributeBase (.Name x p) m X.env (eval (.Name x p) X.env) = eval (.Name x p) X.env := by rfl)
    (hfew : ((backTo p2 (starEach (e :: es) X.env)).all (fun x => !x.1) && (backToKw p2 (keywordEach [] X.env)).all (fun x => x.1.isSome)
      && decide ((e :: es).length + ([] : List Keyword).length + (if ([] : List Keyword).isEmpty then 0 else 1) < 30)) = true := by rfl)
    (hline : (apos.endLine == p2.line) = true := by rfl) (hs : starEach (e :: es) X.env = (false, eval e X.env) :: starEach es X.env := by rfl) (hplain : (backTo p2 (starEach es X.env)).any (·.1) = false := by rfl)
    (hsw : swapsWith (.Call (.Attribute (.Name x p) m apos) (e :: es) [] p2) none pos.line X.env = pure false := by rfl) :
    SndS T W X (.Expr (.Call (.Attribute (.Name x p) m apos) (e :: es) [] p2) pos) (sMut f i ma) :=
  PS.imp (ps_expr (pe_bm PySem.F.plainAttrs_list slot hty hm (pv i hN hv hd hcd) ha hbase hfew hline hs hplain) hsw) fun E σ H ⟨g, c, k, q⟩ => by
    unfold sMut at q
    by_cases z : ownNow c i = true
    · rw [if_pos z] at q
      obtain ⟨xs, ex⟩ := ownNow_some z
      obtain ⟨a, ws, ev, h, r0⟩ := own_at k ex
      refine ⟨.ref a, ev, .inl ⟨rfl, ws, SqL.of h⟩, g, c, k, ?_⟩
      cases em : ma c with
      | stuck => rw [em] at q; exact q.elim
      | err y c1 => rw [em] at q; exact fun cls dd g1 H1 s1 k1 r1 => q cls dd σ g1 H1 s1.toStp k1 r1
      | ok ds c1 =>
        rw [em] at q
        intro us g1 H1 s1 k1 r1
        dsimp only at q
        cases e1 : c1.sl[i]? with
        | none => rw [e1] at q; exact q.elim
        | some t =>
          rw [e1] at q
          cases t with
          | own ys =>
            dsimp only at q
            cases ef : f ys ds with
            | none => rw [ef] at q; exact q.elim
            | some zs =>
              rw [ef] at q
              obtain ⟨a2, ws2, ev2, h2, r2⟩ := own_at k1 e1
              rw [ev] at ev2; cases ev2
              refine hf g1 σ H1 c1 a ws2 us ys ds zs _ k1 h2 r2 r1 ef fun vs rv => ?_
              obtain ⟨a3, ws3, ev3, _, _, st, k3⟩ := held_put k1 e1 rv
              rw [ev] at ev3; cases ev3
              exact q σ g1 _ (s1.toStp.trans st) k3
          | _ => exact q.elim
    · rw [if_neg z] at q; exact q.elim
def appF (xs ds : List D) : Option (List D) := match ds with
  | [d] => if sizeOk (xs.length + 1) then some (xs ++ [d]) else none
  | _ => none
def extF (xs ds : List D) : Option (List D) := match ds with
  | [.lst ys] => if sizeOk (xs.length + ys.length) then some (xs ++ ys) else none
  | _ => none
theorem app_ok' : MutOk T rAppend appF := by
  intro g σ H c a ws us xs ds ys Q k h r ru ef hq
  unfold appF at ef
  split at ef
  · rename_i d
    obtain ⟨v, vr, e1, r1, e2⟩ := ru
    have e2 : vr = [] := e2
    subst e1 e2
    by_cases z : sizeOk (xs.length + 1) = true
    · rw [if_pos z] at ef; cases ef
      have := line_of z
      exact ⟨a, ws, v, rfl, rfl, h, by rw [r.length]; omega, hq _ (r.app (Reps.one r1))⟩
    · rw [if_neg z] at ef; cases ef
  · cases ef
theorem ext_ok' : MutOk T rExtend extF := by
  intro g σ H c a ws us xs ds ys Q k h r ru ef hq
  unfold extF at ef
  split at ef
  · rename_i zs
    obtain ⟨v, vr, e1, ⟨b, vs, rfl, hb, r1⟩, e2⟩ := ru
    have e2 : vr = [] := e2
    subst e1 e2
    by_cases z : sizeOk (xs.length + zs.length) = true
    · rw [if_pos z] at ef; cases ef
      exact ⟨a, b, ws, vs, rfl, rfl, h, k.sub _ _ hb, by rw [r.length, r1.length]; exact line_of z, hq _ (r.app r1)⟩
    · rw [if_neg z] at ef; cases ef
  · cases ef
/-- y = x.pop() -/
def sPop (j i : Nat) : M Flow := fun c => match c.sl[i]? with
  | some (.own xs) => (match xs[xs.length - 1]? with
    | some d => .ok .nx (setS j (.v d) (setS i (.own xs.dropLast) c))
    | none => .stuck)
  | _ => .stuck
theorem Reps.dropLast {vs : List V} {ds : List D} (r : Reps T g vs ds) : Reps T g vs.dropLast ds.dropLast := by
  refine Reps.of_at (by rw [List.length_dropLast, List.length_dropLast, r.length]) fun i v d h1 h2 => ?_
  have hi : i < vs.dropLast.length := (List.getElem?_eq_some_iff.mp h1).1
  have hi2 : i < ds.dropLast.length := (List.getElem?_eq_some_iff.mp h2).1
  rw [List.length_dropLast] at hi hi2
  rw [List.getElem?_dropLast, if_pos (by omega)] at h1 h2
  obtain ⟨v', e, rv⟩ := r.at h2
  rw [h1] at e; cases e
  exact rv
theorem s_pop (j i : Nat) {y : Str} {px : Pos} (C : Ctx T W X) (hN : X.N[i]? = some x := by rfl) (hv : Vis X.env.scope x := by first | exact Or.inl rfl | exact Or.inr (Or.inl rfl) | exact Or.inr (Or.inr rfl)) (hd : (x == ("__debug__" : Str)) = false := by decide)
    (hcd : (x == ("__classdict__" : Str)) = false := by decide)
    (hbase : attributeBase (.Name x p) "pop" X.env (eval (.Name x p) X.env) = eval (.Name x p) X.env := by rfl) (hline : (apos.endLine == p2.line) = true := by rfl)
    (hi : X.N[j]? = some y := by rfl) (hx : Loc X.env.scope y := by first | exact .inl rfl | exact .inr rfl) (hs : swapsWith (.Call (.Attribute (.Name x p) "pop" apos) [] [] p2) (some (.Name y px)) pos.line X.env = pure false := by rfl) (hf : X.fn y = true ∨ X.env.scope.names.lookup y = some .local := by first | exact .inl rfl | exact .inr rfl) :
    SndS T W X (.Assign [.Name y px] (.Call (.Attribute (.Name x p) "pop" apos) [] [] p2) pos) (sPop j i) :=
  PS.imp (ps_set C.nd hi hx (pe_bm0 PySem.F.plainAttrs_list PySem.F.slot_list_pop PySem.F.type_list_pop mt_pop (pv i hN hv hd hcd) hbase hline) hs hf) fun E σ H ⟨g, c, k, q⟩ => by
    unfold sPop at q
    cases e1 : c.sl[i]? with
    | none => rw [e1] at q; exact q.elim
    | some t =>
      rw [e1] at q
      cases t with
      | own xs =>
        dsimp only at q
        cases el : xs[xs.length - 1]? with
        | none => rw [el] at q; exact q.elim
        | some d =>
          rw [el] at q
          obtain ⟨a, ws, ev, h, r0⟩ := own_at k e1
          obtain ⟨v, h1, h2⟩ := r0.at el
          obtain ⟨a3, ws3, ev3, _, _, st, k3⟩ := held_put k e1 (Reps.dropLast r0)
          rw [ev] at ev3; cases ev3
          exact ⟨.ref a, ev, .inl ⟨rfl, ws, SqL.of h⟩, a, ws, v, rfl, rfl, h, by rw [r0.length]; exact h1, q _ g _ st (k3.storeV h2)⟩
      | _ => exact q.elim
/-- x[ix] = e -/
def sSet (i : Nat) (m mi : M D) : M Flow := M.bnd m fun d => fun c => match c.sl[i]? with
  | some (.own _) => (match mi c with
    | .ok (.int k) c => (match c.sl[i]? with
      | some (.own xs) => (match ixN xs.length k with
        | some j => .ok .nx (setS i (.own (xs.set j d)) c)
        | none => .stuck)
      | _ => .stuck)
    | .err x c => .err x c
    | _ => .stuck)
  | some (.v (.cell n)) => (match mi c with
    | .ok (.int k) c => (match c.ce[n]? with
      | some xs => (match ixN xs.length k with
        | some j => .ok .nx { c with ce := c.ce.set n (xs.set j d) }
        | none => .stuck)
      | none => .stuck)
    | .err x c => .err x c
    | _ => .stuck)
  | _ => .stuck
variable {ix : Expr}
theorem s_sub {md mi : M D} {tpos : Pos} (i : Nat) (he : SndE T W X e md) (hi : SndE T W X ix mi) (hN : X.N[i]? = some x := by rfl) (hv : Vis X.env.scope x := by first | exact Or.inl rfl | exact Or.inr (Or.inl rfl) | exact Or.inr (Or.inr rfl)) (hd : (x == ("__debug__" : Str)) = false := by decide)
    (hcd : (x == ("__classdict__" : Str)) = false := by decide)
    (has : ∀ v, assign (.Subscript (.Name x p) ix tpos) X.env v = (do
      let ov ← holding [v] (eval (.Name x p) X.env)
      let iv ← holding [v, ov] (eval ix X.env)
      standAt tpos
      holding [v, ov, iv] (setItem ov iv v)
      release [v, ov, iv] []) := by intro _; rfl)
    (hs : swapsWithSole [.Subscript (.Name x p) ix tpos] e pos.line X.env = pure false := by rfl) (hw : swappedStores [.Subscript (.Name x p) ix tpos] e X.env = pure none := by rfl)
    (h1 : (assignEach [.Subscript (.Name x p) ix tpos] X.env).map (·.2) = [assign (.Subscript (.Name x p) ix tpos) X.env] := by rfl) : SndS T W X (.Assign [.Subscript (.Name x p) ix tpos] e pos) (sSet i md mi) :=
  PS.imp (ps_asg he (pg_sub (pv i hN hv hd hcd) hi set_list has) hs hw h1) fun E σ H ⟨g, c, kk, p⟩ => ⟨g, c, kk, (PostS.bnd (R := RV1 T) (β := V) p).imp fun v H1 ⟨d, g1, c1, s1, k1, r1, p1⟩ => by
    cases e1 : c1.sl[i]? with
    | none => rw [e1] at p1; exact p1.elim
    | some t =>
      rw [e1] at p1
      cases t with
      | own xs0 =>
        obtain ⟨a, ws, ev, h, r0⟩ := own_at k1 e1
        refine ⟨.ref a, ev, g1, c1, k1, ?_⟩
        dsimp only at p1
        cases em : mi c1 with
        | stuck => rw [em] at p1; exact p1.elim
        | err y c2 => rw [em] at p1; exact fun cls dd g2 H2 s2 k2 r2 => p1 cls dd σ g2 H2 s2.toStp k2 r2
        | ok dk c2 =>
          rw [em] at p1
          intro w g2 H2 s2 k2 r2
          cases dk with
          | int z =>
            have r2 : w = .int z := r2
            subst r2
            dsimp only at p1
            cases e2 : c2.sl[i]? with
            | none => rw [e2] at p1; exact p1.elim
            | some t =>
              rw [e2] at p1
              cases t with
              | own xs =>
                dsimp only at p1
                cases ej : ixN xs.length z with
                | none => rw [ej] at p1; exact p1.elim
                | some j =>
                  rw [ej] at p1
                  obtain ⟨a2, ws2, ev2, h2, r3⟩ := own_at k2 e2
                  rw [ev] at ev2; cases ev2
                  obtain ⟨a3, ws3, ev3, _, _, st, k3⟩ := held_put k2 e2 (r3.set (i := j) (Rep.mono s2.le _ _ r1))
                  rw [ev] at ev3; cases ev3
                  exact ⟨a, ws2, z, j, rfl, rfl, h2, by rw [r3.length]; exact ej, p1 σ g2 _ (s2.toStp.trans st) k3⟩
              | _ => exact p1.elim
          | _ => exact p1.elim
      | v dv =>
        cases dv with
        | cell n =>
          obtain ⟨va, ev, a, rfl, ha⟩ := k1.sl i _ e1
          refine ⟨.ref a, ev, g1, c1, k1, ?_⟩
          dsimp only at p1
          cases em : mi c1 with
          | stuck => rw [em] at p1; exact p1.elim
          | err y c2 => rw [em] at p1; exact fun cls dd g2 H2 s2 k2 r2 => p1 cls dd σ g2 H2 s2.toStp k2 r2
          | ok dk c2 =>
            rw [em] at p1
            intro w g2 H2 s2 k2 r2
            cases dk with
            | int z =>
              have r2 : w = .int z := r2
              subst r2
              dsimp only at p1
              cases e2 : c2.ce[n]? with
              | none => rw [e2] at p1; exact p1.elim
              | some xs =>
                rw [e2] at p1
                dsimp only at p1
                cases ej : ixN xs.length z with
                | none => rw [ej] at p1; exact p1.elim
                | some j =>
                  rw [ej] at p1
                  obtain ⟨mm, em2⟩ := s2.le.cl
                  have ha2 : g2.cl[n]? = some a := by rw [em2, List.getElem?_append_left (List.getElem?_eq_some_iff.mp ha).1]; exact ha
                  obtain ⟨_, ws2, h2, r3⟩ := k2.ce n a xs ha2 e2
                  obtain ⟨ws3, h3, r4, st, k3⟩ := held_putC k2 ha2 e2 (r3.set (i := j) (Rep.mono s2.le _ _ r1))
                  exact ⟨a, ws2, z, j, rfl, rfl, h2, by rw [r3.length]; exact ej, p1 σ g2 _ (s2.toStp.trans st) k3⟩
            | _ => exact p1.elim
        | _ => exact p1.elim
      | _ => exact p1.elim⟩
/-- x += e (ints) -/
def sAug (i : Nat) (f : Int → Int → Int) (m : M D) : M Flow := fun c => match c.sl[i]? with
  | some (.v (.int a)) => (match m c with
    | .ok (.int b) c => .ok .nx (setS i (.v (.int (f a b))) c)
    | .err x c => .err x c
    | _ => .stuck)
  | _ => .stuck
theorem s_aug {op : Operator} {f : Int → Int → Int} {px : Pos} {m : M D} (i : Nat) (C : Ctx T W X) (ho : PIp X op (ipI f)) (he : SndE T W X e m) (hi : X.N[i]? = some x := by rfl) (hx : Loc X.env.scope x := by first | exact .inl rfl | exact .inr rfl) (hf : X.fn x = true ∨ X.env.scope.names.lookup x = some .local := by first | exact .inl rfl | exact .inr rfl) :
    SndS T W X (.AugAssign (.Name x px) op e pos) (sAug i f m) :=
  PS.imp (ps_aug C.nd hi hx he ho hf) fun E σ H ⟨g, c, k, q⟩ => by
    unfold sAug at q
    split at q
    · rename_i a e1
      obtain ⟨va, ev, ra⟩ := k.sl i _ e1
      have ra : va = .int a := ra
      subst ra
      refine ⟨.int a, ev, g, c, k, ?_⟩
      cases em : m c with
      | stuck => rw [em] at q; exact q.elim
      | err y c2 => rw [em] at q; exact fun cls dd g2 H2 s2 k2 r2 => q cls dd σ g2 H2 s2.toStp k2 r2
      | ok dk c2 =>
        rw [em] at q
        intro w g2 H2 s2 k2 r2
        cases dk with
        | int b =>
          have r2 : w = .int b := r2
          exact ⟨a, b, rfl, r2, q _ g2 H2 s2.toStp (k2.storeV (d := .int (f a b)) rfl)⟩
        | _ => exact q.elim
    · exact q.elim
end
end TL

end
section
set_option Elab.async false
set_option linter.all false
set_option maxRecDepth 100000
/-! Tl18: list comprehensions. -/
namespace TL
open PySem L2
def wipeL : List Nat → List Sl → List Sl
  | [], l => l
  | i :: vs, l => (wipeL vs l).set i .no
def restL : List Nat → List Sl → List Sl → List Sl
  | [], _, b => b
  | i :: vs, a, b => (restL vs a b).set i (match a[i]? with
    | some (.v d) => .v d
    | _ => .no)
def wipeC (vs : List Nat) (c : Cfg) : Cfg := { c with sl := wipeL vs c.sl }
def restC (vs : List Nat) (c0 c : Cfg) : Cfg := { c with sl := restL vs c0.sl c.sl }
def lcL (vs : List Nat) (k : TgF) (t : M Bool) (e : M D) : List D → M (List D)
  | [] => M.ret []
  | d :: ds => fun c => match k d (wipeC vs c) with
    | none => .stuck
    | some c1 => match t c1 with
      | .ok false c2 => lcL vs k t e ds c2
      | .ok true c2 => (match e c2 with
        | .ok y c3 => (match lcL vs k t e ds c3 with
          | .ok ys c4 => .ok (y :: ys) c4
          | _ => .stuck)
        | _ => .stuck)
      | _ => .stuck
def fLc (vs : List Nat) (mi : M (List D)) (k : TgF) (t : M Bool) (e : M D) : M (List D) := M.bnd mi fun ds c => match lcL vs k t e ds c with
  | .ok ys c2 => if sizeOk ys.length then .ok ys (restC vs c c2) else .stuck
  | _ => .stuck
section
variable {T : Tab} {W : WX} {X : Cx} {g g' : Gh} {σ σ' : L2.St} {H H' : Hp} {c c' : Cfg} {vs is : List Nat}
theorem wipe_in {i : Nat} : ∀ {vs : List Nat} {σ : L2.St}, i ∈ vs → (wipe σ vs)[i]? = if i < σ.length then some none else none
  | [], σ, h => by cases h
  | v :: vs, σ, h => by
    show ((wipe σ vs).set v none)[i]? = _
    by_cases e : v = i
    · subst e
      by_cases hl : v < σ.length
      · rw [if_pos hl, List.getElem?_set_self (by rw [wipe_length]; exact hl)]
      · rw [if_neg hl, List.getElem?_eq_none (by rw [List.length_set, wipe_length]; omega)]
    · rw [List.getElem?_set_ne e]
      exact wipe_in (by rcases List.mem_cons.mp h with z | z; exact absurd z.symm e; exact z)
theorem wipe_same (s : Same is σ σ') (h : ∀ i ∈ is, i ∈ vs) : wipe σ' vs = wipe σ vs := by
  apply List.ext_getElem?
  intro i
  by_cases hi : i ∈ vs
  · rw [wipe_in hi, wipe_in hi, s.len]
  · rw [wipe_out hi, wipe_out hi, s.kp i (fun z => hi (h i z))]
theorem wipe_wipe : wipe (wipe σ vs) vs = wipe σ vs := by
  apply List.ext_getElem?
  intro i
  by_cases hi : i ∈ vs
  · rw [wipe_in hi, wipe_in hi, wipe_length]
  · rw [wipe_out hi]
theorem wipeL_len : ∀ {vs : List Nat} {l : List Sl}, (wipeL vs l).length = l.length
  | [], l => rfl
  | v :: vs, l => by show ((wipeL vs l).set v .no).length = _; rw [List.length_set, wipeL_len]
theorem wipeL_out {i : Nat} : ∀ {vs : List Nat} {l : List Sl}, i ∉ vs → (wipeL vs l)[i]? = l[i]?
  | [], l, _ => rfl
  | v :: vs, l, h => by
    show ((wipeL vs l).set v .no)[i]? = _
    rw [List.getElem?_set_ne (fun e => h (by simp [e])), wipeL_out (fun z => h (by simp [z]))]
theorem wipeL_in {i : Nat} : ∀ {vs : List Nat} {l : List Sl} {s : Sl}, i ∈ vs → (wipeL vs l)[i]? = some s → s = .no
  | [], l, s, h, _ => by cases h
  | v :: vs, l, s, h, e => by
    have e : ((wipeL vs l).set v .no)[i]? = some s := e
    by_cases q : v = i
    · subst q
      by_cases hl : v < (wipeL vs l).length
      · rw [List.getElem?_set_self hl] at e; cases e; rfl
      · rw [List.getElem?_eq_none (by simpa using hl)] at e; cases e
    · rw [List.getElem?_set_ne q] at e
      exact wipeL_in (by rcases List.mem_cons.mp h with z | z; exact absurd z.symm q; exact z) e
theorem restL_len : ∀ {vs : List Nat} {a l : List Sl}, (restL vs a l).length = l.length
  | [], a, l => rfl
  | v :: vs, a, l => by show ((restL vs a l).set v _).length = _; rw [List.length_set, restL_len]
theorem restL_out {i : Nat} : ∀ {vs : List Nat} {a l : List Sl}, i ∉ vs → (restL vs a l)[i]? = l[i]?
  | [], a, l, _ => rfl
  | v :: vs, a, l, h => by
    show ((restL vs a l).set v _)[i]? = _
    rw [List.getElem?_set_ne (fun e => h (by simp [e])), restL_out (fun z => h (by simp [z]))]
theorem restL_in {i : Nat} : ∀ {vs : List Nat} {a l : List Sl} {s : Sl}, i ∈ vs → (restL vs a l)[i]? = some s → s = .no ∨ ∃ d, a[i]? = some (.v d) ∧ s = .v d
  | [], a, l, s, h, _ => by cases h
  | v :: vs, a, l, s, h, e => by
    have e : ((restL vs a l).set v (match a[v]? with | some (.v d) => .v d | _ => .no))[i]? = some s := e
    by_cases q : v = i
    · subst q
      by_cases hl : v < (restL vs a l).length
      · rw [List.getElem?_set_self hl] at e
        split at e
        · rename_i d hd
          cases e; exact .inr ⟨_, hd, rfl⟩
        · cases e; exact .inl rfl
      · rw [List.getElem?_eq_none (by simpa using hl)] at e; cases e
    · rw [List.getElem?_set_ne q] at e
      exact restL_in (by rcases List.mem_cons.mp h with z | z; exact absurd z.symm q; exact z) e
theorem SlOk.at {i : Nat} {s : Sl} (k : SlOk T g σ H i s) (e : σ'[i]? = σ[i]?) : SlOk T g σ' H i s := by
  cases s with
  | no => trivial
  | v d => obtain ⟨v, h, r⟩ := k; exact ⟨v, e.trans h, r⟩
  | own xs => obtain ⟨a, ws, h, r⟩ := k; exact ⟨a, ws, e.trans h, r⟩
  | obj C fs => obtain ⟨a, dx, vfs, es, h, r⟩ := k; exact ⟨a, dx, vfs, es, e.trans h, r⟩
  | exc fs => obtain ⟨h, r⟩ := k; exact ⟨e.trans h, r⟩
theorem Held.wipe (k : Held T g σ H c) : Held T g (L2.wipe σ vs) H (wipeC vs c) := by
  refine ⟨k.sub, k.ow, k.bs, fun i s e => ?_, k.cn, by rw [wipe_length]; show (wipeL vs c.sl).length ≤ _; rw [wipeL_len]; exact k.ln, k.ce⟩
  have e : (wipeL vs c.sl)[i]? = some s := e
  by_cases hi : i ∈ vs
  · rw [wipeL_in hi e]; trivial
  · rw [wipeL_out hi] at e
    exact (k.sl i s e).at (wipe_out hi)
theorem Held.rest {c0 : Cfg} {g0 : Gh} {H0 : Hp} (k0 : Held T g0 σ H0 c0) (le : GL g0 g) (k : Held T g (L2.wipe σ vs) H (wipeC vs c)) : Held T g σ H (restC vs c0 c) := by
  refine ⟨k.sub, k.ow, k.bs, fun i s e => ?_, k.cn, ?_, k.ce⟩
  · have e : (restL vs c0.sl c.sl)[i]? = some s := e
    by_cases hi : i ∈ vs
    · rcases restL_in hi e with rfl | ⟨d, h1, rfl⟩
      · trivial
      · obtain ⟨v, h, r⟩ := k0.sl i _ h1
        exact ⟨v, h, Rep.gl le _ _ r⟩
    · rw [restL_out hi] at e
      exact (k.sl i s (show (wipeL vs c.sl)[i]? = some s by rw [wipeL_out hi]; exact e)).at (wipe_out hi).symm
  · have := k.ln
    have h1 : (wipeC vs c).sl.length = c.sl.length := wipeL_len
    rw [wipe_length, h1] at this
    show (restL vs c0.sl c.sl).length ≤ _
    rw [restL_len]; exact this
/-- the block's ghost: the new list is kept -/
def Gh.reB (g : Gh) (B : Addr → Prop) : Gh := { g with B := B }
theorem GL.reB {B : Addr → Prop} : GL g (g.reB B) := ⟨fun _ _ h => h, ⟨[], by simp [Gh.reB]⟩⟩
theorem GL.reB' {B : Addr → Prop} : GL (g.reB B) g := ⟨fun _ _ h => h, ⟨[], by simp [Gh.reB]⟩⟩
theorem Held.reB {B : Addr → Prop} (k : Held T g σ H c) (hb : ∀ a, B a → H a ≠ none) (hn : ∀ a i, g.O a = some (.sl i) → ¬ g.B a → ¬ B a) : Held T (g.reB B) σ H c := by
  refine ⟨k.sub, k.ow, hb, fun i s e => ?_, k.cn, k.ln, fun m b xs e1 e2 => ?_⟩
  · have q := k.sl i s e
    cases s with
    | no => trivial
    | v d => obtain ⟨v, h, r⟩ := q; exact ⟨v, h, Rep.gl GL.reB _ _ r⟩
    | own xs => obtain ⟨a, ws, h, o, nb, hh, r⟩ := q; exact ⟨a, ws, h, o, hn a i o nb, hh, Reps.gl GL.reB _ _ r⟩
    | obj C fs => obtain ⟨a, dx, vfs, es, h, o, hh, r⟩ := q; exact ⟨a, dx, vfs, es, h, o, hh, RepF.gl GL.reB _ _ r⟩
    | exc fs => obtain ⟨e, dd, vfs, q, h, r⟩ := q; exact ⟨e, dd, vfs, q, h, RepF.gl GL.reB _ _ r⟩
  · obtain ⟨h1, us, h2, r2⟩ := k.ce m b xs e1 e2
    exact ⟨h1, us, h2, Reps.gl GL.reB _ _ r2⟩
theorem Held.updF {D : Addr} {o : HO} (k : Held T g σ H c) (hI : g.I D = none) (hO : g.O D = none) : Held T g σ (L2.upd H D o) c := by
  refine ⟨fun b u z => (upd_ne (fun q => by rw [q, hI] at z; cases z)).trans (k.sub b u z), fun b z => ⟨(k.ow b z).1, ?_⟩, fun b z => ?_, fun i s e => ?_, k.cn, k.ln, fun m b xs e1 e2 => ?_⟩
  · rw [upd_ne (fun q => z (by rw [q]; exact hO))]; exact (k.ow b z).2
  · by_cases q : b = D
    · rw [q, upd_same]; simp
    · rw [upd_ne q]; exact k.bs b z
  · exact (k.sl i s e).step (GLe.refl g) fun b u ob hb => ⟨(upd_ne (fun q => by rw [q, hO] at ob; cases ob)).trans hb, ob⟩
  · obtain ⟨h1, us, h2, r2⟩ := k.ce m b xs e1 e2
    exact ⟨h1, us, (upd_ne (fun q => by rw [q, hO] at h1; cases h1)).trans h2, r2⟩
structure Blk (T : Tab) (g1 : Gh) (H1 : Hp) (D0 : Addr) (gb : Gh) (H : Hp) (ws : List V) (acc : List D) : Prop where
  B : gb.B = fun a => g1.B a ∨ a = D0
  st : StpE g1 H1 (gb.reB g1.B) H
  h : H D0 = some (.lst ws)
  r : Reps T gb ws acc
  I : gb.I D0 = none
  O : gb.O D0 = none
theorem Blk.step {g1 gb gb' : Gh} {H1 H H' : Hp} {D : Addr} {ws : List V} {acc : List TL.D} (b : Blk T g1 H1 D gb H ws acc) (s : StpE gb H gb' H') : Blk T g1 H1 D gb' H' ws acc := by
  have hB : gb.B D := by rw [b.B]; exact .inr rfl
  obtain ⟨x1, x2, x3⟩ := s.fr D _ b.h hB b.O
  refine ⟨s.le.B.trans b.B, b.st.trans ⟨⟨⟨⟨s.le.I, s.le.cl⟩, rfl, s.le.sf⟩, fun a o e hb z => ?_⟩, fun a o e z => s.nc a o e z⟩, x1, Reps.mono s.le _ _ b.r, x2.trans b.I, x3⟩
  exact s.fr a o e (by rw [b.B]; exact Or.inl hb) z
theorem Blk.put {g1 gb : Gh} {H1 H : Hp} {D : Addr} {ws : List V} {acc : List TL.D} {y : V} {d : TL.D} (b : Blk T g1 H1 D gb H ws acc) (n : H1 D = none) (r : Rep T gb y d) : Blk T g1 H1 D gb (L2.upd H D (.lst (ws ++ [y]))) (ws ++ [y]) (acc ++ [d]) := by
  refine ⟨b.B, ⟨⟨b.st.le, fun a o e hb z => ?_⟩, fun a o e z => ?_⟩, upd_same, b.r.app (Reps.one r), b.I, b.O⟩
  · obtain ⟨x1, x2, x3⟩ := b.st.fr a o e hb z
    exact ⟨(upd_ne (fun q => by rw [q, n] at e; cases e)).trans x1, x2, x3⟩
  · obtain ⟨x1, x2⟩ := b.st.nc a o e z
    exact ⟨(upd_ne (fun q => by rw [q, n] at e; cases e)).trans x1, x2⟩
theorem lc_cons {k : TgF} {t : M Bool} {e : M D} {d : D} {ds ys : List D} {c2 : Cfg} (h : lcL vs k t e (d :: ds) c = .ok ys c2) :
    ∃ c1, k d (wipeC vs c) = some c1 ∧ ((∃ c3, t c1 = .ok false c3 ∧ lcL vs k t e ds c3 = .ok ys c2) ∨ ∃ c3 y c4 zs, t c1 = .ok true c3 ∧ e c3 = .ok y c4 ∧ lcL vs k t e ds c4 = .ok zs c2 ∧ ys = y :: zs) := by
  unfold lcL at h
  cases ek : k d (wipeC vs c) with
  | none => rw [ek] at h; cases h
  | some c1 =>
    rw [ek] at h
    dsimp only at h
    refine ⟨c1, rfl, ?_⟩
    cases et : t c1 with
    | stuck => rw [et] at h; cases h
    | err x c3 => rw [et] at h; cases h
    | ok b c3 =>
      rw [et] at h
      cases b with
      | false => exact .inl ⟨c3, rfl, h⟩
      | true =>
        dsimp only at h
        cases ee : e c3 with
        | stuck => rw [ee] at h; cases h
        | err x c3 => rw [ee] at h; cases h
        | ok y c4 =>
          rw [ee] at h
          dsimp only at h
          cases el : lcL vs k t e ds c4 with
          | stuck => rw [el] at h; cases h
          | err x c3 => rw [el] at h; cases h
          | ok zs c5 =>
            rw [el] at h
            cases h
            exact .inr ⟨c3, y, c4, zs, rfl, ee, el, rfl⟩
abbrev NoX : WX := fun _ _ _ _ => False
theorem Ctx.blk {s : Shared} {H : Hp} {scope : Scope} {cenv : Env} {fp : List Addr} (C : Ctx T W X) : Ctx T NoX (X.blk s H scope cenv fp) :=
  ⟨C.K, C.mg, fun u s' ⟨a, B, sI, pins, σ, H, cls, d, e, I, nb, up, sky, na, os, ag, w⟩ => w, PassesOwn.never, C.calm, C.nd⟩
abbrev SndTs (T : Tab) (W : WX) (X : Cx) (es : List Expr) (m : M Bool) : Prop := PTs X es (rd T REq W m)
theorem ts_nil : SndTs T W X [] (M.ret true) := ⟨fun pins s σ H Q I ⟨g, c, k, p⟩ => pts_nil.run pins s σ H Q I (Post.here (R := REq) k rfl p)⟩
theorem ts_one {t : Expr} {m : M Bool} (h : SndT T W X t m) : SndTs T W X [t] m := pts_one h
theorem ts_nilB {C : Ctx T W X} : SndTs T W X [] (M.ret true) := ts_nil
variable {elt tg iter : Expr} {ifs : List Expr} {scope : Scope} {own : List (Str × Nat)} {pos spos py : Pos} {mi : M (List D)} {k : TgF} {t : M Bool} {e : M D}
theorem lc_end {Q : VK} (hv : ∀ i ∈ is, i ∈ vs) (q : rd T (RF T) W (fLc vs mi k t e) σ H Q) : tLc (rd T (RW T) W mi) (rdG T is k) (rd T REq NoX t) (rd T (RV1 T) NoX e) vs σ H Q := by
  obtain ⟨g, c, kk, p⟩ := q
  refine ⟨g, c, kk, p.bnd.imp fun J H1 ⟨ds, g1, c1, s1, k1, w1, p1⟩ => fun Dn n => ?_⟩
  obtain ⟨Y, w, y⟩ := w1.ex
  cases el : lcL vs k t e ds c1 with
  | stuck => rw [el] at p1; exact p1.elim
  | err x c2 => rw [el] at p1; exact p1.elim
  | ok ys c2 =>
    rw [el] at p1
    dsimp only at p1
    by_cases z : sizeOk ys.length = true
    · rw [if_pos z] at p1
      have zl := line_of z
      obtain ⟨f1, f2, f3⟩ := k1.free n
      refine lc_it w (fun i H => ∃ gb c acc ws, Held T gb (L2.wipe σ vs) H (wipeC vs c) ∧ Blk T g1 H1 Dn gb H ws acc ∧ ∃ zs, lcL vs k t e (ds.drop i) c = .ok zs c2 ∧ ys = acc ++ zs)
        ⟨g1.reB (fun a => g1.B a ∨ a = Dn), c1, [], [], ?_, ⟨rfl, ?_, upd_same, rfl, f1, f2⟩, ys, by simpa using el, rfl⟩ (fun i H _ ⟨gb, c, acc, ws, k2, b, _⟩ => b.st.le.I.trans k2.sub) (fun i x H H' hi ⟨gb, c, acc, ws, k2, b, zs, e1, e2⟩ hy => ?_) fun H ⟨gb, c, acc, ws, k2, b, zs, e1, e2⟩ => ?_
      · refine Held.reB (k1.wipe.upd n) (fun a ha => ?_) (fun a i o nb hb => ?_)
        · rcases ha with ha | ha
          · have := k1.bs a ha
            rw [upd_ne (fun q => this (by rw [q]; exact n))]; exact this
          · rw [ha, upd_same]; simp
        · rcases hb with hb | hb
          · exact nb hb
          · rw [hb, f2] at o; cases o
      · exact ⟨⟨⟨⟨fun _ _ h => h, ⟨[], by simp [Gh.reB]⟩⟩, rfl, rfl⟩, fun a u e _ oo => ⟨(upd_ne (fun z => by rw [z, n] at e; cases e)).trans e, rfl, oo⟩⟩, fun a u e oo => ⟨(upd_ne (fun z => by rw [z, n] at e; cases e)).trans e, oo⟩⟩
      · have e0 : ds.drop i = ds[i] :: ds.drop (i + 1) := List.drop_eq_getElem_cons hi
        rw [e0] at e1
        have le : GL g1 gb := ⟨b.st.le.I, b.st.le.cl⟩
        obtain ⟨g2, s2, k3, r3⟩ := y gb _ H (wipeC vs c) i x H' ds[i] le k2 (by simp [hi]) hy
        have b2 := b.step s2
        obtain ⟨c3, ek, h3⟩ := lc_cons e1
        refine ⟨g2, wipeC vs c, ds[i], k3, r3, ?_⟩
        rw [ek]
        intro σ2 sm k4
        have ew : L2.wipe σ2 vs = L2.wipe σ vs := (wipe_same sm hv).trans wipe_wipe
        refine ⟨ew, g2, c3, k4, ?_⟩
        rcases h3 with ⟨c4, et, h3⟩ | ⟨c4, yv, c5, zs', et, ee, h3, ez⟩
        · rw [et]
          intro bb g3 H3 s3 k5 eb
          have eb : bb = false := eb
          subst eb
          rw [if_neg Bool.false_ne_true]
          exact ⟨g3, c4, acc, ws, ew ▸ k5.wipe, b2.step s3, zs, h3, e2⟩
        · rw [et]
          intro bb g3 H3 s3 k5 eb
          have eb : bb = true := eb
          subst eb
          rw [if_pos rfl]
          refine ⟨g3, c4, k5, ?_⟩
          rw [ee]
          intro v g4 H4 s4 k6 r6
          have b4 := (b2.step s3).step s4
          refine ⟨ws, b4.h, ?_, g4, c5, acc ++ [yv], ws ++ [v], ew ▸ (k6.updF b4.I b4.O).wipe, b4.put n r6, zs', h3, by rw [e2, ez]; simp⟩
          have : ys.length = acc.length + (zs'.length + 1) := by rw [e2, ez]; simp
          rw [b4.r.length]
          omega
      · rw [List.drop_length] at e1
        have e1 : (.ok [] c : Out (List D)) = .ok zs c2 := e1
        cases e1
        rw [List.append_nil] at e2
        subst e2
        have k3 := k2.reB (B := g1.B) (fun a ha => k2.bs a (by rw [b.B]; exact .inl ha)) fun a i o nb hb => nb (by rw [b.B]; exact .inl hb)
        exact p1 (.ref Dn) _ H b.st (Held.rest k1 b.st.le.toGL k3) ⟨Dn, ws, rfl, b.h, Reps.gl GL.reB _ _ b.r, b.I, b.O, f3⟩
    · rw [if_neg z] at p1; exact p1.elim
theorem f_lc (C : Ctx T W X) (hi : SndI T W X tg iter mi) (ok : BlkOk X.N X.env.scope scope own)
    (hg : ∀ (s : Shared) (H : Hp) (A : Addr) (cl : List (Str × Addr)) (fp : List Addr), Ctx T NoX (X.blk s H scope (compEnvC scope cl A X.env) fp) → SndG T (X.blk s H scope (compEnvC scope cl A X.env) fp) is tg k) (ht : ∀ (s : Shared) (H : Hp) (A : Addr) (cl : List (Str × Addr)) (fp : List Addr), Ctx T NoX (X.blk s H scope (compEnvC scope cl A X.env) fp) → SndTs T NoX (X.blk s H scope (compEnvC scope cl A X.env) fp) ifs t)
    (he : ∀ (s : Shared) (H : Hp) (A : Addr) (cl : List (Str × Addr)) (fp : List Addr), Ctx T NoX (X.blk s H scope (compEnvC scope cl A X.env) fp) → SndE T NoX (X.blk s H scope (compEnvC scope cl A X.env) fp) elt e) (hv : ∀ i ∈ is, i ∈ own.map (·.2) := by decide) (hs : ∀ x, foldedSetIterable iter X.env x = pure x := by intro _; rfl) :
    SndF T W X (.ListComp elt [⟨tg, iter, ifs, 0⟩] scope pos) (fLc (own.map (·.2)) mi k t e) :=
  PE.imp (pe_lc C.calm C.nd hi ok (fun s H A cl fp => hg s H A cl fp C.blk) (fun s H A cl fp => ht s H A cl fp C.blk) (fun s H A cl fp => he s H A cl fp C.blk) hs) fun σ H Q q => lc_end hv q
/-- name = [..] on one line -/
theorem s_setLc (i : Nat) {y : Str} (C : Ctx T W X) (hi : SndI T W X tg iter mi) (ok : BlkOk X.N X.env.scope scope own)
    (hg : ∀ (s : Shared) (H : Hp) (A : Addr) (cl : List (Str × Addr)) (fp : List Addr), Ctx T NoX (X.blk s H scope (compEnvC scope cl A X.env) fp) → SndG T (X.blk s H scope (compEnvC scope cl A X.env) fp) is tg k) (ht : ∀ (s : Shared) (H : Hp) (A : Addr) (cl : List (Str × Addr)) (fp : List Addr), Ctx T NoX (X.blk s H scope (compEnvC scope cl A X.env) fp) → SndTs T NoX (X.blk s H scope (compEnvC scope cl A X.env) fp) ifs t)
    (he : ∀ (s : Shared) (H : Hp) (A : Addr) (cl : List (Str × Addr)) (fp : List Addr), Ctx T NoX (X.blk s H scope (compEnvC scope cl A X.env) fp) → SndE T NoX (X.blk s H scope (compEnvC scope cl A X.env) fp) elt e) (hv : ∀ i ∈ is, i ∈ own.map (·.2) := by decide) (hs : ∀ x, foldedSetIterable iter X.env x = pure x := by intro _; rfl)
    (hy : X.N[i]? = some y := by rfl) (hyl : X.env.scope.names.lookup y = some .local := by rfl) (hsw : swapsWith (.ListComp elt [⟨tg, iter, ifs, 0⟩] scope pos) (some (.Name y py)) spos.line X.env = pure true := by exact sw_true rfl rfl rfl rfl) :
    SndS T W X (.Assign [.Name y py] (.ListComp elt [⟨tg, iter, ifs, 0⟩] scope pos) spos) (sOwn i (fLc (own.map (·.2)) mi k t e)) :=
  PS.imp (ps_setLc C.calm C.nd hy hyl hsw hi ok (fun s H A cl fp => hg s H A cl fp C.blk) (fun s H A cl fp => ht s H A cl fp C.blk) (fun s H A cl fp => he s H A cl fp C.blk) hs) fun E σ H ⟨g, c, kk, p⟩ => by
    show tLc _ _ _ _ _ σ H _
    refine lc_end (W := W) hv ⟨g, c, kk, (PostS.bnd (R := RF T) p).imp fun v H1 ⟨xs, g1, c1, s1, k1, r1, p1⟩ => ?_⟩
    obtain ⟨g2, s2, k2⟩ := held_own (i := i) k1 r1
    exact p1 _ g2 H1 s2 k2
end
end TL

end
section
set_option Elab.async false
set_option linter.all false
set_option maxRecDepth 100000
/-! Tl19: raise, try. -/
namespace TL
open PySem L2
section
variable {T : Tab} {W : WX} {X : Cx} {g g' : Gh} {σ σ' : L2.St} {H H' : Hp} {c c' : Cfg} {pos p p1 p2 p3 : Pos}
/-- raise C('text'), C without own __init__ -/
def sRaise0 (Cx : Nat) : M Flow := fun c => .err ⟨Cx, []⟩ c
structure Rz0 (T : Tab) (Ci : Nat) (bmB : List Value) (newId : String) : Prop where
  q : PySem.W.excIn T.K (T.cls Ci) bmB newId = true
  kC : PySem.W.keepIn T.K (.ref (T.cls Ci)) = true
  r1 : PySem.W.subIn T.K (.ref (T.cls Ci)) (.type "BaseException") = some true
  r2 : PySem.W.typeIn T.K (.ref (T.cls Ci)) = some (.type "type")
theorem s_raise0 {Ci : Nat} {bmB : List Value} {B newId initId : String} {x m : Str} {j : Nat} (C : Ctx T W X) (F : ExcBaseFacts B newId initId bmB) (R : Rz0 T Ci bmB newId) (gC : T.mg x = some (.ref (T.cls Ci))) (hg : Gl X x := by rfl)
    (hdb : (x == ("__debug__" : Str)) = false := by decide) : SndS T W X (.Raise (some (.Call (.Name x p) [.Constant (.str m) j p2] [] p1)) none pos) (sRaise0 Ci) :=
  PS.imp (ps_raise C.calm C.tk (pmk_own F (by rw [C.K]; exact R.q) (by rw [C.mg]; exact gC) (by rw [C.K]; exact R.kC) (raises_own (by rw [C.K]; exact R.r1) (by rw [C.K]; exact R.r2)) hg hdb)) fun E σ H ⟨g, c, k, q⟩ =>
    q _ _ σ g H Stp.refl k ⟨rfl, .inl rfl⟩

/-- F.__init__(self, ..), F an own class that has no __init__ of its own above ValueError -/
theorem pe_finit {x : Str} {Cf : Addr} {mc : Value} {e : Expr} {es : List Expr} {ta : TA} {pl : Sem Bool} (hg : Gl X x) (hm : X.mg x = some (.ref Cf)) (R : ClX.CRead X.K Cf mc) (vV : PySem.W.findCls X.K (.ref Cf) mc "__init__" = some (.val (.builtin "ValueError.__init__")))
    (ha : PA X (e :: es) ta) (hdb : (x == ("__debug__" : Str)) = false := by decide)
    (hc : eval (.Call (.Attribute (.Name x p1) "__init__" p2) (e :: es) [] pos) X.env = (do
      let ov ← eval (.Name x p1) X.env
      standAt p2.atName
      let (f, first) ← holding [ov] (getMethod ov "__init__" pl)
      callWith pos f first (backTo pos (starEach (e :: es) X.env)) (backToKw pos (keywordEach [] X.env))) := by rfl)
    (he : starEach (e :: es) X.env = (false, eval e X.env) :: starEach es X.env := by rfl) (hpl : (backTo pos (starEach es X.env)).any (·.1) = false := by rfl) :
    PE X (.Call (.Attribute (.Name x p1) "__init__" p2) (e :: es) [] pos) (tVeI X.K ta) := by
  refine ⟨fun pins s σ H Q I h => ?_⟩
  refine PySem.W.methodCall_KW (ld_glob I hg hm ?_ hdb) hc
  refine PySem.W.method_cls I.kIn R.ga (PySem.W.cls_value I.kIn R.rd vV (by decide +kernel) ?_)
  show wpAny _ _ (callWith pos (Value.builtin "ValueError.__init__") [] (backTo pos (starEach (e :: es) X.env)) []) _ _ _
  refine PyProof.Rows.callWith_method1 (thn (ha.run pos pins _ σ H _ (I.tok _) h) fun us s1 ⟨vs, H1, I1, r1, a, C, ws, ev, hl, T, ea, q⟩ => ?_) he hpl
  subst ev
  cases r1 with
  | @cons _ u0 _ ur ra rw' =>
    obtain rfl : u0 = Value.ref a := ra
    have hlen : ur.length ≤ sizeLine := by
      rw [← Paired.length rw', sizeLine_eq]
      omega
    exact oinit_ok T I1 ea hlen fun s' J => ⟨.non, H1, J, rfl, q⟩
/-- the promise of such a class's __init__: one field -/
def spX (C : Addr) (f : Str) : Sp := fun vs H Q _ => ∃ a v, vs = [.ref a, v] ∧ H a = some (exo a C none) ∧ ∀ dx, H dx = none → dx ≠ a → Q .non (L2.upd (L2.upd H dx (exd dx [(f, v)])) a (exo a C (some dx)))
structure RzI (T : Tab) (Ci fl fi : Nat) : Prop where
  ox : OexC T.K (T.cls Ci)
  iC : PySem.W.findIn T.K (.ref (T.cls Ci)) "__init__" = some (some (.ref (T.fa fi)))
  tI : PySem.W.typeIn T.K (.ref (T.fa fi)) = some (.type "function")
  no : PySem.W.findIn T.K (.ref (T.cls Ci)) (T.nm fl) = some none
/-- the def: F.__init__(self, e); self.f = x -/
theorem fn_X {P : Program} {w : World} {base : Heap} {k : Nat} {Ci fl fi : Nat} {qual name x ff s1 s2 : Str} {params : Arguments} {scope : Scope} {fd : FuncData} {Cf : Addr} {mc : Value} {e : Expr} {q1 q2 q3 q4 q5 q6 q7 q8 q9 : Pos}
    (F : FunD T.K name qual params [.Expr (.Call (.Attribute (.Name x q1) "__init__" q2) [.Name s1 q3, e] [] q4) q5, .Assign [.Attribute (.Name s1 q6) ff q7] (.Name s2 q8) q9] scope [] [] (T.fa fi) fd) (S : FnScope [s1, s2] [s1, s2] scope) (R : RzI T Ci fl fi) (hf : T.nm fl = ff)
    (hm : T.mg x = some (.ref Cf)) (Rd : ClX.CRead T.K Cf mc) (vV : PySem.W.findCls T.K (.ref Cf) mc "__init__" = some (.val (.builtin "ValueError.__init__")))
    (hb : ∀ (cdv : Value) (A : Around) (outer : List Env) (s : Shared) (H : Hp) (E : XK), let X := cxOf (L2.CX P w) P w T.K T.mg base [s1, s2] qual scope (T.fa fi) cdv A outer s H E
      (∃ te : TE, PE X e te ∧ ∀ (v w : V) (H : Hp) (Q : VK), (∀ u H', H' = H → Q u H') → te (start [s1, s2] [v, w]) H Q) ∧ PE X (.Name s1 q3) (tVar 0) ∧ PE X (.Name s1 q6) (tVar 0) ∧ PE X (.Name s2 q8) (tVar 1) ∧ Gl X x ∧
      (∃ pl : Sem Bool, eval (.Call (.Attribute (.Name x q1) "__init__" q2) [.Name s1 q3, e] [] q4) X.env = (do
        let ov ← eval (.Name x q1) X.env
        standAt q2.atName
        let (f, first) ← holding [ov] (getMethod ov "__init__" pl)
        callWith q4 f first (backTo q4 (starEach [.Name s1 q3, e] X.env)) (backToKw q4 (keywordEach [] X.env)))) ∧
      starEach [.Name s1 q3, e] X.env = (false, eval (.Name s1 q3) X.env) :: starEach [e] X.env ∧ starEach [e] X.env = (false, eval e X.env) :: starEach [] X.env ∧ (backTo q4 (starEach [e] X.env)).any (·.1) = false ∧
      swapsWith (.Call (.Attribute (.Name x q1) "__init__" q2) [.Name s1 q3, e] [] q4) none q5.line X.env = pure false ∧ swapsWith (.Name s2 q8) (some (.Attribute (.Name s1 q6) ff q7)) q9.line X.env = pure false)
    (hdb : (x == ("__debug__" : Str)) = false := by decide) :
    FnOk P w T.K T.mg base (L2.CX P w) (k + 1) (T.fa fi) fd [s1, s2] (spX (T.cls Ci) ff) := by
  refine F.ok S (fun vs H Q E ⟨a, v, e, _⟩ => by rw [e]; rfl) (fun cdv A outer s H vs Q E hr ⟨a, v, ev, ha, hq⟩ => ?_)
  obtain ⟨⟨te, he, hte⟩, h0, h0', h1, gl, ⟨pl, hc⟩, hs1, hs2, hpl, sw1, sw2⟩ := hb cdv A outer s H E
  refine ⟨_, pss_cons (ps_expr (pe_finit gl hm Rd vV (pa_cons h0 (pa_cons he pa_nil hs2) hs1) hdb hc hs1 hpl) sw1) (pss_one (ps_ost h0' h1 sw2)), ?_⟩
  subst ev
  refine ⟨.ref a, rfl, hte _ _ _ _ fun u H' eH => ?_⟩
  subst eH
  refine ⟨a, T.cls Ci, [u], rfl, by show 1 ≤ 1000; decide, R.ox, ha, v, rfl, .ref a, rfl, a, T.cls Ci, rfl, R.ox, by rw [← hf]; exact R.no, .inl ⟨ha, fun dx n ne => hq dx n ne⟩⟩
/-- raise C(e), C with such an __init__ -/
def sRaiseI (Ci fl : Nat) (ma : M (List D)) : M Flow := M.bnd ma fun ds c => match ds with
  | [d] => .err ⟨Ci, [(fl, d)]⟩ c
  | _ => .stuck
theorem s_raiseI {Ci fl fi kk : Nat} {x : Str} {e : Expr} {ma : M (List D)} {fd : FuncData} {ps : List Str} (C : Ctx T W X) (R : RzI T Ci fl fi) (Fk : FnOk X.prog X.w T.K T.mg X.base (L2.CX X.prog X.w) kk (T.fa fi) fd ps (spX (T.cls Ci) (T.nm fl))) (hb : Binds T.K fd ps []) (hr : Room (kk + 1) X.A)
    (gC : T.mg x = some (.ref (T.cls Ci))) (ha : SndA T W X [e] ma) (hg : Gl X x := by rfl) (hdb : (x == ("__debug__" : Str)) = false := by decide) (he : starEach [e] X.env = (false, eval e X.env) :: starEach [] X.env := by rfl) (hpl : (backTo p1 (starEach [] X.env)).any (·.1) = false := by rfl) :
    SndS T W X (.Raise (some (.Call (.Name x p) [e] [] p1)) none pos) (sRaiseI Ci fl ma) := by
  have pm := pmk_oex (X := X) (CX := L2.CX X.prog X.w) (x := x) (C := T.cls Ci) (fI := T.fa fi) (k := kk) (fd := fd) (ps := ps) (sp := spX (T.cls Ci) (T.nm fl)) (ds := []) (dvs := []) (e := e) (es := []) (p := p) (pos := p1)
    (by rw [C.K]; exact R.ox) (by rw [C.K]; exact R.iC) (by rw [C.K]; exact R.tI) (by rw [C.K, C.mg]; exact Fk) hr (by rw [C.K]; exact hb) .nil (fun pins σ H s e s' I cx => passAt (W := NoX) (fun u s' ⟨_, _, _, _, _, _, _, _, _, _, _, _, _, _, _, _, w⟩ => w.elim) σ pins H s e s' I cx) hg (by rw [C.mg]; exact gC) ha hdb he hpl
  refine PS.imp (ps_raise C.calm C.tk pm) fun E σ H ⟨g, c, k, q⟩ => ⟨g, c, k, (PostS.bnd (R := RVs T) q).imp fun vs H1 ⟨ds, g1, c1, s1, k1, r1, q1⟩ => ?_⟩
  match ds, r1, q1 with
  | [], _, q1 => exact q1.elim
  | _ :: _ :: _, _, q1 => exact q1.elim
  | [d], ⟨v, vr, e1, rv, e2⟩, q1 =>
    have e2 : vr = [] := e2
    subst e1 e2
    refine ⟨by show 1 ≤ 1000; decide, fun a na => ⟨a, v, rfl, upd_same, fun dx n ne => ⟨rfl, dx, [(T.nm fl, v)], upd_same, ?_, ?_, ?_⟩⟩⟩
    · rw [upd_ne ne, upd_same]
    · rw [upd_ne ne] at n; exact n
    · have n1 : H1 dx = none := by rw [upd_ne ne] at n; exact n
      have eH : L2.upd (del (L2.upd (L2.upd (L2.upd H1 a (exo a (T.cls Ci) none)) dx (exd dx [(T.nm fl, v)])) a (exo a (T.cls Ci) (some dx))) a) dx (.xd [(T.nm fl, v)]) = L2.upd H1 dx (.xd [(T.nm fl, v)]) := by
        funext b
        by_cases h1 : b = dx
        · rw [h1, upd_same, upd_same]
        · rw [upd_ne h1, upd_ne h1]
          by_cases h2 : b = a
          · rw [h2, del_same, na]
          · rw [del_ne h2, upd_ne h2, upd_ne h1, upd_ne h2]
      rw [eH]
      obtain ⟨f1, f2, f3⟩ := k1.free n1
      exact q1 _ _ σ g1 _ (upd_stepE k1 n1).toStp (k1.upd n1) ⟨rfl, .inr ⟨dx, _, rfl, upd_same, ⟨v, [], rfl, rv, rfl⟩, f3⟩⟩
end
end TL

end
section
set_option Elab.async false
set_option linter.all false
set_option maxRecDepth 100000
/-! Tl20: try with several clauses, named or not. -/
namespace TL
open PySem L2 PySem.Spec PyProof.Rows
abbrev TSu := Addr → Value → Option Addr → TS
/-- the ends behind a named clause: the name goes -/
def endsAs (i : Option Nat) (D : Ends) : Ends := match i with
  | none => D
  | some i => { nx := fun σ' H' => D.nx (σ'.set i none) H', rt := D.rt, bk := fun σ' H' => D.bk (σ'.set i none) H', ct := fun σ' H' => D.ct (σ'.set i none) H' }
def stAs (i : Option Nat) (σ : L2.St) (a : Addr) : L2.St := match i with
  | none => σ
  | some i => σ.set i (some (.ref a))
def wManyA (K : PySem.W.Frag) (Wout : WX) (D : Ends) : List (Value × Option Nat × TSu) → WX
  | [] => Wout
  | (c, i, ts) :: r => fun cls d σ H => ∃ b, PySem.W.exmOne K cls c = some b ∧ (b = true → ∀ a, H a = none → ts a cls d (endsAs i D) (stAs i σ a) H) ∧ (b = false → wManyA K Wout D r cls d σ H)
/-- a clause's name has a slot -/
inductive NmOk (X : Cx) : Option Str → Option Nat → Prop
  | none : NmOk X none none
  | some {n : Str} {i : Nat} (hi : X.N[i]? = some n) (hln : X.env.kindOf n = some .local) : NmOk X (some n) (some i)
inductive HdsA (X : Cx) : List ExceptHandler → List (Value × Option Nat × TSu) → Prop
  | nil : HdsA X [] []
  | cons {x : Str} {nm : Option Str} {i : Option Nat} {c : Value} {ts : TSu} {b₀ : Stmt} {suite : List Stmt} {np pos' : Pos} {hds : List ExceptHandler} {l : List (Value × Option Nat × TSu)} (hc : Names X x c) (hn : NmOk X nm i)
      (hsu : ∀ (a : Addr) (oe : Obj) (cls : Value) (d : Option Addr) (pn : List (Addr × Obj)), Zc cls d oe → (∃ vs, oe.data = .fields vs) → PSs (X.suite a ((a, oe) :: pn)) (b₀ :: suite) (ts a cls d)) (r : HdsA X hds l) :
      HdsA X (.ExceptHandler (some (.Name x np)) nm (b₀ :: suite) pos' :: hds) ((c, i, ts) :: l)
section
variable {X : Cx} {body : List Stmt} {h₀ : ExceptHandler} {hds : List ExceptHandler} {l : List (Value × Option Nat × TSu)} {pos : Pos} {tb : WX → TS} {Wout : WX}
theorem ps_try_A (hs : X.stack = X.env :: X.outer) (hf : X.env.frame = some X.env.locals) (hN : X.N.Nodup) (tk : Takes X Wout)
    (hb : ∀ (W : WX) (pn : List (Addr × Obj)) (xe : Value → Shared → Prop), Takes (X.tr pn xe) W → PassesOwn (model X.prog X.w) X.A X.env xe → PSs (X.tr pn xe) body (tb W))
    (hh : HdsA X (h₀ :: hds) l) : PS X (.Try body (h₀ :: hds) [] [] pos) (fun D σ H => tb (wManyA X.K Wout D l) D σ H) := by
  refine ⟨fun pins s σ H D I h => ?_⟩
  have ok := I.ok
  have hfr : X.A.frames = some (X.env :: X.outer) := by rw [ok.frames, hs]
  refine wpAny_Try_except ?_
  refine wpAny_mono ((hb (wManyA X.K Wout D l) (X.pn ++ pins) (fun e s₁ => wpAny (model X.prog X.w) X.A (noteFrame e X.env) (fun _ s₂ => wpAny (model X.prog X.w) X.A (setFlight e none) (fun _ s₃ =>
    wpAny (model X.prog X.w) X.A (handleBy e X.env (h₀ :: hds)) (SP X pins D) X.xe s₃) X.xe s₂) X.xe s₁) (fun u s' xx => ?_) PassesOwn.looking).run [] s σ H D (I.toTry _) h) (fun f s1 hsp => ?_) (fun e s1 he => he)
  · -- the catch
    obtain ⟨a, B, sI, pins', σ', H', cls, d, rfl, J', nb, up, sky, na, os, ag, w⟩ := xx
    have J : Inv X pins σ' H' sI := J'.ofTry ok
    have sky' : Sky B (X.env :: X.outer) a (Zc cls d) X.env.locals s'.heap := by rw [← hs]; exact sky
    show wpAny (model X.prog X.w) X.A (noteFrame (.ref a) X.env) _ _ _
    refine Sky.land Zc.steady hfr hf sky' fun h3 fl3 up3 => ?_
    have J3 : Inv X pins σ' H' { s' with heap := h3 } := J.landed nb fl3.1 (up.trans up3) os ag
    obtain ⟨oe3, vs3, he3, hz3, hd3⟩ := fl3.there
    have notFr : ∀ {h : Heap} {o : Obj} {vs : Array Value}, h.FunFrames B (X.env :: X.outer) → h.get? a = some o → o.data = .fields vs → a ∉ frs (X.env :: X.outer) := fun {h o vs} ff e dd hm => by
      obtain ⟨_, o', e', hnf⟩ := ff.mem hm
      rw [e] at e'; cases e'
      exact hnf _ dd
    have nfr := notFr fl3.2.2.1 he3 hd3
    have nL : a ≠ X.env.locals := fun z => nfr (List.mem_filterMap.mpr ⟨X.env, List.mem_cons_self, by rw [hf, z]⟩)
    have nF : a ∉ X.fs := fun hm => by
      obtain ⟨e, he, q⟩ := List.mem_filterMap.mp hm
      exact nfr (List.mem_filterMap.mpr ⟨e, List.mem_cons_of_mem _ he, q⟩)
    have S3 := J3.suite he3 hd3 na nL nF
    have go : ∀ {hds' : List ExceptHandler} {l' : List (Value × Option Nat × TSu)}, HdsA X hds' l' → wManyA X.K Wout D l' cls d σ' H' →
        wpAny (model X.prog X.w) X.A (handleBy (.ref a) X.env hds') (SP X pins D) X.xe { s' with heap := h3 } := by
      intro hds' l' hk
      induction hk with
      | nil =>
        intro w
        refine wpAny_handleBy_nil ?_
        obtain ⟨k1, k2, k3, oe, vs, T, oT, ts', he, hz, hd, h1, hr⟩ := id fl3
        unfold PySem.passOn
        refine wpAny_bind (wpAny_field he hd h1 ?_)
        rw [if_neg (show ¬ ((Value.ref T == Value.none) = true) from by simp)]
        have fin : wpAny (model X.prog X.w) X.A (setFlight (.ref a) X.env.frame) (fun _ s4 => wpAny (model X.prog X.w) X.A (throw (.ref a) : Sem PySem.Flow) (SP X pins D) X.xe s4) X.xe { s' with heap := h3 } := by
          rw [hf]
          refine HandSPX.setFlight_upZ fl3 fun h4 hh4 up4 => wpAny_throw (tk _ _ ?_)
          exact ⟨a, B, sI, pins, σ', H', cls, d, rfl, J, nb, (up.trans up3).trans up4, .inr (.inr (by rw [hs]; exact hh4)), na, os, ag, w⟩
        first
          | exact wpAny_bind (wpAny_pure (wpAny_bind fin))
          | exact wpAny_bind fin
      | @cons x nm i c ts b₀ suite np pos' hds2 l2 hc hn hsu r ih =>
        intro w
        obtain ⟨b, hb1, hyes, hno⟩ := w
        refine wpAny_handleBy_cons (codeAny_handlers_test ?_) (by intro q; cases q)
        have LT : PySem.W.Looks (model X.prog X.w) h3 (typeOf (.ref a)) cls := fun A Q E s k q => wpAny_typeOf_ref (k _ _ he3) (by rw [hz3.1]; exact q)
        have LM := PySem.W.exm_one (M := model X.prog X.w) (J3.kIn) LT hb1
        have test : ∀ {Q : Value → Shared → Prop} {E : Value → Shared → Prop}, Q c { s' with heap := h3 } → wpAny (model X.prog X.w) (X.A.mark (some (.ref a))) (eval (.Name x np) X.env) Q E { s' with heap := h3 } := fun {Q E} q => by
          obtain ⟨hg, hdbg, hm | ⟨hm, hv, hnn⟩⟩ := hc
          · exact ld_glob (X := X.suite a ((a, oe3) :: (X.pn ++ pins))) S3 hg hm q hdbg
          · exact ld_blt (X := X.suite a ((a, oe3) :: (X.pn ++ pins))) S3 hg hm hv q hnn hdbg
        refine test (LM.here ?_)
        cases b with
        | true =>
          cases hn with
          | none =>
            refine codeAny_handlers_suite ?_
            refine HandSPX.lands_againZ fl3 fun h4 fl4 up4 => ?_
            have J4 : Inv X pins σ' H' { s' with heap := h4 } := J.landed nb fl4.1 ((up.trans up3).trans up4) os ag
            obtain ⟨oe4, vs4, he4, hz4, hd4⟩ := fl4.there
            have S4 := J4.suite he4 hd4 na nL nF
            refine wpAny_mono ((hsu a oe4 cls d (X.pn ++ pins) hz4 ⟨_, hd4⟩).run [] _ _ H' _ S4 (hyes rfl a na)) (fun f s6 hsp => ?_) (fun _ _ z => False.elim z)
            cases f with
            | next =>
              obtain ⟨σ6, H6, S6, q6⟩ := hsp
              exact ⟨_, _, S6.unsuite ok, q6⟩
            | brk =>
              obtain ⟨σ6, H6, S6, q6⟩ := hsp
              exact ⟨_, _, S6.unsuite ok, q6⟩
            | cont =>
              obtain ⟨σ6, H6, S6, q6⟩ := hsp
              exact ⟨_, _, S6.unsuite ok, q6⟩
            | ret u =>
              obtain ⟨v6, σ6, H6, S6, r6, q6⟩ := hsp
              exact ⟨_, _, _, S6.unsuite ok, r6, q6⟩
          | @some n i hi hln =>
            refine codeAny_handlers_suite_as ?_
            refine HandSPX.lands_againZ fl3 fun h4 fl4 up4 => ?_
            have J4 : Inv X pins σ' H' { s' with heap := h4 } := J.landed nb fl4.1 ((up.trans up3).trans up4) os ag
            obtain ⟨oe4, vs4, he4, hz4, hd4⟩ := fl4.there
            have S4 := J4.suite he4 hd4 na nL nF
            refine store_ok (X := X.suite a ((a, oe4) :: (X.pn ++ pins))) (v := .ref a) S4 hN hi (.inl hln) rfl (fun s5 S5 => ?_) (.inr hln)
            refine wpAny_mono ((hsu a oe4 cls d (X.pn ++ pins) hz4 ⟨_, hd4⟩).run [] s5 _ H' _ S5 (hyes rfl a na)) (fun f s6 hsp => ?_) (fun _ _ z => False.elim z)
            have end_ : ∀ {σ6 : L2.St} {H6 : Hp} {Q : Shared → Prop}, Inv (X.suite a ((a, oe4) :: (X.pn ++ pins))) [] σ6 H6 s6 → (∀ s7, Inv X pins (σ6.set i none) H6 s7 → Q s7) →
                wpAny (model X.prog X.w) X.A (do bindName X.env n .none; unbindBehindTheSuite X.env n pos') (fun _ s7 => Q s7) X.xe s6 := fun {σ6 H6 Q} S6 hq => gone_ok (S6.unsuite ok) hN hi hln hq
            cases f with
            | next =>
              obtain ⟨σ6, H6, S6, q6⟩ := hsp
              exact end_ S6 fun s7 J7 => ⟨_, _, J7, q6⟩
            | brk =>
              obtain ⟨σ6, H6, S6, q6⟩ := hsp
              exact end_ S6 fun s7 J7 => ⟨_, _, J7, q6⟩
            | cont =>
              obtain ⟨σ6, H6, S6, q6⟩ := hsp
              exact end_ S6 fun s7 J7 => ⟨_, _, J7, q6⟩
            | ret u =>
              obtain ⟨v6, σ6, H6, S6, r6, q6⟩ := hsp
              exact end_ S6 fun s7 J7 => ⟨_, _, _, J7, r6, q6⟩
        | false =>
          show wpAny _ X.A (handleBy (.ref a) X.env hds2) _ _ _
          exact ih (hno rfl)
    exact go hh w
  · cases f with
    | next =>
      obtain ⟨σ', H', J', q⟩ := hsp
      exact wpAny_execs_nil ⟨σ', H', J'.ofTry ok, q⟩
    | brk =>
      obtain ⟨σ', H', J', q⟩ := hsp
      exact ⟨σ', H', J'.ofTry ok, q⟩
    | cont =>
      obtain ⟨σ', H', J', q⟩ := hsp
      exact ⟨σ', H', J'.ofTry ok, q⟩
    | ret u =>
      obtain ⟨v, σ', H', J', r, q⟩ := hsp
      exact ⟨v, σ', H', J'.ofTry ok, r, q⟩
end
end TL

end
section
set_option Elab.async false
set_option linter.all false
set_option maxRecDepth 100000
/-! Tl21: try, by trees. -/
namespace TL
open PySem L2
abbrev Hd := Nat × Option Nat × (Exc → M Flow)
def setN (io : Option Nat) (c : Cfg) : Cfg := match io with
  | some i => setS i .no c
  | none => c
def endH (io : Option Nat) : Out Flow → Out Flow
  | .ok f c => .ok f (setN io c)
  | _ => .stuck
def tryH (XT : Nat → Nat → Option Bool) (x : Exc) (c : Cfg) : List Hd → Out Flow
  | [] => .err x c
  | (k, io, m) :: r => match XT x.C k with
    | none => .stuck
    | some false => tryH XT x c r
    | some true => endH io (m x (setN io c))
def sTry (XT : Nat → Nat → Option Bool) (b : M Flow) (hs : List Hd) : M Flow := fun c => match b c with
  | .ok f c' => .ok f c'
  | .err x c' => tryH XT x c' hs
  | .stuck => .stuck
def XtOk (T : Tab) (XT : Nat → Nat → Option Bool) : Prop := ∀ i j b, XT i j = some b → PySem.W.exmOne T.K (.ref (T.cls i)) (.ref (T.cls j)) = some b
section
variable {T : Tab} {W : WX} {X : Cx} {g g' : Gh} {σ σ' : L2.St} {H H' : Hp} {c c' : Cfg} {pos p p1 p2 p3 : Pos}
def rdH (T : Tab) (cls : Value) (d : Option Addr) (io : Option Nat) (a : Addr) (m : Exc → M Flow) : TS := fun E σ H => ∃ g c x, Held T g σ H c ∧ ExcR T g H cls d x ∧ (∀ j, io = some j → j < σ.length → σ[j]? = some (some (.ref a))) ∧ PostS T NoX g H E (m x c)
def SndH (T : Tab) (X : Cx) (io : Option Nat) (suite : List Stmt) (m : Exc → M Flow) : Prop :=
  ∀ (a : Addr) (oe : Obj) (cls : Value) (d : Option Addr) (pn : List (Addr × Obj)), Zc cls d oe → (∃ vs, oe.data = .fields vs) → PSs (X.suite a ((a, oe) :: pn)) suite (rdH T cls d io a m)
inductive HdsT (T : Tab) (X : Cx) : List ExceptHandler → List Hd → Prop
  | nil : HdsT T X [] []
  | cons {x : Str} {nm : Option Str} {i : Option Nat} {k : Nat} {m : Exc → M Flow} {b₀ : Stmt} {suite : List Stmt} {np pos' : Pos} {hds : List ExceptHandler} {l : List Hd} (hc : Names X x (.ref (T.cls k))) (hn : NmOk X nm i)
      (hsu : SndH T X i (b₀ :: suite) m) (r : HdsT T X hds l) : HdsT T X (.ExceptHandler (some (.Name x np)) nm (b₀ :: suite) pos' :: hds) ((k, i, m) :: l)
def lower (T : Tab) : List Hd → List (Value × Option Nat × TSu)
  | [] => []
  | (k, io, m) :: r => (.ref (T.cls k), io, fun a cls d => rdH T cls d io a m) :: lower T r
theorem hds_lower {hds : List ExceptHandler} {l : List Hd} (h : HdsT T X hds l) : HdsA X hds (lower T l) := by
  induction h with
  | nil => exact .nil
  | cons hc hn hsu r ih => exact .cons hc hn hsu ih
theorem held_none {i : Nat} (k : Held T g σ H c) {o : Option V} : Held T g (σ.set i o) H (setS i .no c) := by
  refine ⟨k.sub, k.ow, k.bs, fun j t e => ?_, k.cn, by simpa [setS] using k.ln, k.ce⟩
  have e : (c.sl.set i .no)[j]? = some t := e
  by_cases q : j = i
  · subst q
    by_cases hl : j < c.sl.length
    · rw [List.getElem?_set_self hl] at e; cases e; trivial
    · rw [List.getElem?_eq_none (by simpa using hl)] at e; cases e
  · rw [List.getElem?_set_ne (Ne.symm q)] at e
    exact (k.sl j t e).at (List.getElem?_set_ne (Ne.symm q))
/-- a clause's ends -/
theorem endH_post {E : Ends} {io : Option Nat} {o : Out Flow} (p : PostS T W g H E (endH io o)) : PostS T NoX g H (endsAs io E) o := by
  cases o with
  | stuck => exact p
  | err x c => exact p.elim
  | ok f c =>
    cases io with
    | none => cases f with
      | rt r => cases r <;> exact p
      | _ => exact p
    | some i =>
      cases f with
      | nx => exact fun σ' g' H' s k => p (σ'.set i none) g' H' s (held_none k)
      | bk => exact fun σ' g' H' s k => p (σ'.set i none) g' H' s (held_none k)
      | ct => exact fun σ' g' H' s k => p (σ'.set i none) g' H' s (held_none k)
      | rt r => cases r with
        | v d => exact fun v σ' g' H' s k r => p v (σ'.set i none) g' H' s (held_none k) r
        | f xs => exact fun a vs σ' g' H' s k x1 x2 x3 x4 x5 => p a vs (σ'.set i none) g' H' s (held_none k) x1 x2 x3 x4 x5
theorem try_wish {XT : Nat → Nat → Option Bool} (hx : XtOk T XT) {E : Ends} {cls : Value} {d : Option Addr} {x : Exc} (k : Held T g σ H c) (r : ExcR T g H cls d x) : ∀ {l : List Hd}, PostS T W g H E (tryH XT x c l) → wManyA T.K W E (lower T l) cls d σ H
  | [], p => p cls d σ g H Stp.refl k r
  | (kc, io, m) :: l, p => by
    unfold tryH at p
    cases e : XT x.C kc with
    | none => rw [e] at p; exact p.elim
    | some b =>
      rw [e] at p
      refine ⟨b, by rw [r.1]; exact hx _ _ _ e, fun eb => ?_, fun eb => ?_⟩
      · subst eb
        intro a na
        have p := endH_post (show PostS T W g H E (endH io (m x (setN io c))) from p)
        cases io with
        | none => exact ⟨g, c, x, k, r, (fun j z => by cases z), p⟩
        | some i => exact ⟨g, setS i .no c, x, held_none k, r, (fun j z hl => by cases z; exact List.getElem?_set_self (by simpa [stAs] using hl)), p⟩
      · subst eb
        exact try_wish hx k r (show PostS T W g H E (tryH XT x c l) from p)
theorem s_try {XT : Nat → Nat → Option Bool} {body : List Stmt} {h₀ : ExceptHandler} {hds : List ExceptHandler} {l : List Hd} {mb : M Flow} (C : Ctx T W X) (hx : XtOk T XT)
    (hb : ∀ (W : WX) (pn : List (Addr × Obj)) (xe : Value → Shared → Prop), Ctx T W (X.tr pn xe) → SndSs T W (X.tr pn xe) body mb) (hh : HdsT T X (h₀ :: hds) l) (hs : X.stack = X.env :: X.outer := by rfl) (hf : X.env.frame = some X.env.locals := by rfl) :
    SndS T W X (.Try body (h₀ :: hds) [] [] pos) (sTry XT mb l) := by
  refine PS.imp (ps_try_A (tb := fun W => rdS T W mb) hs hf C.nd C.tk (fun W' pn xe tk po => hb W' pn xe ⟨C.K, C.mg, tk, po, C.calm, C.nd⟩) (hds_lower hh)) fun E σ H ⟨g, c, k, p⟩ => ⟨g, c, k, ?_⟩
  unfold sTry at p
  cases e : mb c with
  | stuck => rw [e] at p; exact p.elim
  | err x c' =>
    rw [e] at p
    intro cls d σ' g' H' s k' r
    rw [C.K]
    exact try_wish hx k' r (PostS.from s p)
  | ok f c' =>
    rw [e] at p
    cases f with
    | rt r => cases r <;> exact p
    | _ => exact p
theorem h_plain {io : Option Nat} {suite : List Stmt} {m : M Flow} (h : ∀ (a : Addr) (oe : Obj) (pn : List (Addr × Obj)), SndSs T NoX (X.suite a ((a, oe) :: pn)) suite m) : SndH T X io suite (fun _ => m) :=
  fun a oe cls d pn _ _ => PSs.imp (h a oe pn) fun E σ H ⟨g, c, x, k, _, _, p⟩ => ⟨g, c, k, p⟩
def fldX (Ci fl : Nat) (i : Nat) (x : Exc) (c : Cfg) : Option D := if x.C = Ci ∧ i < c.sl.length then x.fs.lookup fl else none
theorem repF_at {vfs : List (Str × V)} : ∀ {fs : List (Nat × D)} {vfs : List (Str × V)} {fl : Nat} {d : D}, RepF T g vfs fs → fs.lookup fl = some d → ∃ v, vfs.lookup (T.nm fl) = some v ∧ Rep T g v d
  | [], _, fl, d, r, e => by cases e
  | (f0, d0) :: fs, vfs, fl, d, r, e => by
    obtain ⟨v, vr, ev, r1, r2⟩ := r
    subst ev
    rw [List.lookup_cons] at e ⊢
    by_cases q : fl = f0
    · subst q
      simp only [beq_self_eq_true] at e
      cases e
      exact ⟨v, by simp, r1⟩
    · have q1 : (fl == f0) = false := by simp [q]
      have q2 : (T.nm fl == T.nm f0) = false := by
        have : T.nm fl ≠ T.nm f0 := fun z => q (T.nmi _ _ z)
        simpa using this
      rw [q1] at e
      rw [q2]
      exact repF_at (vfs := []) r2 e
/-- return ('text', err.f) -/
theorem h_pair {Ci fl i : Nat} {n f s : Str} {j jt : Nat} {pt pp pa pn' pr : Pos} (Xf : XfC T.K (T.cls Ci)) (hno : PySem.W.findIn T.K (.ref (T.cls Ci)) f = some none) (hf : T.nm fl = f) (hK : X.K = T.K) (hN : X.N[i]? = some n := by rfl) (hv : Vis X.env.scope n := by first | exact Or.inl rfl | exact Or.inr (Or.inl rfl) | exact Or.inr (Or.inr rfl)) (hd : (n == ("__debug__" : Str)) = false := by decide)
    (hcd : (n == ("__classdict__" : Str)) = false := by decide) (hb : attributeBase (.Name n pn') f X.env (eval (.Name n pn') X.env) = eval (.Name n pn') X.env := by rfl)
    (hs1 : starEach [.Constant (.str s) j pt, .Attribute (.Name n pn') f pa] X.env = (false, eval (.Constant (.str s) j pt) X.env) :: starEach [.Attribute (.Name n pn') f pa] X.env := by rfl) (hs2 : starEach [.Attribute (.Name n pn') f pa] X.env = (false, eval (.Attribute (.Name n pn') f pa) X.env) :: starEach [] X.env := by rfl) :
    SndH T X (some i) [.Return (some (.Tuple [.Constant (.str s) j pt, .Attribute (.Name n pn') f pa] jt pp)) pr] (fun x c => match fldX Ci fl i x c with
      | some d => .ok (.rt (.v (.tup [.str s, d]))) c
      | none => .stuck) := by
  subst hf
  intro a oe cls d pn hz hfi
  have e2 := pe_xf (X := X) (a := a) (pn := pn) (pos := pa) (by rw [hK]; exact Xf) (by rw [hK]; exact hno) hz hfi (pv i hN hv hd hcd) hb
  refine PSs.imp (pss_one (ps_ret (pe_tup (pa_cons pe_str (pa_cons e2 pa_nil hs2) hs1)))) fun E σ H ⟨g, c, x, k, r, hsl, p⟩ => ?_
  unfold fldX at p
  dsimp only at p
  by_cases q : x.C = Ci ∧ i < c.sl.length
  · rw [if_pos q] at p
    obtain ⟨q1, q2⟩ := q
    subst q1
    cases e : x.fs.lookup fl with
    | none => rw [e] at p; exact p.elim
    | some dv =>
      rw [e] at p
      obtain ⟨r1, r2⟩ := r
      have sv := hsl i rfl (Nat.lt_of_lt_of_le q2 k.ln)
      rcases r2 with r2 | ⟨dd, vfs, ed, hd, rf, nb⟩
      · rw [r2] at e; cases e
      · obtain ⟨v, lv, rv⟩ := repF_at (vfs := []) rf e
        refine ⟨.ref a, sv, rfl, r1, dd, vfs, v, ed, hd, lv, by show 2 ≤ sizeLine; decide, fun t nt => ?_⟩
        obtain ⟨x1, x2, x3⟩ := new_tup k nt (show Reps T g [.str s, v] [.str s, dv] from ⟨.str s, [v], rfl, rfl, v, [], rfl, rv, rfl⟩)
        exact p _ σ _ _ x1.toStp x2 x3
  · rw [if_neg q] at p; exact p.elim
end
end TL

end
section
set_option Elab.async false
set_option linter.all false
set_option maxRecDepth 100000
/-! Tl22: more operators, isinstance, in, constants, calls. -/
namespace TL
open PySem L2
section
variable {T : Tab} {Φ : Phi} {W : WX} {X : Cx} {k : Nat} {pos p p1 p2 apos : Pos}

/-! ### constants of the modules, defs as values -/
theorem s_glob {x : Str} {u : Value} {v : V} {d : D} (C : Ctx T W X) (hm : T.mg x = some u) (r : RelV v u) (rd : ∀ g, Rep T g v d) (hg : Gl X x := by rfl) (hd : (x == ("__debug__" : Str)) = false := by decide) : SndE T W X (.Name x pos) (eC d) :=
  s_const (pe_glob hg (by rw [C.mg]; exact hm) r hd) rd
theorem s_fn {x : Str} {f : Nat} (C : Ctx T W X) (hm : T.mg x = some (.ref (T.fa f))) (hg : Gl X x := by rfl) (hd : (x == ("__debug__" : Str)) = false := by decide) : SndE T W X (.Name x pos) (eC (.fn f)) :=
  s_glob (v := .ref (T.fa f)) C hm rfl (fun _ => rfl) hg hd
/-- a module's tuple of texts -/
theorem rep_tupS {a : Addr} {o : Obj} {its : Array Value} {n : Nat} {zs : List Str} {g : Gh} (hk : T.K.lookup a = some o) (hc : o.cls = .type "tuple") (hs : o.data = .seq its n) (hz : its.size ≤ sizeLine) (hv : Vals (zs.map V.str) its.toList) : Rep T g (.ref a) (.tup (zs.map D.str)) := by
  refine ⟨a, zs.map V.str, rfl, .inr ⟨o, its, n, hk, hc, hs, hz, hv⟩, ?_⟩
  clear hv
  induction zs with
  | nil => rfl
  | cons z zs ih => exact ⟨.str z, zs.map V.str, rfl, rfl, ih⟩

/-! ### a call that gives a fresh list -/
def callRF (F : FnS) (ds : List D) : M (List D) := fun c => match F ds c.ce with
  | .ok (.f xs) ce => .ok xs { c with ce := ce }
  | .err x ce => .err x { c with ce := ce }
  | _ => .stuck
def fCall (Φ : Phi) (f : Nat) (dl : List D) (ma : M (List D)) : M (List D) := M.bnd ma fun ds => callRF (Φ f) (ds ++ dl)
theorem spF_of {F : FnS} {g : Gh} {σ : L2.St} {H : Hp} {c : Cfg} {Q : VK} {vs : List V} {ds : List D} (h : Held T g σ H c) (r : Reps T g vs ds) (p : Post T (RF T) W g σ H Q (callRF F ds c)) :
    spF T F vs H Q (WE W σ) := by
  refine ⟨g.cal H, ds, c.ce, entry_of h, Reps.gl .cal _ _ r, ?_⟩
  unfold callRF at p
  cases e : F ds c.ce with
  | stuck => rw [e] at p; exact p
  | err x ce =>
    rw [e] at p
    intro cls dd g' H' s q x
    refine p cls dd (g.bak g') H' (bak_step h s) (bak_held h s q) ?_
    obtain ⟨e1, e2⟩ := x
    refine ⟨e1, ?_⟩
    rcases e2 with e2 | ⟨d, vfs, a1, a2, a3, a4⟩
    · exact .inl e2
    · exact .inr ⟨d, vfs, a1, a2, RepF.gl GL.out _ _ a3, fun z => a4 (by rw [s.le.B]; exact h.bs d z)⟩
  | ok rv ce =>
    rw [e] at p
    cases rv with
    | v d => exact p.elim
    | f xs =>
      intro a ws g' H' s q nb hI hO hl r
      have n0 : H a = none := by
        cases e : H a with
        | none => rfl
        | some o => exact absurd (show g'.B a by rw [s.le.B]; show H a ≠ none; rw [e]; simp) nb
      have ns : ∀ i, g.O a ≠ some (.sl i) := fun i z => (h.ow a (by rw [z]; simp)).2 n0
      exact p (.ref a) _ H' (bak_step h s) (bak_held h s q) ⟨a, ws, rfl, hl, Reps.gl GL.out _ _ r, hI, bak_none ns hO, fun z => h.bs a z n0⟩
theorem f_call {f : Nat} {x : Str} {e : Expr} {es : List Expr} {ma : M (List D)} {dl : List D} (C : Ctx T W X) (F : FnG T Φ X.prog X.w X.base k f) (hr : Room k X.A) (hm : T.mg x = some (.ref (T.fa f))) (hd : dl ∈ T.dfl f) (ha : SndA T W X (e :: es) ma) (hg : Gl X x := by rfl)
    (hdb : (x == ("__debug__" : Str)) = false := by decide) (he : starEach (e :: es) X.env = (false, eval e X.env) :: starEach es X.env := by rfl) (hpl : (backTo pos (starEach es X.env)).any (·.1) = false := by rfl) :
    SndF T W X (.Call (.Name x p) (e :: es) [] pos) (fCall Φ f dl ma) := by
  refine ⟨fun pins s σ H Q I ⟨g, c, h, q⟩ => ?_⟩
  refine wpAny_Call_Name_kw (ld_glob I hg (by rw [C.mg]; exact hm) ?_ hdb)
  refine PySem.W.callWith_K (h₀ := X.base) I.ok.mod.kin (by rw [C.K]; exact F.kp) (thn (ha.run pos pins s σ H _ I ⟨g, c, h, q.bnd⟩) fun us s1 ⟨vs, H1, I1, r, ds, g1, c1, s1', h1, r1, q1⟩ => ⟨I1.kIn, ?_⟩) he hpl
  obtain ⟨⟨fd, ps, Fk, hb⟩, kp⟩ := F
  obtain ⟨hl, us2, r2, bd⟩ := hb dl hd
  exact run_F (by rw [C.K, C.mg]; exact Fk) hr (by rw [C.K]; exact bd) r2 C.tk I1 r (spF_of h1 (r1.app (reps_lit hl)) q1)

/-! ### a local name that holds a def is called -/
/-- all defs at level k -/
def AllG (T : Tab) (Φ : Phi) (P : Program) (w : World) (base : Heap) (k : Nat) (fs : List Nat) : Prop := ∀ f ∈ fs, FnG T Φ P w base k f ∧ [] ∈ T.dfl f
def eCallN (Φ : Phi) (fs : List Nat) (i : Nat) (ma : M (List D)) : M D := fun c => match c.sl[i]? with
  | some (.v (.fn f)) => if fs.contains f then (M.bnd ma fun ds => callR (Φ f) ds) c else .stuck
  | _ => .stuck
theorem s_callN {fs : List Nat} (i : Nat) {x : Str} {e : Expr} {es : List Expr} {ma : M (List D)} (C : Ctx T W X) (F : AllG T Φ X.prog X.w X.base k fs) (hr : Room k X.A) (ha : SndA T W X (e :: es) ma) (hN : X.N[i]? = some x := by rfl) (hv : Vis X.env.scope x := by first | exact Or.inl rfl | exact Or.inr (Or.inl rfl) | exact Or.inr (Or.inr rfl))
    (hdb : (x == ("__debug__" : Str)) = false := by decide) (hcd : (x == ("__classdict__" : Str)) = false := by decide) (he : starEach (e :: es) X.env = (false, eval e X.env) :: starEach es X.env := by rfl) (hpl : (backTo pos (starEach es X.env)).any (·.1) = false := by rfl) :
    SndE T W X (.Call (.Name x p) (e :: es) [] pos) (eCallN Φ fs i ma) := by
  refine ⟨fun pins s σ H Q I ⟨g, c, h, q⟩ => ?_⟩
  unfold eCallN at q
  split at q
  · rename_i f e1
    obtain ⟨vf, ev, rf⟩ := h.sl i _ e1
    have rf : vf = .ref (T.fa f) := rf
    subst rf
    by_cases hf : fs.contains f = true
    · rw [if_pos hf] at q
      obtain ⟨Ff, hd⟩ := F f (by simpa using hf)
      refine wpAny_Call_Name_kw (thn ((pv (pos := p) i hN hv hdb hcd).run pins s σ H (fun v H1 => v = .ref (T.fa f) ∧ H1 = H) I ⟨_, ev, rfl, rfl⟩) fun u s1 ⟨v, H1, I1, rv, ev2, eH⟩ => ?_)
      subst ev2 eH
      obtain rfl : u = Value.ref (T.fa f) := rv
      refine PySem.W.callWith_K (h₀ := X.base) I.ok.mod.kin (by rw [C.K]; exact Ff.kp) (thn (ha.run pos pins s1 σ _ _ I1 ⟨g, c, h, q.bnd⟩) fun us s1 ⟨vs, H1, I1, r, ds, g1, c1, s1', h1, r1, q1⟩ => ⟨I1.kIn, ?_⟩) he hpl
      exact call_G C Ff hr hd I1 r h1 r1 (by rw [List.append_nil]; exact q1)
    · rw [if_neg hf] at q; exact q.elim
  · exact q.elim

/-! ### isinstance -/
inductive Ck where
  | ty (n : String) | own (C : Nat)
def tyB (n : String) : D → Bool
  | .non => "NoneType" == n
  | .bl _ => "bool" == n || n == "int"
  | .int _ => "int" == n
  | .str _ => "str" == n
  | .tup _ => "tuple" == n
  | .lst _ => "list" == n
  | _ => false
def isD (nC : Nat) (d : D) : Ck → Option Bool
  | .ty n => if tyNames.contains n then (match d with
    | .rat _ => if 0 < nC then some false else none
    | .ins C _ => if C < nC then some false else none
    | .fn _ => none
    | .cell _ => none
    | .scr _ => none
    | .dct _ => none
    | d => some (tyB n d)) else none
  | .own C' => if C' < nC then (match d with
    | .rat _ => if 0 < nC then some (C' == 0) else none
    | .ins C _ => if C < nC then some (C == C') else none
    | .fn _ => none
    | .cell _ => none
    | .scr _ => none
    | .dct _ => none
    | _ => some false) else none
def isDs (nC : Nat) (d : D) : List Ck → Option Bool
  | [] => some false
  | k :: ks => match isD nC d k with
    | none => none
    | some true => some true
    | some false => isDs nC d ks
structure IsQ (T : Tab) (nC : Nat) : Prop where
  bo : ∀ n ∈ tyNames, ∀ C, C < nC → PySem.W.kitOne T.K (.type n) (.ref (T.cls C)) = some false
  ob : ∀ n ∈ tyNames, ∀ C, C < nC → PySem.W.kitOne T.K (.ref (T.cls C)) (.type n) = some false
  oo : ∀ C, C < nC → ∀ C', C' < nC → PySem.W.kitOne T.K (.ref (T.cls C)) (.ref (T.cls C')) = some (C == C')
  cl : ∀ C, C < nC → Cls T.K (T.cls C) ∧ PySem.W.findIn T.K (.ref (T.cls C)) "__class__" = some (some (.builtin "object.__class__")) ∧ PySem.W.mroIn T.K (T.cls C) (.type "object") = some true
  sp : PySem.W.specialIn T.K (.builtin "object.__class__") "__get__" = some (some (.builtin "getset_descriptor.__get__"))
  tk : PySem.W.takesIn T.K (.builtin "object.__class__") = some true
def ckV (T : Tab) : Ck → V
  | .ty n => .ty n
  | .own C => .ref (T.cls C)
def ckU (T : Tab) : Ck → Value
  | .ty n => .type n
  | .own C => .ref (T.cls C)
theorem ck_rel (k : Ck) : ClsV (ckV T k) (ckU T k) := by
  cases k with
  | ty n => exact .ty n
  | own C => exact .own _
theorem tyB_ok : (tyNames.all fun a => tyNames.all fun n => decide (kitB a n = some (a == n || (a == "bool" && n == "int")))) = true := by decide +kernel
theorem kit_b {a n : String} (ha : a ∈ tyNames) (hn : n ∈ tyNames) : PySem.W.kitOne T.K (.type a) (.type n) = some (a == n || (a == "bool" && n == "int")) := by
  have h := List.all_eq_true.mp (List.all_eq_true.mp tyB_ok a ha) n hn
  exact kit_ty (of_decide_eq_true h)
/-- the type of a tree, as isinstance sees it -/
theorem tyX_of {nC : Nat} {g : Gh} {σ : L2.St} {H : Hp} {c : Cfg} {x : V} {d : D} (Q : IsQ T nC) (k : Held T g σ H c) (r : RepB T g H x d) (n : String) (hd : isD nC d (.ty n) ≠ none ∨ ∃ C, isD nC d (.own C) ≠ none) : ∃ t, TyX T.K H x t ∧ ∀ k b, isD nC d k = some b → PySem.W.kitOne T.K t (ckU T k) = some b := by
  have flat : ∀ {a : String}, a ∈ tyNames → (∀ n, tyB n d = (a == n || (a == "bool" && n == "int"))) → (∀ n, isD nC d (.ty n) = if tyNames.contains n then some (tyB n d) else none) → (∀ C, isD nC d (.own C) = if C < nC then some false else none) → ∀ k b, isD nC d k = some b → PySem.W.kitOne T.K (.type a) (ckU T k) = some b := by
    intro a ha ht h1 h2 k b e
    cases k with
    | ty n =>
      rw [h1] at e
      by_cases hn : tyNames.contains n = true
      · rw [if_pos hn] at e; cases e
        rw [ht]; exact kit_b ha (by simpa using hn)
      · rw [if_neg hn] at e; cases e
    | own C =>
      rw [h2] at e
      by_cases hn : C < nC
      · rw [if_pos hn] at e; cases e
        exact Q.bo a ha C hn
      · rw [if_neg hn] at e; cases e
  rcases r.at k with ⟨xs, a, vs, e1, e2, h, _⟩ | ⟨nl, r⟩
  · subst e1 e2
    exact ⟨_, .base (.lst h), flat (a := "list") (by simp [tyNames]) (fun n => by simp [tyB]) (fun n => rfl) (fun C => rfl)⟩
  · have inst : ∀ C dx vfs a, C < nC → H a = some (.ins (T.cls C) dx vfs) → TyX T.K H (.ref a) (.ref (T.cls C)) := fun C dx vfs a hC h => by
      obtain ⟨c1, c2, c3⟩ := Q.cl C hC
      exact .base (.ins h c1 c2 Q.sp Q.tk c3)
    cases d with
    | non => have r : x = .non := r; subst r; exact ⟨_, .base .non, flat (a := "NoneType") (by simp [tyNames]) (fun n => by simp [tyB]) (fun n => rfl) (fun C => rfl)⟩
    | bl b => have r : x = .bl b := r; subst r; exact ⟨_, .base (.bl b), flat (a := "bool") (by simp [tyNames]) (fun n => by simp [tyB]) (fun n => rfl) (fun C => rfl)⟩
    | int b => have r : x = .int b := r; subst r; exact ⟨_, .base (.int b), flat (a := "int") (by simp [tyNames]) (fun n => by simp [tyB]) (fun n => rfl) (fun C => rfl)⟩
    | str b => have r : x = .str b := r; subst r; exact ⟨_, .base (.str b), flat (a := "str") (by simp [tyNames]) (fun n => by simp [tyB]) (fun n => rfl) (fun C => rfl)⟩
    | tup xs =>
      obtain ⟨a, vs, e, h, _⟩ := r
      subst e
      have h := L2.SqT.ext h k.sub
      refine ⟨.type "tuple", ?_, flat (a := "tuple") (by simp [tyNames]) (fun n => by simp [tyB]) (fun n => rfl) (fun C => rfl)⟩
      rcases h with h | ⟨o, its, n, hk, hc, _⟩
      · rcases h with h | ⟨ob, h⟩
        · exact .base (.tup h)
        · exact .fTuple h
      · exact .kTuple hk hc
    | lst xs => exact absurd rfl (nl xs)
    | rat q =>
      obtain ⟨a, dx, e, h⟩ := r
      subst e
      by_cases hC : 0 < nC
      · refine ⟨_, inst 0 _ _ a hC (k.sub _ _ h), fun kk b e => ?_⟩
        cases kk with
        | ty n =>
          have e : (if tyNames.contains n then (if 0 < nC then some false else none) else none) = some b := e
          by_cases hn : tyNames.contains n = true
          · rw [if_pos hn, if_pos hC] at e; cases e
            exact Q.ob n (by simpa using hn) 0 hC
          · rw [if_neg hn] at e; cases e
        | own C =>
          have e : (if C < nC then (if 0 < nC then some (C == 0) else none) else none) = some b := e
          by_cases hn : C < nC
          · rw [if_pos hn, if_pos hC] at e; cases e
            have := Q.oo 0 hC C hn
            rw [show ((0 : Nat) == C) = (C == 0) from by cases C <;> rfl] at this
            exact this
          · rw [if_neg hn] at e; cases e
      · exfalso
        rcases hd with hd | ⟨C, hd⟩
        · apply hd
          show (if tyNames.contains n then (if 0 < nC then some false else none) else none) = none
          rw [if_neg hC]; split <;> rfl
        · apply hd
          show (if C < nC then (if 0 < nC then some (C == 0) else none) else none) = none
          rw [if_neg hC]; split <;> rfl
    | ins C0 fs =>
      obtain ⟨a, dx, vfs, e, _, h, _⟩ := r
      subst e
      by_cases hC : C0 < nC
      · refine ⟨_, inst C0 _ _ a hC (k.sub _ _ h), fun kk b e => ?_⟩
        cases kk with
        | ty n =>
          have e : (if tyNames.contains n then (if C0 < nC then some false else none) else none) = some b := e
          by_cases hn : tyNames.contains n = true
          · rw [if_pos hn, if_pos hC] at e; cases e
            exact Q.ob n (by simpa using hn) C0 hC
          · rw [if_neg hn] at e; cases e
        | own C =>
          have e : (if C < nC then (if C0 < nC then some (C0 == C) else none) else none) = some b := e
          by_cases hn : C < nC
          · rw [if_pos hn, if_pos hC] at e; cases e
            exact Q.oo C0 hC C hn
          · rw [if_neg hn] at e; cases e
      · exfalso
        rcases hd with hd | ⟨C, hd⟩
        · apply hd
          show (if tyNames.contains n then (if C0 < nC then some false else none) else none) = none
          rw [if_neg hC]; split <;> rfl
        · apply hd
          show (if C < nC then (if C0 < nC then some (C0 == C) else none) else none) = none
          rw [if_neg hC]; split <;> rfl
    | fn f =>
      exfalso
      rcases hd with hd | ⟨C, hd⟩
      · exact hd (by show (if tyNames.contains n then none else none) = none; split <;> rfl)
      · exact hd (by show (if C < nC then none else none) = none; split <;> rfl)
    | cell f =>
      exfalso
      rcases hd with hd | ⟨C, hd⟩
      · exact hd (by show (if tyNames.contains n then none else none) = none; split <;> rfl)
      · exact hd (by show (if C < nC then none else none) = none; split <;> rfl)
    | dct f =>
      exfalso
      rcases hd with hd | ⟨C, hd⟩
      · exact hd (by show (if tyNames.contains n then none else none) = none; split <;> rfl)
      · exact hd (by show (if C < nC then none else none) = none; split <;> rfl)
    | scr f =>
      exfalso
      rcases hd with hd | ⟨C, hd⟩
      · exact hd (by show (if tyNames.contains n then none else none) = none; split <;> rfl)
      · exact hd (by show (if C < nC then none else none) = none; split <;> rfl)
/-- a class named -/
abbrev SndK (T : Tab) (X : Cx) (e : Expr) (k : Ck) : Prop := PE X e (tC (ckV T k))
theorem k_ty {x : Str} {n : String} (C : Ctx T W X) (hm : T.mg x = none) (hv : bootBuiltins x = some (.type n)) (hg : Gl X x := by rfl) (hn : x ≠ "__name__" := by decide) (hd : (x == ("__debug__" : Str)) = false := by decide) : SndK T X (.Name x pos) (.ty n) := pe_bltn hg (by rw [C.mg]; exact hm) hv rfl hn hd
theorem k_own {x : Str} {Ci : Nat} (C : Ctx T W X) (hm : T.mg x = some (.ref (T.cls Ci))) (hg : Gl X x := by rfl) (hd : (x == ("__debug__" : Str)) = false := by decide) : SndK T X (.Name x pos) (.own Ci) := pe_glob hg (by rw [C.mg]; exact hm) rfl hd
def eIsi (nC : Nat) (m : M D) (k : Ck) : M D := M.bnd m fun d => M.opt ((isD nC d k).map D.bl)
theorem s_isi {nC : Nat} {x : Str} {e e2 : Expr} {m : M D} {k : Ck} (C : Ctx T W X) (Q : IsQ T nC) (he : SndB T W X e m) (hk : SndK T X e2 k) (hx : x = "isinstance" := by rfl) (hm : T.mg "isinstance" = none) (hg : Gl X x := by rfl) (hs : starEach [e, e2] X.env = (false, eval e X.env) :: starEach [e2] X.env := by rfl) (hs2 : starEach [e2] X.env = (false, eval e2 X.env) :: starEach [] X.env := by rfl) (hpl : (backTo pos (starEach [e2] X.env)).any (·.1) = false := by rfl) :
    SndE T W X (.Call (.Name x p) [e, e2] [] pos) (eIsi nC m k) := by
  subst hx
  refine PE.imp (pe_callB call_isi hg (by rw [C.mg]; exact hm) (by decide +kernel) (pa_cons he (pa_cons hk pa_nil hs2) hs) (by decide) (by decide) hs hpl) fun σ H Qq ⟨g, c, kk, p⟩ => ⟨g, c, kk, p.bnd.imp fun v H1 ⟨d, g1, c1, s1, k1, r1, p1⟩ => ?_⟩
  cases e1 : isD nC d k with
  | none => rw [e1] at p1; exact p1.elim
  | some b =>
    rw [e1] at p1
    obtain ⟨t, ht, hb⟩ := tyX_of Q k1 r1 (match k with | .ty n => n | _ => "int") (by
      cases k with
      | ty n => exact .inl (by rw [e1]; simp)
      | own C => exact .inr ⟨C, by rw [e1]; simp⟩)
    exact ⟨v, ckV T k, t, ckU T k, b, rfl, ck_rel k, by rw [C.K]; exact ht, by rw [C.K]; exact hb k b e1, Post.here (R := RV1 T) (d := .bl b) k1 rfl p1⟩
abbrev SndKs (T : Tab) (X : Cx) (es : List Expr) (ks : List Ck) : Prop := PA X es (fun _ H Q => Q (ks.map (ckV T)) H)
theorem k_nil : SndKs T X [] [] := pa_nil
theorem k_cons {e : Expr} {es : List Expr} {k : Ck} {ks : List Ck} (h : SndK T X e k) (r : SndKs T X es ks) (hs : starEach (e :: es) X.env = (false, eval e X.env) :: starEach es X.env := by rfl) : SndKs T X (e :: es) (k :: ks) := pa_cons h r hs
theorem isDs_any {nC : Nat} {d : D} {t : Value} (h : ∀ k b, isD nC d k = some b → PySem.W.kitOne T.K t (ckU T k) = some b) : ∀ {ks : List Ck} {b : Bool}, isDs nC d ks = some b → PySem.W.kitAny T.K t (ks.map (ckU T)) = some b
  | [], b, e => by cases e; exact kitAny_nil
  | k :: ks, b, e => by
    unfold isDs at e
    cases e1 : isD nC d k with
    | none => rw [e1] at e; cases e
    | some b1 =>
      rw [e1] at e
      cases b1 with
      | true => cases e; exact kitAny_cons (h k _ e1) (fun z => by cases z) fun _ => rfl
      | false => exact kitAny_cons (h k _ e1) (fun _ => isDs_any h e) fun z => by cases z
theorem ck_pairs : ∀ ks : List Ck, Paired ClsV (ks.map (ckV T)) (ks.map (ckU T))
  | [] => .nil
  | k :: ks => .cons (ck_rel k) (ck_pairs ks)
def eIsis (nC : Nat) (m : M D) (ks : List Ck) : M D := M.bnd m fun d => M.opt ((isDs nC d ks).map D.bl)
theorem s_isis {nC : Nat} {x : Str} {e : Expr} {es : List Expr} {jt : Nat} {m : M D} {ks : List Ck} (C : Ctx T W X) (Q : IsQ T nC) (he : SndB T W X e m) (hk : SndKs T X es ks) (hne : ks ≠ [] := by simp) (hz : ks.length ≤ 100 := by decide) (hx : x = "isinstance" := by rfl) (hm : T.mg "isinstance" = none) (hg : Gl X x := by rfl) (hs : starEach [e, .Tuple es jt p2] X.env = (false, eval e X.env) :: starEach [.Tuple es jt p2] X.env := by rfl) (hs2 : starEach [.Tuple es jt p2] X.env = (false, eval (.Tuple es jt p2) X.env) :: starEach [] X.env := by rfl) (hpl : (backTo pos (starEach [.Tuple es jt p2] X.env)).any (·.1) = false := by rfl) :
    SndE T W X (.Call (.Name x p) [e, .Tuple es jt p2] [] pos) (eIsis nC m ks) := by
  subst hx
  refine PE.imp (pe_callB call_isiT hg (by rw [C.mg]; exact hm) (by decide +kernel) (pa_cons he (pa_cons (pe_tup hk) pa_nil hs2) hs) (by decide) (by decide) hs hpl) fun σ H Qq ⟨g, c, kk, p⟩ => ⟨g, c, kk, p.bnd.imp fun v H1 ⟨d, g1, c1, s1, k1, r1, p1⟩ => ?_⟩
  cases e1 : isDs nC d ks with
  | none => rw [e1] at p1; exact p1.elim
  | some b =>
    rw [e1] at p1
    have e3 : ∃ k0, isD nC d k0 ≠ none := by
      cases ks with
      | nil => exact absurd rfl hne
      | cons k0 ks => exact ⟨k0, fun z => by unfold isDs at e1; rw [z] at e1; cases e1⟩
    obtain ⟨k0, hk0⟩ := e3
    refine ⟨by rw [List.length_map, sizeLine_eq]; omega, fun t nt => ?_⟩
    have k2 := k1.upd (o := .tup (ks.map (ckV T))) nt
    have s2 := upd_stepE (o := .tup (ks.map (ckV T))) k1 nt
    obtain ⟨ty, ht, hb⟩ := tyX_of Q k2 (r1.step s2) (match k0 with | .ty n => n | _ => "int") (by
      cases k0 with
      | ty n => exact .inl hk0
      | own C => exact .inr ⟨C, hk0⟩)
    exact ⟨v, t, ks.map (ckV T), ty, ks.map (ckU T), b, rfl, upd_same, ck_pairs ks, by rw [C.K]; exact ht, by rw [C.K]; exact isDs_any hb e1, p1 (.bl b) g1 _ s2 k2 rfl⟩
end
end TL

end
section
set_option Elab.async false
set_option linter.all false
set_option maxRecDepth 100000
/-! Tl23: sums and multiples of sequences, is, in, fields of self. -/
namespace TL
open PySem L2
section
variable {T : Tab} {Φ : Phi} {W : WX} {X : Cx} {k : Nat} {pos p p1 p2 apos : Pos}
/-- the end of an operator that makes a list -/
theorem end_lst {pins : List (Addr × Obj)} {σ : L2.St} {H : Hp} {g : Gh} {c : Cfg} {Q : VK} {vs : List V} {ds : List D} {q : Addr} (k : Held T g σ H c) (n : H q = none) (r : Reps T g vs ds) (p : Post T (RV1 T) W g σ H Q (.ok (.lst ds) c)) : Q (.ref q) (L2.upd H q (.lst vs)) := by
  obtain ⟨x1, x2, x3⟩ := new_lst k n r
  exact p _ _ _ x1 x2 x3
def oAdd : D → D → M D := fun a b => match a with
  | .lst xs => (match b with
    | .lst ys => if sizeOk (xs.length + ys.length) then M.ret (.lst (xs ++ ys)) else M.stk
    | _ => M.stk)
  | _ => oP .add a b
theorem op_addL (C : Ctx T W X) : OpOk T W X (binaryOp .Add) oAdd := by
  intro pins s σ H x y v u Q g c dx dy I rx ry k qx qy p
  cases dx with
  | lst xs =>
    cases dy with
    | lst ys =>
      have p : Post T (RV1 T) W g σ H Q ((if sizeOk (xs.length + ys.length) = true then M.ret (.lst (xs ++ ys)) else M.stk) c) := p
      by_cases z : sizeOk (xs.length + ys.length) = true
      · rw [if_pos z] at p
        obtain ⟨a, vs, e1, h1, r1⟩ := qx.list k
        obtain ⟨b, ws, e2, h2, r2⟩ := qy.list k
        exact op_cat pins s σ H x y v u Q I rx ry ⟨a, b, vs, ws, e1, e2, h1, h2, by rw [r1.length, r2.length]; exact line_of z, fun q n => end_lst (pins := pins) k n (r1.app r2) p⟩
      · rw [if_neg z] at p; exact p.elim
    | _ => exact p.elim
  | _ => exact op_add' C pins s σ H x y v u Q g c _ dy I rx ry k qx qy p
/-- a list, a tuple, a text some times -/
def small63 (i : Int) : Bool := decide (-(2 ^ 63) ≤ i) && decide (i < 2 ^ 63)
def strRep (n : Int) (x : Str) : Str := ⟨(List.replicate n.toNat x.cps).foldl (· ++ ·) #[]⟩
def mulP : D → D → Option D
  | .lst xs, .int k => if small63 k && sizeOk (xs.length * k.toNat) then some (.lst (rep k xs)) else none
  | .tup xs, .int k => if k = 1 then some (.tup xs) else if decide (xs ≠ []) && (decide (2 ≤ k) && (decide (k ≤ 1000) && decide (xs.length ≤ 1000))) then some (.tup (rep k xs)) else none
  | .str z, .int k => if decide (2 ≤ k) && (decide (k ≤ 1000) && (decide (z.length ≠ 0) && decide (z.length ≤ 1000))) then some (.str (strRep k z)) else none
  | _, _ => none
def oMul : D → D → M D := fun a b => match a with
  | .int _ => oP .mul a b
  | _ => M.opt (mulP a b)
theorem Reps.rep {g : Gh} {vs : List V} {ds : List D} (r : Reps T g vs ds) : ∀ n : Nat, Reps T g (List.replicate n vs).flatten (List.replicate n ds).flatten
  | 0 => rfl
  | n + 1 => by
    rw [List.replicate_succ, List.replicate_succ, List.flatten_cons, List.flatten_cons]
    exact r.app (Reps.rep r n)
theorem tuple_mul1 (l : Addr) (items : Array Value) (n : Nat) (dd : Option Addr) (sl : Array (Option Value)) (u : Tok) :
    Meets (Builtin.«tuple.__mul__» ⟨[.ref l, .int 1 u], []⟩) (fun _ R s => s.heap.get? l = some { cls := .type "tuple", dict := dd, data := .seq items n, slots := sl } ∧ R (.ok (.ret (Value.ref l))) s) :=
  .of_wp fun prog w A R s h => by
    obtain ⟨hp, g, d, tk, os⟩ := s
    obtain ⟨hl, h⟩ := h
    have f1 := AutoSeq1.idx_int
    have c0 : (decide ((1 : Int) < -(2 ^ 63)) || decide ((1 : Int) ≥ 2 ^ 63)) = false := by decide
    have c1 : (items.isEmpty || (1 : Int) == 1) = true := by simp
    wp_walk using AutoSeq1.wpAny_loadPart' hl
    repeat (first
      | (refine wpAny_ite_false (decide_eq_false (by rw [c0]; exact Bool.false_ne_true)) ?_; wp_walk using AutoSeq1.wpAny_loadPart' hl)
      | (refine wpAny_ite_true (decide_eq_true c1) ?_; wp_walk using AutoSeq1.wpAny_loadPart' hl))
    exact ⟨_, rfl, h⟩
theorem strRep_len {n : Int} {x : Str} : (strRep n x).length = n.toNat * x.length := by
  unfold strRep Str.length
  have : ∀ (m : Nat) (a : Array Nat) (b : Array Nat), ((List.replicate m a).foldl (· ++ ·) b).size = b.size + m * a.size := by
    intro m a
    induction m with
    | zero => intro b; simp
    | succ m ih =>
      intro b
      rw [List.replicate_succ, List.foldl_cons, ih, Array.size_append, Nat.succ_mul]
      omega
  have := this n.toNat x.cps #[]
  simpa using this
theorem op_mulL (C : Ctx T W X) : OpOk T W X (binaryOp .Mult) oMul := by
  intro pins s σ H x y v u Q g c dx dy I rx ry k qx qy p
  cases dx with
  | int i => exact op_mul' pins s σ H x y v u Q g c _ dy I rx ry k qx qy p
  | lst xs =>
    cases dy with
    | int n =>
      have p : Post T (RV1 T) W g σ H Q (M.opt (if (small63 n && sizeOk (xs.length * n.toNat)) = true then some (D.lst (TL.rep n xs)) else none) c) := p
      by_cases z : (small63 n && sizeOk (xs.length * n.toNat)) = true
      · rw [if_pos z] at p
        obtain ⟨z1, z2⟩ := Bool.and_eq_true_iff.mp z
        obtain ⟨z3, z4⟩ := Bool.and_eq_true_iff.mp z1
        obtain ⟨a, vs, e1, h1, r1⟩ := qx.list k
        have e2 := qy.int
        exact op_rep pins s σ H x y v u Q I rx ry ⟨a, n, vs, e1, e2, h1, of_decide_eq_true z3, of_decide_eq_true z4, by rw [r1.length]; exact line_of z2, fun q nn => end_lst (pins := pins) k nn (Reps.rep r1 n.toNat) p⟩
      · rw [if_neg z] at p; exact p.elim
    | _ => exact p.elim
  | tup xs =>
    cases dy with
    | int n =>
      have p : Post T (RV1 T) W g σ H Q (M.opt (if n = 1 then some (D.tup xs) else if (decide (xs ≠ []) && (decide (2 ≤ n) && (decide (n ≤ 1000) && decide (xs.length ≤ 1000)))) = true then some (D.tup (TL.rep n xs)) else none) c) := p
      obtain ⟨a, vs, e1, h1, r1⟩ := qx.tup
      have e2 := qy.int
      by_cases z1 : n = 1
      · rw [if_pos z1] at p
        subst z1 e1 e2
        cases rx
        obtain ⟨t, rfl⟩ := ry
        obtain ⟨its, r, ⟨⟨cls, dd, data, sl⟩, ho, hc, nn, hd⟩, hs⟩ := I.tuple (C.sqt h1 k.sub)
        simp only at hc hd
        subst hc hd
        refine wpAny_binaryOp_repeat_ref (T := "tuple") (U := "int") (by decide) ⟨_, ho, rfl⟩ (fun s' => typeIs_int s' 1 t) noFill_tuple_mul F.fills_int_mul F.slot_int_rmul repeat_tuple F.slot_int_index.lookup
          (call_meets F.slot_int_rmul (typeIs_int s 1 t) F.entry_int_rmul (F.args_int_rmul_2 _ _) (int_rmul_tuple 1 t a its.toArray nn dd sl)
            ⟨ho, rfl, ⟨_, ho, rfl⟩, call_meets F.slot_tuple_mul ⟨_, ho, rfl⟩ F.entry_tuple_mul (F.args_tuple_mul_2 _ _) (tuple_mul1 a its.toArray nn dd sl t) ⟨ho, ?_⟩⟩)
        exact end_flat (d := .tup xs) (x := .ref a) I k ⟨a, vs, rfl, h1, r1⟩ rfl p
      · rw [if_neg z1] at p
        by_cases z : (decide (xs ≠ []) && (decide (2 ≤ n) && (decide (n ≤ 1000) && decide (xs.length ≤ 1000)))) = true
        · rw [if_pos z] at p
          obtain ⟨y1, z⟩ := Bool.and_eq_true_iff.mp z
          obtain ⟨y2, z⟩ := Bool.and_eq_true_iff.mp z
          obtain ⟨y3, y4⟩ := Bool.and_eq_true_iff.mp z
          have y1 := of_decide_eq_true y1
          have y4 := of_decide_eq_true y4
          refine op_repT pins s σ H x y v u Q I rx ry ⟨a, n, vs, e1, e2, C.sqt h1 k.sub, fun e => y1 ?_, of_decide_eq_true y2, of_decide_eq_true y3, by rw [r1.length]; exact y4, fun q nn => ?_⟩
          · have := r1.length
            rw [e] at this
            exact List.eq_nil_of_length_eq_zero this.symm
          · obtain ⟨x1, x2, x3⟩ := new_tup k nn (Reps.rep r1 n.toNat)
            exact p _ _ _ x1 x2 x3
        · rw [if_neg z] at p; exact p.elim
    | _ => exact p.elim
  | str z =>
    cases dy with
    | int n =>
      have p : Post T (RV1 T) W g σ H Q (M.opt (if (decide (2 ≤ n) && (decide (n ≤ 1000) && (decide (z.length ≠ 0) && decide (z.length ≤ 1000)))) = true then some (D.str (strRep n z)) else none) c) := p
      by_cases zz : (decide (2 ≤ n) && (decide (n ≤ 1000) && (decide (z.length ≠ 0) && decide (z.length ≤ 1000)))) = true
      · rw [if_pos zz] at p
        obtain ⟨y2, zz⟩ := Bool.and_eq_true_iff.mp zz
        obtain ⟨y3, zz⟩ := Bool.and_eq_true_iff.mp zz
        obtain ⟨y0, y4⟩ := Bool.and_eq_true_iff.mp zz
        have y0 := of_decide_eq_true y0
        have y2 := of_decide_eq_true y2
        have y3 := of_decide_eq_true y3
        have y4 := of_decide_eq_true y4
        have e1 := qx.str
        have e2 := qy.int
        subst e1 e2
        obtain ⟨t, rfl⟩ := rx
        obtain ⟨t', rfl⟩ := ry
        have hlen : (strRep n z).length ≤ 1000000 := by
          rw [strRep_len]
          have : n.toNat * z.length ≤ 1000 * 1000 := Nat.mul_le_mul (by omega) y4
          omega
        have hm : z.length * n.toNat ≤ 1000000 := by rw [strRep_len, Nat.mul_comm] at hlen; exact hlen
        refine PySem.P.mul_str (by rw [decide_eq_false (by omega), decide_eq_false (by omega)]; rfl) (fun _ _ => ?_) (fun _ _ => ?_) ?_
        · have : (1000 : Int) ≤ (2 ^ 63 - 1) / n := by
            rw [Int.le_ediv_iff_mul_le (by omega)]
            have : (1000 : Int) * n ≤ 1000 * 1000 := by omega
            omega
          omega
        · unfold Builtin.Str.tooLong
          first
            | exact decide_eq_false (by rw [sizeLine_eq]; omega)
            | (simp; omega)
        · rw [if_neg (by omega), if_neg (by
            have q0 : (z.length == 0) = false := by simpa using y0
            have q1 : (n == 1) = false := by simp; omega
            rw [q0, q1]; simp)]
          refine ⟨?_, ?_⟩
          · show (strRep n z).length ≤ _
            rw [sizeLine_eq]; omega
          · exact end_flat (d := .str (strRep n z)) (x := .str (strRep n z)) (I.tok _) k rfl ⟨_, rfl⟩ p
      · rw [if_neg zz] at p; exact p.elim
    | _ => exact p.elim
  | _ => exact p.elim

/-! ### is None -/
def nonD : D → Bool
  | .non => true
  | _ => false
def oIs (neg : Bool) : D → D → M D := fun a b => match b with
  | .non => M.ret (.bl (if neg then !nonD a else nonD a))
  | _ => M.stk
theorem non_rep {g : Gh} {H : Hp} {σ : L2.St} {c : Cfg} {x : V} {d : D} (k : Held T g σ H c) (r : RepB T g H x d) : decide (x = .non) = nonD d := by
  rcases r.at k with ⟨xs, a, vs, e1, e2, h, _⟩ | ⟨nl, r⟩
  · subst e1 e2; simp [nonD]
  · cases d with
    | non => have r : x = .non := r; subst r; simp [nonD]
    | bl b => have r : x = .bl b := r; subst r; simp [nonD]
    | int b => have r : x = .int b := r; subst r; simp [nonD]
    | str b => have r : x = .str b := r; subst r; simp [nonD]
    | fn b => have r : x = .ref _ := r; subst r; simp [nonD]
    | tup b => obtain ⟨a, vs, r, _⟩ := r; subst r; simp [nonD]
    | lst b => obtain ⟨a, vs, r, _⟩ := r; subst r; simp [nonD]
    | rat b => obtain ⟨a, vs, r, _⟩ := r; subst r; simp [nonD]
    | ins C b => obtain ⟨a, vs, _, r, _⟩ := r; subst r; simp [nonD]
    | cell b => obtain ⟨a, r, _⟩ := r; subst r; simp [nonD]
    | scr b => obtain ⟨a, r, _⟩ := r; subst r; simp [nonD]
    | dct b => obtain ⟨a, vs, r, _⟩ := r; subst r; simp [nonD]
theorem op_is' : OpOk T W X (compareOp .Is) (oIs false) := by
  intro pins s σ H x y v u Q g c dx dy I rx ry k qx qy p
  cases dy with
  | non =>
    have e : y = .non := qy.rep (fun _ => by simp)
    exact op_isN pins s σ H x y v u Q I rx ry ⟨e, by rw [non_rep k qx]; exact Post.here (R := RV1 T) (d := .bl (nonD dx)) k rfl p⟩
  | _ => exact p.elim
theorem op_isnot' : OpOk T W X (compareOp .IsNot) (oIs true) := by
  intro pins s σ H x y v u Q g c dx dy I rx ry k qx qy p
  cases dy with
  | non =>
    have e : y = .non := qy.rep (fun _ => by simp)
    exact op_notN pins s σ H x y v u Q I rx ry ⟨e, by rw [non_rep k qx]; exact Post.here (R := RV1 T) (d := .bl (!nonD dx)) k rfl p⟩
  | _ => exact p.elim

/-! ### in, flat items -/
def flV : D → Option V
  | .non => some .non
  | .bl b => some (.bl b)
  | .int i => some (.int i)
  | .str z => some (.str z)
  | _ => none
def flVs : List D → Option (List V)
  | [] => some []
  | d :: ds => match flV d, flVs ds with
    | some v, some vs => some (v :: vs)
    | _, _ => none
theorem flV_ok {g : Gh} {d : D} {v w : V} (h : flV d = some v) (r : Rep T g w d) : w = v ∧ flatV v = true := by
  cases d <;> first | (cases h; exact ⟨r, rfl⟩) | cases h
theorem flVs_ok {g : Gh} : ∀ {ds : List D} {vs ws : List V}, flVs ds = some vs → Reps T g ws ds → ws = vs ∧ vs.all flatV = true
  | [], vs, ws, h, r => by cases h; exact ⟨r, rfl⟩
  | d :: ds, vs, ws, h, r => by
    obtain ⟨w, wr, e, r1, r2⟩ := r
    unfold flVs at h
    cases e1 : flV d with
    | none => rw [e1] at h; cases h
    | some v =>
      rw [e1] at h
      cases e2 : flVs ds with
      | none => rw [e2] at h; cases h
      | some vs' =>
        rw [e2] at h
        cases h
        obtain ⟨q1, q2⟩ := flV_ok e1 r1
        obtain ⟨q3, q4⟩ := flVs_ok e2 r2
        subst e q1 q3
        exact ⟨rfl, by rw [List.all_cons, q2, q4]; rfl⟩
def inP (x : D) (y : D) : Option Bool := match flV x, (match y with
    | .lst ys => flVs ys
    | .tup ys => flVs ys
    | _ => none) with
  | some v, some vs => some (inV v vs)
  | _, _ => none
def oIn (neg : Bool) : D → D → M D := fun a b => M.opt ((inP a b).map fun r => .bl (if neg then !r else r))
theorem flat_nl {d : D} {v : V} (h : flV d = some v) : ∀ xs, d ≠ .lst xs := fun xs e => by subst e; cases h
theorem in_ok {neg : Bool} {pins : List (Addr × Obj)} {σ : L2.St} {H : Hp} {s : Shared} {x y : V} {g : Gh} {c : Cfg} {dx dy : D} {Q : VK} (C : Ctx T W X) (I : Inv X pins σ H s) (k : Held T g σ H c) (qx : RepB T g H x dx) (qy : RepB T g H y dy) (p : Post T (RV1 T) W g σ H Q (oIn neg dx dy c)) : rIn X.K neg x y H Q := by
  unfold oIn inP at p
  cases e1 : flV dx with
  | none => rw [e1] at p; exact p.elim
  | some v =>
    rw [e1] at p
    obtain ⟨ex, fx⟩ := flV_ok e1 (qx.rep (flat_nl e1))
    cases dy with
    | lst ys =>
      dsimp only at p
      cases e2 : flVs ys with
      | none => rw [e2] at p; exact p.elim
      | some vs =>
        rw [e2] at p
        obtain ⟨a, ws, e3, h3, r3⟩ := qy.list k
        obtain ⟨q1, q2⟩ := flVs_ok e2 r3
        subst q1
        exact ⟨a, ws, e3, .inl (SqL.of h3), by rw [ex]; exact fx, q2, by rw [ex]; exact Post.here (R := RV1 T) (d := .bl (if neg then !inV v ws else inV v ws)) k rfl p⟩
    | tup ys =>
      dsimp only at p
      cases e2 : flVs ys with
      | none => rw [e2] at p; exact p.elim
      | some vs =>
        rw [e2] at p
        obtain ⟨a, ws, e3, h3, r3⟩ := qy.tup
        obtain ⟨q1, q2⟩ := flVs_ok e2 r3
        subst q1
        exact ⟨a, ws, e3, .inr (C.sqt h3 k.sub), by rw [ex]; exact fx, q2, by rw [ex]; exact Post.here (R := RV1 T) (d := .bl (if neg then !inV v ws else inV v ws)) k rfl p⟩
    | _ => exact p.elim
theorem op_in' (C : Ctx T W X) : OpOk T W X (compareOp .In) (oIn false) := fun pins s σ H x y v u Q g c dx dy I rx ry k qx qy p => op_in_seq pins s σ H x y v u Q I rx ry (in_ok C I k qx qy p)
theorem op_notin' (C : Ctx T W X) : OpOk T W X (compareOp .NotIn) (oIn true) := fun pins s σ H x y v u Q g c dx dy I rx ry k qx qy p => op_notIn_seq pins s σ H x y v u Q I rx ry (in_ok C I k qx qy p)

/-! ### self.f = e in __init__ -/
def putD (f : Nat) (d : D) : List (Nat × D) → List (Nat × D)
  | [] => [(f, d)]
  | (g, x) :: r => if g = f then (g, d) :: r else (g, x) :: putD f d r
theorem putD_rep {g : Gh} {f : Nat} {v : V} {d : D} (r : Rep T g v d) : ∀ {fs : List (Nat × D)} {vfs : List (Str × V)}, RepF T g vfs fs → RepF T g (putF (T.nm f) v vfs) (putD f d fs)
  | [], vfs, q => by
    have q : vfs = [] := q
    subst q
    exact ⟨v, [], rfl, r, rfl⟩
  | (k, x) :: fs, vfs, q => by
    obtain ⟨w, wr, e, r1, r2⟩ := q
    subst e
    show RepF T g (if T.nm k = T.nm f then (T.nm k, v) :: wr else (T.nm k, w) :: putF (T.nm f) v wr) (if k = f then (k, d) :: fs else (k, x) :: putD f d fs)
    by_cases h : k = f
    · rw [if_pos h, if_pos (by rw [h])]
      exact ⟨v, wr, rfl, r, r2⟩
    · rw [if_neg h, if_neg (fun z => h (T.nmi _ _ z))]
      exact ⟨w, _, rfl, r1, putD_rep r r2⟩
theorem repF_len {g : Gh} : ∀ {fs : List (Nat × D)} {vfs : List (Str × V)}, RepF T g vfs fs → vfs.length = fs.length
  | [], vfs, q => by have q : vfs = [] := q; subst q; rfl
  | x :: fs, vfs, q => by
    obtain ⟨w, wr, e, r1, r2⟩ := q
    subst e
    rw [List.length_cons, List.length_cons, repF_len r2]
def sSelf (Cs : List Nat) (f : Nat) (m : M D) : M Flow := M.bnd m fun d c => match c.sl[0]? with
  | some (Sl.obj C fs) => if Cs.contains C && decide (fs.length < 900) then .ok .nx (setS 0 (.obj C (putD f d fs)) c) else .stuck
  | _ => .stuck
theorem s_self {Cs : List Nat} {f : Nat} {x n : Str} {e : Expr} {m : M D} {pt : Pos} (C : Ctx T W X) (q : FldQ T Cs f) (hx : T.nm f = x) (he : SndE T W X e m) (hN : X.N[0]? = some n := by rfl) (hv : Vis X.env.scope n := by first | exact Or.inl rfl | exact Or.inr (Or.inl rfl) | exact Or.inr (Or.inr rfl)) (hd : (n == ("__debug__" : Str)) = false := by decide)
    (hcd : (n == ("__classdict__" : Str)) = false := by decide) (hs : swapsWith e (some (.Attribute (.Name n p) x pt)) pos.line X.env = pure false := by rfl) :
    SndS T W X (.Assign [.Attribute (.Name n p) x pt] e pos) (sSelf Cs f m) := by
  subst hx
  refine PS.imp (ps_fld (pv 0 hN hv hd hcd) he hs) fun E σ H ⟨g, c, kk, p⟩ => ⟨g, c, kk, (PostS.bnd (R := RV1 T) (β := V) p).imp fun v H1 ⟨d, g1, c1, s1, k1, r1, p1⟩ => ?_⟩
  cases e1 : c1.sl[0]? with
  | none => rw [e1] at p1; exact p1.elim
  | some t =>
    rw [e1] at p1
    cases t with
    | obj C0 fs =>
      have p1 : PostS T W g1 H1 E (if (Cs.contains C0 && decide (fs.length < 900)) = true then .ok .nx (setS 0 (.obj C0 (putD f d fs)) c1) else .stuck) := p1
      by_cases z : (Cs.contains C0 && decide (fs.length < 900)) = true
      · rw [if_pos z] at p1
        obtain ⟨z1, z2⟩ := Bool.and_eq_true_iff.mp z
        have z2 := of_decide_eq_true z2
        obtain ⟨q1, q2⟩ := q C0 (by simpa using z1)
        obtain ⟨a, dx, vfs, es, ev, ho, h, rf⟩ := k1.sl 0 _ e1
        refine ⟨.ref a, ev, a, T.cls C0, dx, vfs, rfl, h, by rw [C.K]; exact q1, by rw [C.K]; exact q2, by rw [repF_len rf]; omega, ?_⟩
        have hI := (k1.ow a (by rw [ho]; simp)).1
        have ne : ∀ b, (∀ o, g1.I b = some o → b ≠ a) := fun b o z q => by rw [q, hI] at z; cases z
        refine p1 σ g1 _ ⟨GLe.refl g1, fun b o hb bb ob => ⟨(upd_ne (fun q => by rw [q, ho] at ob; cases ob)).trans hb, rfl, ob⟩⟩ ?_
        refine ⟨fun b o z => (upd_ne (ne b o z)).trans (k1.sub b o z), fun b z => ⟨(k1.ow b z).1, ?_⟩, fun b z => ?_, fun j t ej => ?_, k1.cn, by simpa [setS] using k1.ln, fun m b zs e1 e2 => ?_⟩
        · by_cases q : b = a
          · rw [q, upd_same]; simp
          · rw [upd_ne q]; exact (k1.ow b z).2
        · by_cases q : b = a
          · rw [q, upd_same]; simp
          · rw [upd_ne q]; exact k1.bs b z
        · have ej : (c1.sl.set 0 (.obj C0 (putD f d fs)))[j]? = some t := ej
          by_cases q : j = 0
          · subst q
            rw [List.getElem?_set_self (List.getElem?_eq_some_iff.mp e1).1] at ej
            cases ej
            exact ⟨a, dx, _, es, ev, ho, upd_same, putD_rep r1 rf⟩
          · rw [List.getElem?_set_ne (Ne.symm q)] at ej
            refine (k1.sl j t ej).step (GLe.refl g1) fun b u ob hb => ⟨(upd_ne (fun w => ?_)).trans hb, ob⟩
            rw [w, ho] at ob; injection ob with ob; injection ob with ob; exact q ob.symm
        · obtain ⟨h1, us, h2, r2⟩ := k1.ce m b zs e1 e2
          exact ⟨h1, us, (upd_ne (fun w => by rw [w, ho] at h1; cases h1)).trans h2, r2⟩
      · rw [if_neg z] at p1; exact p1.elim
    | _ => exact p1.elim
end
end TL

end
section
set_option Elab.async false
set_option linter.all false
set_option maxRecDepth 100000
/-! Tl24: fresh sums and multiples; three stores; flat ==; names; the ends. -/
namespace TL
open PySem L2
section
variable {T : Tab} {Φ : Phi} {W : WX} {X : Cx} {pos p px : Pos} {a b : Expr} {ma mb : M D}
def OpOkF (T : Tab) (W : WX) (X : Cx) (f : Value → Value → Sem Value) (k : D → D → M (List D)) : Prop :=
  ∀ (pins : List (Addr × Obj)) (s : Shared) (σ : L2.St) (H : Hp) (x y : V) (v u : Value) (Q : VK) (g : Gh) (c : Cfg) (dx dy : D), Inv X pins σ H s → RelV x v → RelV y u → Held T g σ H c → RepB T g H x dx → RepB T g H y dy →
    Post T (RF T) W g σ H Q (k dx dy c) → wpAny (model X.prog X.w) X.A (f v u) (EP X pins σ Q) X.xe s
def fOp (k : D → D → M (List D)) (ma mb : M D) : M (List D) := M.bnd ma fun x => M.bnd mb fun y => k x y
theorem f_op {op : Operator} {k : D → D → M (List D)} (ho : OpOkF T W X (binaryOp op) k) (ha : SndB T W X a ma) (hb : SndB T W X b mb) : SndF T W X (.BinOp a op b pos) (fOp k ma mb) := by
  refine ⟨fun pins s σ H Q I ⟨g, c, k, p⟩ => wpAny_BinOp ?_⟩
  refine thn (ha.run pins s σ H _ I ⟨g, c, k, p.bnd⟩) fun v s1 ⟨x, H1, I1, r1, dx, g1, c1, s1', k1, q1, p1⟩ => ?_
  refine thn (hb.run pins s1 σ H1 _ I1 ⟨g1, c1, k1, p1.bnd⟩) fun u s2 ⟨y, H2, I2, r2, dy, g2, c2, s2', k2, q2, p2⟩ => ?_
  exact ho pins s2 σ H2 x y v u Q g2 c2 dx dy I2 r1 r2 k2 (q1.step s2') q2 p2
def fAddK : D → D → M (List D) := fun a b => match a with
  | .lst xs => (match b with
    | .lst ys => if sizeOk (xs.length + ys.length) then M.ret (xs ++ ys) else M.stk
    | _ => M.stk)
  | _ => M.stk
theorem op_addF : OpOkF T W X (binaryOp .Add) fAddK := by
  intro pins s σ H x y v u Q g c dx dy I rx ry k qx qy p
  cases dx with
  | lst xs =>
    cases dy with
    | lst ys =>
      have p : Post T (RF T) W g σ H Q ((if sizeOk (xs.length + ys.length) = true then M.ret (xs ++ ys) else M.stk) c) := p
      by_cases z : sizeOk (xs.length + ys.length) = true
      · rw [if_pos z] at p
        obtain ⟨a, vs, e1, h1, r1⟩ := qx.list k
        obtain ⟨b, ws, e2, h2, r2⟩ := qy.list k
        refine op_cat pins s σ H x y v u Q I rx ry ⟨a, b, vs, ws, e1, e2, h1, h2, by rw [r1.length, r2.length]; exact line_of z, fun q n => ?_⟩
        obtain ⟨x1, x2, x3⟩ := new_f k n (r1.app r2)
        exact p _ _ _ x1 x2 x3
      · rw [if_neg z] at p; exact p.elim
    | _ => exact p.elim
  | _ => exact p.elim
def fMulK : D → D → M (List D) := fun a b => match a with
  | .lst xs => (match b with
    | .int n => if small63 n && sizeOk (xs.length * n.toNat) then M.ret (rep n xs) else M.stk
    | _ => M.stk)
  | _ => M.stk
theorem op_mulF : OpOkF T W X (binaryOp .Mult) fMulK := by
  intro pins s σ H x y v u Q g c dx dy I rx ry k qx qy p
  cases dx with
  | lst xs =>
    cases dy with
    | int n =>
      have p : Post T (RF T) W g σ H Q ((if (small63 n && sizeOk (xs.length * n.toNat)) = true then M.ret (TL.rep n xs) else M.stk) c) := p
      by_cases z : (small63 n && sizeOk (xs.length * n.toNat)) = true
      · rw [if_pos z] at p
        obtain ⟨z1, z2⟩ := Bool.and_eq_true_iff.mp z
        obtain ⟨z3, z4⟩ := Bool.and_eq_true_iff.mp z1
        obtain ⟨a, vs, e1, h1, r1⟩ := qx.list k
        have e2 := qy.int
        refine op_rep pins s σ H x y v u Q I rx ry ⟨a, n, vs, e1, e2, h1, of_decide_eq_true z3, of_decide_eq_true z4, by rw [r1.length]; exact line_of z2, fun q nn => ?_⟩
        obtain ⟨x1, x2, x3⟩ := new_f k nn (Reps.rep r1 n.toNat)
        exact p _ _ _ x1 x2 x3
      · rw [if_neg z] at p; exact p.elim
    | _ => exact p.elim
  | _ => exact p.elim
/-- a, b, c = .. (names) -/
def sPar3 (i j l : Nat) (ma : M (List D)) : M Flow := M.bnd ma fun ds c => match ds with
  | [d, e, f] => .ok .nx (setS l (.v f) (setS j (.v e) (setS i (.v d) c)))
  | _ => .stuck
theorem s_par3 (i j l : Nat) {x y z : Str} {a b c : Expr} {ma : M (List D)} {py pz pt : Pos} {kt k2 pt2} (C : Ctx T W X) (ha : SndA T W X [a, b, c] ma) (hi : X.N[i]? = some x := by rfl) (hj : X.N[j]? = some y := by rfl) (hl : X.N[l]? = some z := by rfl) (hij : i ≠ j := by decide) (hil : i ≠ l := by decide) (hjl : j ≠ l := by decide)
    (hx : X.env.scope.names.lookup x = some .local := by rfl) (hy : X.env.scope.names.lookup y = some .local := by rfl) (hz : X.env.scope.names.lookup z = some .local := by rfl)
    (hw : swappedStores [.Tuple [.Name x px, .Name y py, .Name z pz] kt pt] (.Tuple [a, b, c] k2 pt2) X.env = pure (some [x, y, z]) := by rfl)
    (hs : swapsWithSole [.Tuple [.Name x px, .Name y py, .Name z pz] kt pt] (.Tuple [a, b, c] k2 pt2) pos.line X.env = pure false := by rfl) :
    SndS T W X (.Assign [.Tuple [.Name x px, .Name y py, .Name z pz] kt pt] (.Tuple [a, b, c] k2 pt2) pos) (sPar3 i j l ma) :=
  PS.imp (ps_par3 C.calm C.nd hi hj hl hij hil hjl hx hy hz ha hw hs) fun E σ H ⟨g, c, kk, p⟩ => ⟨g, c, kk, (PostS.bnd (R := RVs T) (β := List V) p).imp fun vs H1 ⟨ds, g1, c1, s1, k1, r1, p1⟩ => by
    match ds, r1, p1 with
    | [d, e, f], ⟨v, vr, e1, q1, w, vr2, e2, q2, u, vr3, e3, q3, e4⟩, p1 =>
      have e4 : vr3 = [] := e4
      subst e1 e2 e3 e4
      exact ⟨v, w, u, rfl, p1 _ g1 H1 Stp.refl (((k1.storeV q1).storeV q2).storeV q3)⟩
    | [], _, p1 => exact p1.elim
    | [_], _, p1 => exact p1.elim
    | [_, _], _, p1 => exact p1.elim
    | _ :: _ :: _ :: _ :: _, _, p1 => exact p1.elim⟩
/-- == of flat values -/
def oEqF (ne : Bool) : D → D → M D := fun a b => match eqFlat a b with
  | some r => M.ret (.bl (if ne then !r else r))
  | none => M.stk
theorem op_eqF (ne : Bool) : OpOk T W X (compareOp (opB ne)) (oEqF ne) := by
  intro pins s σ H x y v u Q g c dx dy I rx ry h qx qy p
  unfold oEqF at p
  cases ef : eqFlat dx dy with
  | none => rw [ef] at p; exact p.elim
  | some b' =>
    rw [ef] at p
    obtain ⟨l1, l2, sc, ed⟩ := flat_scal ef
    have e1 := lit_rep l1 (qx.rep (lit_not l1))
    have e2 := lit_rep l2 (qy.rep (lit_not l2))
    subst e1 e2
    cases ne with
    | false => exact op_eq pins s σ H _ _ v u Q I rx ry ⟨sc, by rw [ed]; exact Post.here (R := RV1 T) (d := .bl b') h rfl p⟩
    | true => exact op_ne pins s σ H _ _ v u Q I rx ry ⟨sc, by rw [ed]; exact Post.here (R := RV1 T) (d := .bl (!b')) h rfl p⟩
end
/-! ### names -/
def nmOf (ns : List Str) (i : Nat) : Str := match ns[i]? with
  | some s => s
  | none => ⟨Array.replicate (i + 50) 48⟩
theorem nmOf_inj {ns : List Str} (nd : ns.Nodup) (hl : ∀ s ∈ ns, s.cps.size < 50) : ∀ i j, nmOf ns i = nmOf ns j → i = j := by
  intro i j e
  unfold nmOf at e
  cases e1 : ns[i]? with
  | none =>
    cases e2 : ns[j]? with
    | none =>
      rw [e1, e2] at e
      have := congrArg (fun s : Str => s.cps.size) e
      simp at this
      omega
    | some t =>
      rw [e1, e2] at e
      have h := hl t (List.mem_of_getElem? e2)
      have := congrArg (fun s : Str => s.cps.size) e
      simp at this
      omega
  | some s =>
    have h := hl s (List.mem_of_getElem? e1)
    cases e2 : ns[j]? with
    | none =>
      rw [e1, e2] at e
      have := congrArg (fun s : Str => s.cps.size) e
      simp at this
      omega
    | some t =>
      rw [e1, e2] at e
      have e : s = t := e
      subst e
      exact nodup_ix nd e1 e2
/-- the law's promise, from its tree -/
theorem law_end {T : Tab} {F : FnS} {ns : List Int} {H : Hp} {a : Addr} (hq : SqL T.K H a (ns.map V.int)) (h : ∃ ce, F [.scr ns] [] = .ok (.v (.bl true)) ce) : spF T F [.ref a] H (fun v _ => v = .bl true) (fun _ _ _ => False) := by
  obtain ⟨ce, h⟩ := h
  refine ⟨⟨H, fun _ => none, [], fun b => H b ≠ none, (0, none)⟩, [.scr ns], [], ⟨⟨fun _ _ e => e, fun b z => absurd rfl z, fun b z => z, fun i s e => by simp at e, rfl, Nat.zero_le _, fun m b xs e _ => by simp at e⟩, fun b i z => (by cases z), fun b z => z⟩, ⟨.ref a, [], rfl, ⟨a, rfl, hq⟩, rfl⟩, ?_⟩
  rw [h]
  exact fun v g' H' s k r => r
end TL

end
section
set_option Elab.async false
set_option linter.all false
set_option maxRecDepth 100000
/-! Tl25: what the head is asked beside HandS's own facts. -/
namespace TL
open PySem L2 He
/-- an own exception class with its own __init__, as raise asks -/
def oexB (K : PySem.W.Frag) (C : Addr) : Bool := (match K.lookup C with
  | some ⟨.type t, _, .cls cd, sl⟩ => decide (t = "type") && (match cd.mro, sl.toList with
    | .ref C' :: bm, [_, _, _, _, some (.builtin n), _] => decide (C' = C) && (decide (n = "ValueError.__new__") && (!cd.hasDel && (cd.hasDict && PySem.HandSPX.refsVE bm)))
    | _, _ => false)
  | _ => false) && (eqO (PySem.W.findIn K (.ref C) "__setattr__") (some (some (.builtin "object.__setattr__"))) &&
    (decide (PySem.W.subIn K (.ref C) (.type "BaseException") = some true) && (decide (PySem.W.typeIn K (.ref C) = some (.type "type")) && PySem.W.keepIn K (.ref C))))
theorem oexB_ok {K : PySem.W.Frag} {C : Addr} (h : oexB K C = true) : OexC K C := by
  obtain ⟨h1, h⟩ := ba h
  obtain ⟨h2, h⟩ := ba h
  obtain ⟨h3, h⟩ := ba h
  obtain ⟨h4, h5⟩ := ba h
  refine ⟨?_, eqO_ok h2, of_decide_eq_true h3, of_decide_eq_true h4, h5⟩
  split at h1
  · rename_i t dd cd sl hl
    obtain ⟨h0, h1⟩ := ba h1
    split at h1
    · rename_i C' bm k0 k1 k2 k3 n k5 hm hs
      obtain ⟨a1, h1⟩ := ba h1
      obtain ⟨a2, h1⟩ := ba h1
      obtain ⟨a3, h1⟩ := ba h1
      obtain ⟨a4, a5⟩ := ba h1
      have a1 := of_decide_eq_true a1
      have a2 := of_decide_eq_true a2
      have h0 := of_decide_eq_true h0
      subst a1 a2 h0
      obtain ⟨nm, bs, mro, ns, qn, hd, sn, sub, ab, col, del⟩ := cd
      dsimp only at hm a3 a4
      subst hm
      have a3 : del = false := by simpa using a3
      subst a3 a4
      have hsl : sl = #[k0, k1, k2, k3, some (.builtin "ValueError.__new__"), k5] := by
        obtain ⟨l⟩ := sl
        simp only at hs
        rw [hs]
      subst hsl
      exact ⟨nm, qn, ns, bs, bm, sn, sub, ab, col, dd, k0, k1, k2, k3, k5, hl, a5⟩
    · cases h1
  · cases h1
inductive Fb where
  /-- isinstance: a built-in type against an own class, and the other way; two own classes -/
  | bo (n : String) (x : Str) | ob (x : Str) (n : String) | oo (x y : Str) (b : Bool)
  | icl (x : Str) | isp
  | oex (x : Str) | oin (x : Str)
  | noat (x f : Str) | at_ (x f : Str) (m : Str) | bu (x f : Str) (id : String)
  | sub (x : Str) (t : String) (b : Bool) | nsub (t : String) (x : Str)
  | first (x : Str)
  | cread (x : Str) | cinit (x : Str)
  | xf (x : Str)
  | tupS (x : Str) (vs : List Str)
def Fb.ok (K : PySem.W.Frag) : Fb → Bool
  | .bo n x => decide (PySem.W.kitOne K (.type n) (.ref (ga K x)) = some false)
  | .ob x n => decide (PySem.W.kitOne K (.ref (ga K x)) (.type n) = some false)
  | .oo x y b => decide (PySem.W.kitOne K (.ref (ga K x)) (.ref (ga K y)) = some b)
  | .icl x => eqO (PySem.W.findIn K (.ref (ga K x)) "__class__") (some (some (.builtin "object.__class__"))) && decide (PySem.W.mroIn K (ga K x) (.type "object") = some true)
  | .isp => decide (PySem.W.specialIn K (.builtin "object.__class__") "__get__" = some (some (.builtin "getset_descriptor.__get__"))) && decide (PySem.W.takesIn K (.builtin "object.__class__") = some true)
  | .oex x => oexB K (ga K x)
  | .oin x => eqO (PySem.W.findIn K (.ref (ga K x)) "__init__") (some (some (.ref (ma K (ga K x) "__init__")))) && decide (PySem.W.typeIn K (.ref (ma K (ga K x) "__init__")) = some (.type "function"))
  | .noat x f => eqO (PySem.W.findIn K (.ref (ga K x)) f) (some none)
  | .at_ x f m => eqO (PySem.W.findIn K (.ref (ga K x)) f) (some (some (.ref (ma K (ga K x) m)))) && PySem.W.isFn K (.ref (ma K (ga K x) m))
  | .bu x f id => eqO (PySem.W.findIn K (.ref (ga K x)) f) (some (some (.builtin id)))
  | .sub x t b => decide (PySem.W.subIn K (.ref (ga K x)) (.type t) = some b)
  | .nsub t x => decide (PySem.W.subIn K (.type t) (.ref (ga K x)) = some false)
  | .first x => PySem.W.selfFirst K (ga K x)
  | .cread x => PySem.W.readsIn K (ga K x) (.type "type") && decide (PySem.W.specialIn K (.ref (ga K x)) "__getattribute__" = some (some (.builtin "type.__getattribute__")))
  | .cinit x => (match PySem.W.findCls K (.ref (ga K x)) (.type "type") "__init__" with
    | some (.val (.builtin n)) => decide (n = "ValueError.__init__")
    | _ => false)
  | .xf x => xfB K (ga K x)
  | .tupS x vs => tupB K x (vs.map .str)
theorem cinit_ok {K : PySem.W.Frag} {x : Str} (h : (Fb.cinit x).ok K = true) : PySem.W.findCls K (.ref (ga K x)) (.type "type") "__init__" = some (.val (.builtin "ValueError.__init__")) := by
  have h : (match PySem.W.findCls K (.ref (ga K x)) (.type "type") "__init__" with
    | some (.val (.builtin n)) => decide (n = "ValueError.__init__")
    | _ => false) = true := h
  split at h
  · rename_i n e
    rw [e, of_decide_eq_true h]
  · cases h
theorem rep_tupS' {T : TL.Tab} {x : Str} {vs : List Str} {g : Gh} (h : (Fb.tupS x vs).ok T.K = true) : Rep T g (.ref (ga T.K x)) (.tup (vs.map D.str)) := by
  have q := tupB_ok (show tupB T.K x (vs.map .str) = true from h) g.I
  refine ⟨_, _, rfl, q, ?_⟩
  clear q h
  induction vs with
  | nil => rfl
  | cons z zs ih => exact ⟨.str z, _, rfl, rfl, ih⟩
def exB (fb : List Fb) (K : PySem.W.Frag) : Bool := fb.all fun f => f.ok K
theorem exB_at {fb : List Fb} {K : PySem.W.Frag} (h : exB fb K = true) (i : Nat) {f : Fb} (e : fb[i]? = some f := by rfl) : f.ok K = true := List.all_eq_true.mp h f (List.mem_of_getElem? e)
end TL

end
section
set_option Elab.async false
set_option linter.all false
set_option maxRecDepth 100000
/-! Tl26: raise, once more. -/
namespace TL
open PySem L2
theorem s_raiseX {T : Tab} {W : WX} {X : Cx} {pos p p1 : Pos} {Ci fl fi kk : Nat} {x : Str} {e : Expr} {ma : M (List D)} (C : Ctx T W X) (R : RzI T Ci fl fi) (Fk : ∃ fd ps, FnOk X.prog X.w T.K T.mg X.base (L2.CX X.prog X.w) kk (T.fa fi) fd ps (spX (T.cls Ci) (T.nm fl)) ∧ Binds T.K fd ps []) (hr : Room (kk + 1) X.A)
    (gC : T.mg x = some (.ref (T.cls Ci))) (ha : SndA T W X [e] ma) (hg : Gl X x := by rfl) (hdb : (x == ("__debug__" : Str)) = false := by decide) (he : starEach [e] X.env = (false, eval e X.env) :: starEach [] X.env := by rfl) (hpl : (backTo p1 (starEach [] X.env)).any (·.1) = false := by rfl) :
    SndS T W X (.Raise (some (.Call (.Name x p) [e] [] p1)) none pos) (sRaiseI Ci fl ma) := by
  obtain ⟨fd, ps, h1, h2⟩ := Fk
  exact s_raiseI C R h1 h2 hr gC ha hg hdb he hpl
theorem isp_ok {K : PySem.W.Frag} (h : (Fb.isp).ok K = true) : PySem.W.specialIn K (.builtin "object.__class__") "__get__" = some (some (.builtin "getset_descriptor.__get__")) ∧ PySem.W.takesIn K (.builtin "object.__class__") = some true := by
  have h : (decide (PySem.W.specialIn K (.builtin "object.__class__") "__get__" = some (some (.builtin "getset_descriptor.__get__"))) && decide (PySem.W.takesIn K (.builtin "object.__class__") = some true)) = true := h
  obtain ⟨h1, h2⟩ := He.ba h
  exact ⟨of_decide_eq_true h1, of_decide_eq_true h2⟩
theorem icl_ok {K : PySem.W.Frag} {x : Str} (h : (Fb.icl x).ok K = true) : PySem.W.findIn K (.ref (He.ga K x)) "__class__" = some (some (.builtin "object.__class__")) ∧ PySem.W.mroIn K (He.ga K x) (.type "object") = some true := by
  have h : (He.eqO (PySem.W.findIn K (.ref (He.ga K x)) "__class__") (some (some (.builtin "object.__class__"))) && decide (PySem.W.mroIn K (He.ga K x) (.type "object") = some true)) = true := h
  obtain ⟨h1, h2⟩ := He.ba h
  exact ⟨He.eqO_ok h1, of_decide_eq_true h2⟩
theorem oin_ok {K : PySem.W.Frag} {x : Str} (h : (Fb.oin x).ok K = true) : PySem.W.findIn K (.ref (He.ga K x)) "__init__" = some (some (.ref (He.ma K (He.ga K x) "__init__"))) ∧ PySem.W.typeIn K (.ref (He.ma K (He.ga K x) "__init__")) = some (.type "function") := by
  have h : (He.eqO (PySem.W.findIn K (.ref (He.ga K x)) "__init__") (some (some (.ref (He.ma K (He.ga K x) "__init__")))) && decide (PySem.W.typeIn K (.ref (He.ma K (He.ga K x) "__init__")) = some (.type "function"))) = true := h
  obtain ⟨h1, h2⟩ := He.ba h
  exact ⟨He.eqO_ok h1, of_decide_eq_true h2⟩
theorem at_ok {K : PySem.W.Frag} {x f m : Str} (h : (Fb.at_ x f m).ok K = true) : PySem.W.findIn K (.ref (He.ga K x)) f = some (some (.ref (He.ma K (He.ga K x) m))) ∧ PySem.W.isFn K (.ref (He.ma K (He.ga K x) m)) = true := by
  have h : (He.eqO (PySem.W.findIn K (.ref (He.ga K x)) f) (some (some (.ref (He.ma K (He.ga K x) m)))) && PySem.W.isFn K (.ref (He.ma K (He.ga K x) m))) = true := h
  obtain ⟨h1, h2⟩ := He.ba h
  exact ⟨He.eqO_ok h1, h2⟩
theorem cread_ok {K : PySem.W.Frag} {x : Str} (h : (Fb.cread x).ok K = true) : ClX.CRead K (He.ga K x) (.type "type") := by
  have h : (PySem.W.readsIn K (He.ga K x) (.type "type") && decide (PySem.W.specialIn K (.ref (He.ga K x)) "__getattribute__" = some (some (.builtin "type.__getattribute__")))) = true := h
  obtain ⟨h1, h2⟩ := He.ba h
  exact ⟨h1, of_decide_eq_true h2⟩
end TL

end
section
set_option Elab.async false
set_option linter.all false
set_option maxRecDepth 100000
/-! Tl27: levels, ends. -/
namespace TL
open PySem L2
theorem dfl_one {T : Tab} {f : Nat} {fd : FuncData} {ps : List Str} (h : T.dfl f = [[]]) (b : Binds T.K fd ps []) : DflOk T f fd ps := fun dl hd => by
  rw [h] at hd
  have : dl = [] := by simpa using hd
  subst this
  exact ⟨rfl, [], .nil, b⟩
theorem dfl_two {T : Tab} {f : Nat} {fd : FuncData} {ps : List Str} (h : T.dfl f = [[], [.int 1]]) (b0 : ∃ ds, Vals ([] : List V) ds ∧ Binds T.K fd ps ds) (b1 : ∃ ds, Vals [V.int 1] ds ∧ Binds T.K fd ps ds) : DflOk T f fd ps := fun dl hd => by
  rw [h] at hd
  have : dl = [] ∨ dl = [.int 1] := by simpa using hd
  rcases this with rfl | rfl
  · exact ⟨rfl, b0⟩
  · exact ⟨rfl, b1⟩
theorem fn_stuck {T : Tab} {P : Program} {w : World} {base : Heap} {CX : CXT} {k : Nat} {f : Addr} {fd : FuncData} {ps : List Str} : FnOk P w T.K T.mg base CX k f fd ps (spF T (fun _ _ => .stuck)) :=
  ⟨fun vs H Q E ⟨g, ds, ce, _, _, p⟩ => p.elim, fun A outer s H args us vs Q E _ _ _ _ ⟨g, ds, ce, _, _, p⟩ => p.elim⟩
theorem in_stuck {T : Tab} {P : Program} {w : World} {base : Heap} {CX : CXT} {k C : Nat} {f : Addr} {fd : FuncData} {ps : List Str} : FnOk P w T.K T.mg base CX k f fd ps (spI T C (fun _ _ => .stuck)) :=
  ⟨fun vs H Q E ⟨x, dx, vr, g, ds, ce, _, _, _, _, _, _, _, p⟩ => p.elim, fun A outer s H args us vs Q E _ _ _ _ ⟨x, dx, vr, g, ds, ce, _, _, _, _, _, _, _, p⟩ => p.elim⟩
/-- Ratio's == -/
theorem rat_ext (a b : Rat) : decide (a = b) = ((a.num == b.num) && ((a.den : Int) == (b.den : Int))) := by
  by_cases h : a = b
  · subst h; simp
  · rw [decide_eq_false h]
    by_cases h1 : a.num = b.num
    · by_cases h2 : a.den = b.den
      · exact absurd (Rat.ext h1 h2) h
      · have : ((a.den : Int) == (b.den : Int)) = false := by rw [beq_eq_false_iff_ne]; omega
        rw [this]; simp
    · have : (a.num == b.num) = false := by simpa using h1
      rw [this]; simp
def bEqR (nC : Nat) (Ca Cb : List Nat) : M TL.Flow := sRet (eAnd (eIsi nC (eNameB 1) (.own 0)) (eAnd (eOp (oEqF false) (eFld (0 :: Ca) 0 (eName 0)) (eFld (0 :: Ca) 0 (eName 1))) (eOp (oEqF false) (eFld (0 :: Cb) 1 (eName 0)) (eFld (0 :: Cb) 1 (eName 1)))))
theorem eqR_val {nC : Nat} {Ca Cb : List Nat} (hn : (decide (0 < nC)) = true) (a : Rat) (d : D) (b : Bool) (ce : List (List D)) (e : eqRat a d = some b) : arity 2 (runF 2 (bEqR nC Ca Cb)) [.rat a, d] ce = .ok (.v (.bl b)) ce := by
  have hn := of_decide_eq_true hn
  cases d with
  | rat q =>
    have e : some (decide (a = q)) = some b := e
    cases e
    rw [rat_ext]
    by_cases h1 : a.num = q.num
    · simp [arity, runF, bEqR, sRet, eAnd, M.bnd, M.ret, M.opt, eIsi, eNameB, isD, hn, eOp, eFld, fldD, eName, oEqF, eqFlat, h1]
    · have e0 : (a.num == q.num) = false := by simpa using h1
      rw [e0]
      simp [arity, runF, bEqR, sRet, eAnd, M.bnd, M.ret, M.opt, eIsi, eNameB, isD, hn, eOp, eFld, fldD, eName, oEqF, eqFlat, e0]
  | non => cases e; simp [arity, runF, bEqR, sRet, eAnd, M.bnd, M.ret, M.opt, eIsi, eNameB, isD, hn]
  | bl _ => cases e; simp [arity, runF, bEqR, sRet, eAnd, M.bnd, M.ret, M.opt, eIsi, eNameB, isD, hn]
  | int _ => cases e; simp [arity, runF, bEqR, sRet, eAnd, M.bnd, M.ret, M.opt, eIsi, eNameB, isD, hn]
  | str _ => cases e; simp [arity, runF, bEqR, sRet, eAnd, M.bnd, M.ret, M.opt, eIsi, eNameB, isD, hn]
  | tup _ => cases e; simp [arity, runF, bEqR, sRet, eAnd, M.bnd, M.ret, M.opt, eIsi, eNameB, isD, hn]
  | _ => cases e
end TL
namespace TL
open PySem L2
theorem FnOk_quiet {P : Program} {w : World} {K : PySem.W.Frag} {mg : Str → Option Value} {base : Heap} {k : Nat} {f : Addr} {fd : FuncData} {ps : List Str} {sp : Sp} (F : FnOk P w K mg base (L2.CX P w) k f fd ps sp) :
    FnOk P w K mg base CX0 k f fd ps (fun vs H Q _ => sp vs H Q (fun _ _ _ => False)) := by
  refine ⟨fun vs H Q E h => F.len vs H Q _ h, fun A outer s H args us vs Q E hr e0 hb r h => codeAny_mono (F.run A outer s H args us vs Q _ hr e0 hb r h) fun r s' hq => ?_⟩
  cases r with
  | error e =>
    obtain ⟨_, _, _, _, _, _, _, _, _, _, _, _, z⟩ := hq
    exact z.elim
  | ok fl => cases fl <;> exact hq
end TL

end
section
set_option Elab.async false
set_option linter.all false
set_option maxRecDepth 100000
/-! Tl28: dicts that stay: displays, comprehensions, in, items. -/
namespace TL
open PySem L2
section
variable {T : Tab} {Φ : Phi} {W : WX} {X : Cx} {k : Nat} {pos p p1 p2 apos : Pos} {g : Gh} {σ : L2.St} {H : Hp} {c : Cfg}
def kOf : D → Option Key
  | .int i => some (.inl i)
  | .str z => some (.inr z)
  | _ => none
theorem kOf_ok {d : D} {v : V} {y : Key} (h : kOf d = some y) (r : Rep T g v d) : v = kV y := by
  cases d <;> first | (cases h; exact r) | cases h
def valD (kvs : List (Key × D)) (y : Key) : Option D := (kvs.find? fun kv => decide (kv.1 = y)).map (·.2)
def putKD (kvs : List (Key × D)) (y : Key) (v : D) : List (Key × D) :=
  if (kvs.any fun kv => decide (kv.1 = y)) = true then kvs.map (fun kv => if kv.1 = y then (kv.1, v) else kv) else kvs ++ [(y, v)]
theorem RepK.length : ∀ {vs : List (Key × V)} {ds : List (Key × D)}, RepK T g vs ds → vs.length = ds.length
  | vs, [], r => by have r : vs = [] := r; subst r; rfl
  | vs, x :: xs, r => by
    obtain ⟨v, vr, e, r1, r2⟩ := r
    subst e
    rw [List.length_cons, List.length_cons, RepK.length r2]
theorem RepK.val {y : Key} : ∀ {vs : List (Key × V)} {ds : List (Key × D)}, RepK T g vs ds → (valD ds y = none ∧ valV vs y = none) ∨ ∃ d v, valD ds y = some d ∧ valV vs y = some v ∧ Rep T g v d
  | vs, [], r => by have r : vs = [] := r; subst r; exact .inl ⟨rfl, rfl⟩
  | vs, x :: xs, r => by
    obtain ⟨v, vr, e, r1, r2⟩ := r
    subst e
    unfold valD valV
    by_cases h : x.1 = y
    · right
      exact ⟨x.2, v, by rw [List.find?_cons, decide_eq_true h]; rfl, by rw [List.find?_cons, decide_eq_true (show (x.1, v).1 = y from h)]; rfl, r1⟩
    · have ih := RepK.val (y := y) r2
      unfold valD valV at ih
      rw [List.find?_cons, decide_eq_false h, List.find?_cons, decide_eq_false (show ¬ (x.1, v).1 = y from h)]
      exact ih
theorem RepK.any {y : Key} : ∀ {vs : List (Key × V)} {ds : List (Key × D)}, RepK T g vs ds → (vs.any fun kv => decide (kv.1 = y)) = ds.any fun kv => decide (kv.1 = y)
  | vs, [], r => by have r : vs = [] := r; subst r; rfl
  | vs, x :: xs, r => by
    obtain ⟨v, vr, e, r1, r2⟩ := r
    subst e
    rw [List.any_cons, List.any_cons, RepK.any r2]
theorem RepK.app : ∀ {vs ws : List (Key × V)} {ds es : List (Key × D)}, RepK T g vs ds → RepK T g ws es → RepK T g (vs ++ ws) (ds ++ es)
  | vs, ws, [], es, r, q => by have r : vs = [] := r; subst r; exact q
  | vs, ws, x :: xs, es, r, q => by
    obtain ⟨v, vr, e, r1, r2⟩ := r
    subst e
    exact ⟨v, vr ++ ws, rfl, r1, RepK.app r2 q⟩
theorem RepK.mapp {y : Key} {w : V} {d : D} (rw' : Rep T g w d) : ∀ {vs : List (Key × V)} {ds : List (Key × D)}, RepK T g vs ds → RepK T g (vs.map fun kv => if kv.1 = y then (kv.1, w) else kv) (ds.map fun kv => if kv.1 = y then (kv.1, d) else kv)
  | vs, [], r => by have r : vs = [] := r; subst r; rfl
  | vs, x :: xs, r => by
    obtain ⟨v, vr, e, r1, r2⟩ := r
    subst e
    show RepK T g ((if (x.1, v).1 = y then ((x.1, v).1, w) else (x.1, v)) :: vr.map fun kv => if kv.1 = y then (kv.1, w) else kv) ((if x.1 = y then (x.1, d) else x) :: xs.map fun kv => if kv.1 = y then (kv.1, d) else kv)
    by_cases h : x.1 = y
    · rw [if_pos (show (x.1, v).1 = y from h), if_pos h]
      exact ⟨w, _, rfl, rw', RepK.mapp rw' r2⟩
    · rw [if_neg (show ¬ (x.1, v).1 = y from h), if_neg h]
      exact ⟨v, _, rfl, r1, RepK.mapp rw' r2⟩
theorem RepK.put {y : Key} {w : V} {d : D} {vs : List (Key × V)} {ds : List (Key × D)} (r : RepK T g vs ds) (rw' : Rep T g w d) : RepK T g (putK vs y w) (putKD ds y d) := by
  unfold putK putKD
  rw [RepK.any r]
  by_cases h : (ds.any fun kv => decide (kv.1 = y)) = true
  · rw [if_pos h, if_pos h]; exact RepK.mapp rw' r
  · rw [if_neg h, if_neg h]; exact RepK.app r ⟨w, [], rfl, rw', rfl⟩
def mergeD (kvs more : List (Key × D)) : List (Key × D) := more.foldl (fun acc kv => putKD acc kv.1 kv.2) kvs
theorem RepK.merge : ∀ {more : List (Key × V)} {mo : List (Key × D)} {vs : List (Key × V)} {ds : List (Key × D)}, RepK T g more mo → RepK T g vs ds → RepK T g (mergeK vs more) (mergeD ds mo)
  | more, [], vs, ds, r, q => by have r : more = [] := r; subst r; exact q
  | more, x :: xs, vs, ds, r, q => by
    obtain ⟨v, vr, e, r1, r2⟩ := r
    subst e
    exact (show RepK T g (mergeK (putK vs x.1 v) vr) (mergeD (putKD ds x.1 x.2) xs) from RepK.merge r2 (q.put r1))

/-! ### in, items -/
theorem rep_dct {x : V} {kvs : List (Key × D)} (r : RepB T g H x (.dct kvs)) : ∃ a vs, x = .ref a ∧ g.I a = some (.dK vs) ∧ RepK T g vs kvs := r.rep (fun _ => by simp)
def oInD (neg : Bool) : D → D → M D := fun a b => match b with
  | .dct kvs => (match kOf a with
    | some y => M.ret (.bl (if neg then !(valD kvs y).isSome else (valD kvs y).isSome))
    | none => M.stk)
  | _ => oIn neg a b
theorem dget_at {a : Addr} {vs : List (Key × V)} {kvs : List (Key × D)} {y : Key} (k : Held T g σ H c) (h : g.I a = some (.dK vs)) (r : RepK T g vs kvs) : ∃ o, DGet H a (kV y) o ∧ o.isSome = (valD kvs y).isSome ∧ ∀ d, valD kvs y = some d → ∃ v, o = some v ∧ Rep T g v d := by
  refine ⟨valV vs y, DGet.k (k.sub _ _ h), ?_, fun d e => ?_⟩
  · rcases r.val (y := y) with ⟨h1, h2⟩ | ⟨d, v, h1, h2, _⟩
    · rw [h1, h2]; rfl
    · rw [h1, h2]; rfl
  · rcases r.val (y := y) with ⟨h1, h2⟩ | ⟨d', v, h1, h2, h3⟩
    · rw [h1] at e; cases e
    · rw [h1] at e; cases e
      exact ⟨v, h2, h3⟩
theorem op_inD (C : Ctx T W X) (hu : X.A.units + 1 < cLine) : OpOk T W X (compareOp .In) (oInD false) := by
  intro pins s σ H x y v u Q g c dx dy I rx ry k qx qy p
  cases dy with
  | dct kvs =>
    have p : Post T (RV1 T) W g σ H Q ((match kOf dx with | some y => M.ret (D.bl (valD kvs y).isSome) | none => M.stk) c) := p
    cases ek : kOf dx with
    | none => rw [ek] at p; exact p.elim
    | some z =>
      rw [ek] at p
      obtain ⟨a, vs, e, h, r⟩ := rep_dct qy
      subst e
      cases ry
      have ex := kOf_ok ek (qx.rep (by intro xs e; subst e; cases ek))
      subst ex
      obtain ⟨o, ho, hs, _⟩ := dget_at k h r (y := z)
      exact d_in hu I ho rx fun s' I' => ⟨.bl o.isSome, H, I', rfl, by rw [hs]; exact Post.here (R := RV1 T) (d := .bl (valD kvs z).isSome) k rfl p⟩
  | _ => exact op_in' C pins s σ H x y v u Q g c dx _ I rx ry k qx qy p
theorem op_notinD (C : Ctx T W X) (hu : X.A.units + 1 < cLine) : OpOk T W X (compareOp .NotIn) (oInD true) := by
  intro pins s σ H x y v u Q g c dx dy I rx ry k qx qy p
  cases dy with
  | dct kvs =>
    have p : Post T (RV1 T) W g σ H Q ((match kOf dx with | some y => M.ret (D.bl (!(valD kvs y).isSome)) | none => M.stk) c) := p
    cases ek : kOf dx with
    | none => rw [ek] at p; exact p.elim
    | some z =>
      rw [ek] at p
      obtain ⟨a, vs, e, h, r⟩ := rep_dct qy
      subst e
      cases ry
      have ex := kOf_ok ek (qx.rep (by intro xs e; subst e; cases ek))
      subst ex
      obtain ⟨o, ho, hs, _⟩ := dget_at k h r (y := z)
      exact d_notIn hu I ho rx fun s' I' => ⟨.bl (!o.isSome), H, I', rfl, by rw [hs]; exact Post.here (R := RV1 T) (d := .bl (!(valD kvs z).isSome)) k rfl p⟩
  | _ => exact op_notin' C pins s σ H x y v u Q g c dx _ I rx ry k qx qy p
def ixDct (x y : D) : Option D := match x, kOf y with
  | .dct kvs, some z => valD kvs z
  | _, _ => none
def eIxD (ma mb : M D) : M D := M.bnd ma fun x => M.bnd mb fun y => M.opt (ixDct x y)
theorem s_ixD {a b : Expr} {ma mb : M D} (C : Ctx T W X) (hu : X.A.units + 1 < cLine) (ha : SndE T W X a ma) (hb : SndE T W X b mb) (hs : NoSl b := by exact fun _ _ => rfl) : SndE T W X (.Subscript a b pos) (eIxD ma mb) :=
  PE.imp (pe_dget hu ha hb hs) fun σ H Q ⟨g, c, k, p⟩ => ⟨g, c, k, p.bnd.imp fun x H1 ⟨d1, g1, c1, s1, k1, r1, p1⟩ => ⟨g1, c1, k1, p1.bnd.imp fun y H2 ⟨d2, g2, c2, s2, k2, r2, p2⟩ => by
    cases d1 with
    | dct kvs =>
      have p2 : Post T (RV1 T) W g2 σ H2 Q (M.opt (match kOf d2 with | some z => valD kvs z | none => none) c2) := by
        unfold ixDct at p2
        cases e : kOf d2 with
        | none => rw [e] at p2; exact p2
        | some z => rw [e] at p2; exact p2
      cases e : kOf d2 with
      | none => rw [e] at p2; exact p2.elim
      | some z =>
        rw [e] at p2
        dsimp only at p2
        cases e2 : valD kvs z with
        | none => rw [e2] at p2; exact p2.elim
        | some d =>
          rw [e2] at p2
          obtain ⟨a, vs, ex, h, r⟩ := Rep.mono s2.le _ _ r1
          have ey := kOf_ok e r2
          subst ey
          obtain ⟨o, ho, _, hv⟩ := dget_at k2 h r (y := z)
          obtain ⟨v, eo, rv⟩ := hv d e2
          subst eo
          exact ⟨a, v, ex, ho, Post.here (R := RV1 T) k2 rv p2⟩
    | _ => exact p2.elim⟩⟩
/-! ### displays -/
/-- a thing that nobody holds becomes lasting -/
theorem held_lay {a : Addr} {o : HO} (k : Held T g σ H c) (hI : g.I a = none) (oa : g.O a = none) (h : H a = some o) : Held T (g.frz a o) σ H c := by
  have eO : (g.frz a o).O = g.O := by
    funext b
    show (if b = a then none else g.O b) = g.O b
    by_cases e : b = a
    · rw [if_pos e, e, oa]
    · rw [if_neg e]
  have le : GLe g (g.frz a o) := ⟨⟨Ext.upd hI, ⟨[], by simp [Gh.frz]⟩⟩, rfl, rfl⟩
  refine ⟨fun b u e => ?_, fun b z => ?_, k.bs, fun i t e => (k.sl i t e).step le fun b u q e => ⟨e, by rw [eO]; exact q⟩, k.cn, k.ln, fun m b ys e1 e2 => ?_⟩
  · by_cases q : b = a
    · subst q
      have e' : L2.upd g.I b o b = some u := e
      rw [upd_same] at e'; cases e'; exact h
    · have e' : L2.upd g.I a o b = some u := e
      rw [upd_ne q] at e'; exact k.sub b u e'
  · rw [eO] at z
    have nb : b ≠ a := fun q => by rw [q, oa] at z; exact z rfl
    exact ⟨(upd_ne nb).trans (k.ow b z).1, (k.ow b z).2⟩
  · obtain ⟨h1, vs', h2, r'⟩ := k.ce m b ys e1 e2
    exact ⟨by rw [eO]; exact h1, vs', h2, Reps.mono le _ _ r'⟩
/-- an object that is being made stands at p; the ghost that keeps it -/
structure Mkg (T : Tab) (g1 : Gh) (H1 : Hp) (p0 : Addr) (gb : Gh) (H : Hp) : Prop where
  B : gb.B = fun a => g1.B a ∨ a = p0
  st : StpE g1 H1 (gb.reB g1.B) H
  I : gb.I p0 = none
  O : gb.O p0 = none
theorem mkg_new {p0 : Addr} {o : HO} (k : Held T g σ H c) (n : H p0 = none) : Mkg T g H p0 (g.reB fun a => g.B a ∨ a = p0) (L2.upd H p0 o) ∧ Held T (g.reB fun a => g.B a ∨ a = p0) σ (L2.upd H p0 o) c := by
  obtain ⟨f1, f2, f3⟩ := k.free n
  refine ⟨⟨rfl, ⟨⟨⟨⟨fun _ _ h => h, ⟨[], by simp [Gh.reB]⟩⟩, rfl, rfl⟩, fun a u e _ oo => ⟨(upd_ne (fun z => by rw [z, n] at e; cases e)).trans e, rfl, oo⟩⟩, fun a u e oo => ⟨(upd_ne (fun z => by rw [z, n] at e; cases e)).trans e, oo⟩⟩, f1, f2⟩, ?_⟩
  refine Held.reB (k.upd n) (fun a ha => ?_) (fun a i o nb hb => ?_)
  · rcases ha with ha | ha
    · have := k.bs a ha
      rw [upd_ne (fun q => this (by rw [q]; exact n))]; exact this
    · rw [ha, upd_same]; simp
  · rcases hb with hb | hb
    · exact nb hb
    · rw [hb, f2] at o; cases o
theorem Mkg.step {g1 gb gb' : Gh} {H1 H H' : Hp} {p0 : Addr} {o : HO} (b : Mkg T g1 H1 p0 gb H) (ho : H p0 = some o) (s : StpE gb H gb' H') : Mkg T g1 H1 p0 gb' H' ∧ H' p0 = some o := by
  have hB : gb.B p0 := by rw [b.B]; exact .inr rfl
  obtain ⟨x1, x2, x3⟩ := s.fr p0 _ ho hB b.O
  refine ⟨⟨s.le.B.trans b.B, b.st.trans ⟨⟨⟨⟨s.le.I, s.le.cl⟩, rfl, s.le.sf⟩, fun a o e hb z => ?_⟩, fun a o e z => s.nc a o e z⟩, x2.trans b.I, x3⟩, x1⟩
  exact s.fr a o e (by rw [b.B]; exact Or.inl hb) z
theorem Mkg.held {g1 gb : Gh} {H1 H : Hp} {p0 : Addr} (b : Mkg T g1 H1 p0 gb H) (k : Held T gb σ H c) : Held T (gb.reB g1.B) σ H c :=
  k.reB (fun a ha => k.bs a (by rw [b.B]; exact .inl ha)) fun a i o nb hb => nb (by rw [b.B]; exact .inl hb)
/-- it is done: it stands for ever -/
theorem Mkg.done {g1 gb : Gh} {H1 H : Hp} {p0 : Addr} {o : HO} (b : Mkg T g1 H1 p0 gb H) (n : H1 p0 = none) (nb : ¬ g1.B p0) (k : Held T gb σ H c) :
    ∃ g', StpE g1 H1 g' (L2.upd H p0 o) ∧ Held T g' σ (L2.upd H p0 o) c ∧ g'.I p0 = some o ∧ GL gb g' := by
  have k1 := (b.held k).updF (D := p0) (o := o) b.I b.O
  have k2 := held_lay (a := p0) (o := o) k1 b.I b.O upd_same
  refine ⟨(gb.reB g1.B).frz p0 o, ⟨⟨⟨⟨?_, ?_⟩, b.st.le.B, b.st.le.sf⟩, fun a u e hb z => ?_⟩, fun a u e z => ?_⟩, k2, upd_same, ⟨Ext.upd b.I, ⟨[], by simp [Gh.frz, Gh.reB]⟩⟩⟩
  · exact b.st.le.I.trans (Ext.upd b.I)
  · exact b.st.le.cl
  · obtain ⟨x1, x2, x3⟩ := b.st.fr a u e hb z
    have ne : a ≠ p0 := fun q => by rw [q, n] at e; cases e
    exact ⟨(upd_ne ne).trans x1, (upd_ne ne).trans x2, by show (if a = p0 then none else gb.O a) = none; rw [if_neg ne]; exact x3⟩
  · obtain ⟨x1, x2⟩ := b.st.nc a u e z
    have ne : a ≠ p0 := fun q => by rw [q, n] at e; cases e
    exact ⟨(upd_ne ne).trans x1, fun j => by show (if a = p0 then none else gb.O a) ≠ _; rw [if_neg ne]; exact x2 j⟩
/-- the pairs of a display -/
def SndP (T : Tab) (W : WX) (X : Cx) (pos : Pos) (keys : List (Option Expr)) (values : List Expr) (ks : List Key) (ma : M (List D)) : Prop :=
  ∃ trs, PPs X pos keys values trs ∧ keys.length = ks.length ∧ ∀ σ H Q, rd T (RVs T) W ma σ H (fun vs H' => vs.length = ks.length → Q ((ks.map kV).zip vs) H') → tPairs trs σ H Q
theorem p_nil : SndP T W X pos [] [] [] aNil := ⟨[], pps_nil, rfl, fun σ H Q ⟨g, c, k, p⟩ => Post.here (R := RVs T) k (show Reps T g [] [] from rfl) p rfl⟩
theorem p_cons {ke v : Expr} {y : Key} {kes : List (Option Expr)} {vs : List Expr} {ks : List Key} {m : M D} {r : M (List D)} (hk : PE X ke (tC (kV y))) (hv : SndE T W X v m) (hr : SndP T W X pos kes vs ks r) : SndP T W X pos (some ke :: kes) (v :: vs) (y :: ks) (aCons m r) := by
  obtain ⟨trs, hp, hl, h⟩ := hr
  refine ⟨_, pps_cons hk hv hp, by simp [hl], fun σ H Q ⟨g, c, k, p⟩ => ?_⟩
  refine ⟨g, c, k, p.bnd.imp fun x H1 ⟨d, g1, c1, s1, k1, r1, p1⟩ => h σ H1 _ ⟨g1, c1, k1, p1.bnd.imp fun xs H2 ⟨ds, g2, c2, s2, k2, r2, p2⟩ hlen => ?_⟩⟩
  exact Post.here (R := RVs T) k2 (show Reps T g2 (x :: xs) (d :: ds) from ⟨x, xs, rfl, Rep.mono s2.le _ _ r1, r2⟩) p2 (by simp [hlen])
def zipK : List Key → List D → Option (List (Key × D))
  | [], [] => some []
  | k :: ks, d :: ds => (zipK ks ds).map ((k, d) :: ·)
  | _, _ => none
theorem zipK_ok : ∀ {ks : List Key} {ds : List D} {vs : List V} {kvs : List (Key × D)}, zipK ks ds = some kvs → Reps T g vs ds → RepK T g (ks.zip vs) kvs ∧ vs.length = ks.length
  | [], [], vs, kvs, h, r => by cases h; have r : vs = [] := r; subst r; exact ⟨rfl, rfl⟩
  | [], _ :: _, vs, kvs, h, r => by cases h
  | _ :: _, [], vs, kvs, h, r => by cases h
  | k :: ks, d :: ds, vs, kvs, h, r => by
    obtain ⟨v, vr, e, r1, r2⟩ := r
    subst e
    have h : (zipK ks ds).map ((k, d) :: ·) = some kvs := h
    cases e : zipK ks ds with
    | none => rw [e] at h; cases h
    | some l =>
      rw [e] at h; cases h
      obtain ⟨q1, q2⟩ := zipK_ok e r2
      exact ⟨⟨v, _, rfl, r1, q1⟩, by simp [q2]⟩
theorem zip_kv : ∀ (ks : List Key) (vs : List V), (ks.map kV).zip vs = (ks.zip vs).map fun kv => (kV kv.1, kv.2)
  | [], vs => rfl
  | k :: ks, [] => rfl
  | k :: ks, v :: vs => by simp only [List.map_cons, List.zip_cons_cons, zip_kv ks vs]
def eDct (ks : List Key) (ma : M (List D)) : M D := M.bnd ma fun ds => match zipK ks ds with
  | some kvs => M.ret (.dct (mergeD [] kvs))
  | none => M.stk
theorem s_dct {keys : List (Option Expr)} {values : List Expr} {ks : List Key} {ma : M (List D)} (h : SndP T W X pos keys values ks ma) (hall : keys.all (·.isSome) = true := by rfl) (hl : keys.length = values.length := by rfl) (h0 : keys ≠ [] := by simp) (h15 : keys.length ≤ 15 := by decide) : SndE T W X (.Dict keys values pos) (eDct ks ma) := by
  obtain ⟨trs, hp, hkl, hq⟩ := h
  refine PE.imp (pe_disp hp hall hl h0 h15) fun σ H Q ⟨g, c, k, p⟩ => fun p0 n => hq σ _ _ ?_
  obtain ⟨b, kb⟩ := mkg_new (o := .dK []) k n
  have nb := (k.free n).2.2
  refine ⟨_, c, kb, ?_⟩
  unfold eDct M.bnd at p
  cases em : ma c with
  | stuck => rw [em] at p; exact p
  | err x c1 =>
    rw [em] at p
    intro cls dd g2 H2 s2 k2 r2
    obtain ⟨b2, _⟩ := b.step upd_same s2
    refine p cls dd _ H2 b2.st (b2.held k2) ⟨r2.1, ?_⟩
    rcases r2.2 with e2 | ⟨d, vfs, a1, a2, a3, a4⟩
    · exact .inl e2
    · exact .inr ⟨d, vfs, a1, a2, RepF.gl GL.reB _ _ a3, fun z => a4 (by rw [b2.B]; exact .inl z)⟩
  | ok ds c1 =>
    rw [em] at p
    intro vs g2 H2 s2 k2 r2 hlen
    dsimp only at p
    cases ez : zipK ks ds with
    | none => rw [ez] at p; exact p.elim
    | some kvs =>
      rw [ez] at p
      obtain ⟨b2, h2⟩ := b.step upd_same s2
      obtain ⟨rk, _⟩ := zipK_ok ez r2
      refine ⟨h2, ks.zip vs, ?_, ?_, ?_⟩
      · exact zip_kv ks vs
      · rw [List.length_zip, hlen, Nat.min_self, ← hkl]; exact h15
      · obtain ⟨g3, s3, k3, i3, l3⟩ := b2.done (o := .dK (mergeK [] (ks.zip vs))) n nb k2
        exact p _ g3 _ s3 k3 ⟨p0, _, rfl, i3, RepK.gl l3 _ _ (rk.merge rfl)⟩
end
end TL

end
section
set_option Elab.async false
set_option linter.all false
set_option maxRecDepth 100000
/-! Tl30: the hook of a head: own facts, the interpreter's statics among what K holds. -/
namespace TL
open PySem L2 He
abbrev AlO : Type := He.AlD × Bool
def obsO (n : Nat) (fa : List He.Fa) (fn : List He.DefD) (ex : PySem.W.Frag → Bool) (g : Addr → Option Obj) : AlO := (He.obsD fa fn (He.frG g (He5.asA g n)), ex (He.frG g (He5.asA g n)))
def valO (fn : List He.DefD) : AlO := (He.valD fn, true)
structure SaysO (fa : List He.Fa) (fn : List He.DefD) (ex : PySem.W.Frag → Bool) (K : PySem.W.Frag) : Prop where
  d : He.SaysD fa fn K
  more : ex K = true
def hookO (n : Nat) (fa : List He.Fa) (fn : List He.DefD) (ex : PySem.W.Frag → Bool) : PySem.W.Hook where
  α := AlO
  obs := fun s => obsO n fa fn ex s.heap.get?
  val := fun _ => valO fn
  says := fun _ h => ∃ K : PySem.W.Frag, K.In h ∧ SaysO fa fn ex K
  of := fun _ _ e => ⟨_, He.frG_in, ⟨congrArg (fun z : AlO => z.1) e, congrArg (fun z : AlO => z.2) e⟩⟩
  keeps := fun _ _ _ ⟨K, hK, c⟩ k => ⟨K, PySem.W.Frag.In.keeps hK k, c⟩
theorem obsO_eq {n : Nat} {fa : List He.Fa} {fn : List He.DefD} {ex : PySem.W.Frag → Bool} {g : Addr → Option Obj} {s : Shared} (h : ∀ a, g a = s.heap.get? a) : obsO n fa fn ex g = (hookO n fa fn ex).obs s := by
  have e : g = s.heap.get? := funext h
  rw [e] <;> rfl
end TL

end
section
open PySem L2
set_option maxHeartbeats 0
set_option maxRecDepth 100000
namespace TL
section
variable {T : Tab} {W : WX} {X : Cx} {k : Nat}
/-- a class with its own ==, the def f -/
structure EqiQ (T : Tab) (C f : Nat) : Prop where
  eq : PySem.W.findIn T.K (.ref (T.cls C)) "__eq__" = some (some (.ref (T.fa f)))
  ne : PySem.W.findIn T.K (.ref (T.cls C)) "__ne__" = some (some (.builtin "object.__ne__"))
  fn : PySem.W.isFn T.K (.ref (T.fa f)) = true
  ob : PySem.W.subIn T.K (.ref (T.cls C)) (.type "object") = some true
  dfl : [] ∈ T.dfl f
def oEqO (Φ : Phi) (qs : List (Nat × Nat)) (ne : Bool) (k0 : D → D → M D) : D → D → M D := fun a b => match a with
  | .ins C fs => (match b with
    | .ins C' fs' => if C = C' then (match qs.lookup C with
      | some f => fun c => (match Φ f [.ins C fs, .ins C' fs'] c.ce with
        | .ok (.v (.bl r)) ce => .ok (.bl (xor ne r)) { c with ce := ce }
        | _ => .stuck)
      | none => M.stk) else M.stk
    | _ => M.stk)
  | _ => k0 a b
theorem op_eqO {Φ : Phi} {qs : List (Nat × Nat)} {ne : Bool} {k0 : D → D → M D} (C : Ctx T W X) (F : ∀ Ci f, qs.lookup Ci = some f → EqiQ T Ci f ∧ FnG T Φ X.prog X.w X.base k f) (hr : Room (k + 1) X.A) (hp : OpOk T W X (compareOp (opB ne)) k0) :
    OpOk T W X (compareOp (opB ne)) (oEqO Φ qs ne k0) := by
  intro pins s σ H x y v u Q g c dx dy I rx ry h qx qy p
  cases dx with
  | ins Ci fs =>
    cases dy with
    | ins Cj fs' =>
      unfold oEqO at p
      simp only at p
      by_cases hC : Ci = Cj
      · subst hC
        rw [if_pos rfl] at p
        cases hq : qs.lookup Ci with
        | none => rw [hq] at p; exact p.elim
        | some f =>
          rw [hq] at p
          simp only at p
          obtain ⟨O, Fn⟩ := F Ci f hq
          cases ec : Φ f [.ins Ci fs, .ins Ci fs'] c.ce with
          | ok rv ce =>
            cases rv with
            | v d =>
              cases d with
              | bl r =>
                rw [ec] at p
                simp only at p
                have hx := (qx.rep (fun _ => by simp) : Rep T g x (.ins Ci fs))
                have hy := (qy.rep (fun _ => by simp) : Rep T g y (.ins Ci fs'))
                obtain ⟨ax, dx, vfs, ex, h0, hxi, hf⟩ := hx
                subst ex
                cases rx
                obtain ⟨mA, J, _⟩ := ins_get I.hok (h.sub _ _ hxi)
                obtain ⟨od, J, _⟩ := J.look
                obtain ⟨m, hF⟩ := I.fr
                have hb : PySem.W.Looks (model X.prog X.w) s.heap (typeOf u) (tyD T (.ins Ci fs')) := looks_ty C I h ry qy (fun _ => by simp) (fun _ => by simp) (fun _ => by simp)
                have hn : PySem.W.notFirst X.K (T.cls Ci) (tyD T (.ins Ci fs')) = true := by
                  rw [C.K]; unfold PySem.W.notFirst; simp [tyD]
                have run : ∀ A', Sub X k A' → wpAny (model X.prog X.w) A' (call (.ref (T.fa f)) [.ref ax, u]) (fun z s' => z = .bool r ∧ ∃ g' H', Inv X pins σ H' s' ∧ StpE g H g' H' ∧ Held T g' σ H' { c with ce := ce }) X.xe s := fun A' sb' =>
                  wpAny_mono (call_A sb' C Fn O.dfl I (us := [.ref ax, u]) (vs := [.ref ax, y]) (ds := [.ins Ci fs, .ins Ci fs']) (.cons rfl (.cons ry .nil)) h ⟨_, _, rfl, ⟨ax, dx, vfs, rfl, h0, hxi, hf⟩, _, _, rfl, hy, rfl⟩ ec) (fun z s' ⟨w, g', H', I', rv, rr, st, k'⟩ => by
                    have rr : w = .bl r := rr
                    subst rr
                    cases rv
                    exact ⟨rfl, g', H', I', st, k'⟩) fun _ _ z => z
                have ee : compareOp (opB ne) (.ref ax) u = richCompare (opB ne) (.ref ax) u := by cases ne <;> rfl
                rw [ee]
                cases ne with
                | false =>
                  refine PySem.W.cmp_K (op := .Eq) hr.units0 hF I.ok.mod.kin J hb hn (by rw [C.K]; exact O.eq) (by rw [C.K]; exact O.fn) (wpAny_mono (run X.A ⟨hr.mono (by omega), rfl⟩) (fun z s' ⟨e, g', H', I', st, k'⟩ => ?_) fun _ _ z => z)
                  subst e
                  exact ⟨.bl r, H', I', rfl, by have := p (.bl (xor false r)) g' H' st k' rfl; cases r <;> exact this⟩
                | true =>
                  have hu : X.A.units + 1 < cLine := by have := hr.units; omega
                  refine PySem.W.ne_own hu hF I.ok.mod.kin J hb hn (by rw [C.K]; exact O.ob) (by rw [C.K]; exact O.ne) (by rw [C.K]; exact O.eq) (by rw [C.K]; exact O.fn) (wpAny_mono (run X.A.in1 (Sub.in1 ⟨hr, rfl⟩)) (fun z s' ⟨e, g', H', I', st, k'⟩ => ?_) fun _ _ z => z)
                  subst e
                  exact ⟨r, rfl, .bl (!r), H', I', rfl, by have := p (.bl (xor true r)) g' H' st k' rfl; cases r <;> exact this⟩
              | _ => rw [ec] at p; exact p.elim
            | _ => rw [ec] at p; exact p.elim
          | _ => rw [ec] at p; exact p.elim
      · rw [if_neg hC] at p; exact p.elim
    | _ => exact p.elim
  | _ => exact hp pins s σ H x y v u Q g c _ dy I rx ry h qx qy p
end
end TL

end
section
set_option Elab.async false
set_option linter.all false
set_option maxRecDepth 100000
/-! Tl32: sorted, min, max of ints. -/
namespace TL
open PySem L2
/-! sorting of ints -/
def insI (x : Int) : List Int → List Int
  | [] => [x]
  | y :: ys => if x ≤ y then x :: y :: ys else y :: insI x ys
def srtI : List Int → List Int
  | [] => []
  | x :: xs => insI x (srtI xs)
theorem insI_perm (x : Int) : ∀ ys, (insI x ys).Perm (x :: ys)
  | [] => List.Perm.refl _
  | y :: ys => by
    unfold insI
    by_cases h : x ≤ y
    · rw [if_pos h]
    · rw [if_neg h]; exact ((insI_perm x ys).cons y).trans (List.Perm.swap x y ys)
theorem srtI_perm : ∀ xs, (srtI xs).Perm xs
  | [] => List.Perm.refl _
  | x :: xs => (insI_perm x (srtI xs)).trans ((srtI_perm xs).cons x)
theorem insI_srt (x : Int) : ∀ {ys : List Int}, ys.Pairwise (· ≤ ·) → (insI x ys).Pairwise (· ≤ ·)
  | [], _ => by simp [insI]
  | y :: ys, h => by
    unfold insI
    obtain ⟨h1, h2⟩ := List.pairwise_cons.mp h
    by_cases q : x ≤ y
    · rw [if_pos q]
      refine List.pairwise_cons.mpr ⟨fun z hz => ?_, h⟩
      rcases List.mem_cons.mp hz with rfl | hz
      · exact q
      · exact Int.le_trans q (h1 z hz)
    · rw [if_neg q]
      refine List.pairwise_cons.mpr ⟨fun z hz => ?_, insI_srt x h2⟩
      have := (insI_perm x ys).mem_iff.mp hz
      rcases List.mem_cons.mp this with rfl | hz
      · omega
      · exact h1 z hz
theorem srtI_srt : ∀ xs, (srtI xs).Pairwise (· ≤ ·)
  | [] => List.Pairwise.nil
  | x :: xs => insI_srt x (srtI_srt xs)
theorem srt_uniq : ∀ {a b : List Int}, a.Perm b → a.Pairwise (· ≤ ·) → b.Pairwise (· ≤ ·) → a = b
  | [], b, h, _, _ => by rw [List.nil_perm] at h; exact h.symm
  | x :: a, [], h, _, _ => by have := h.length_eq; simp at this
  | x :: a, y :: b, h, ha, hb => by
    obtain ⟨a1, a2⟩ := List.pairwise_cons.mp ha
    obtain ⟨b1, b2⟩ := List.pairwise_cons.mp hb
    have e : x = y := by
      have m1 : x ∈ y :: b := h.mem_iff.mp List.mem_cons_self
      have m2 : y ∈ x :: a := h.mem_iff.mpr List.mem_cons_self
      have l1 : y ≤ x := by rcases List.mem_cons.mp m1 with e | m; exact Int.le_of_eq e.symm; exact b1 x m
      have l2 : x ≤ y := by rcases List.mem_cons.mp m2 with e | m; exact Int.le_of_eq e.symm; exact a1 y m
      omega
    subst e
    rw [srt_uniq (List.Perm.cons_inv h) a2 b2]
section
variable {T : Tab} {Φ : Phi} {W : WX} {X : Cx} {k : Nat} {pos p p1 p2 apos : Pos} {g : Gh} {σ : L2.St} {H : Hp} {c : Cfg}
def sortK (d : D) : M (List D) := match d with
  | .lst xs => (match intL xs with
    | some ns => M.ret ((srtI ns).map D.int)
    | none => M.stk)
  | _ => M.stk
theorem sort_bi (C : Ctx T W X) : BiOk T W (RF T) (rSortedI X.K) sortK := by
  intro σ H Q g c x d k r p
  cases d with
  | lst xs =>
    obtain ⟨a, vs, e, h, r⟩ := r.list k
    have p : Post T (RF T) W g σ H Q ((match intL xs with
      | some ns => M.ret ((srtI ns).map D.int)
      | none => M.stk) c) := p
    cases eb : intL xs with
    | none => rw [eb] at p; exact p.elim
    | some ns =>
      rw [eb] at p
      have ev := intL_ok eb r
      subst ev
      refine ⟨a, ns, by rw [e], SqL.of h, fun ns' q hp hs nq => ?_⟩
      have e2 := srt_uniq (hp.trans (srtI_perm ns).symm) hs (srtI_srt ns)
      subst e2
      obtain ⟨x1, x2, x3⟩ := new_f k nq (reps_ints (g := g) (T := T) (srtI ns))
      exact p _ _ _ x1 x2 x3
  | _ => exact p.elim
theorem f_sorted {x : Str} {e : Expr} {m : M D} (C : Ctx T W X) (he : SndB T W X e m) (hx : x = "sorted" := by rfl) (hm : T.mg "sorted" = none) (hg : Gl X x := by rfl) (hs : starEach [e] X.env = (false, eval e X.env) :: starEach [] X.env := by rfl) : SndF T W X (.Call (.Name x p) [e] [] pos) (M.bnd m sortK) := by
  subst hx
  exact b_fn C cr_sortedI (sort_bi C) he hm (by decide +kernel) hg (hs := hs)
/-! min, max of two ints -/
def mmO (mx : Bool) : Option (List Int) → M D
  | some [i, j] => M.ret (.int (if mx then (if j > i then j else i) else (if j < i then j else i)))
  | _ => M.stk
def mmK (mx : Bool) (ds : List D) : M D := mmO mx (intL ds)
theorem s_min2 {e1 e2 : Expr} {ma : M (List D)} (C : Ctx T W X) (ha : SndA T W X [e1, e2] ma) (hm : T.mg "min" = none) (hg : Gl X "min" := by rfl) (hs : starEach [e1, e2] X.env = (false, eval e1 X.env) :: starEach [e2] X.env := by rfl) (hpl : (backTo pos (starEach [e2] X.env)).any (·.1) = false := by rfl) :
    SndE T W X (.Call (.Name "min" p) [e1, e2] [] pos) (M.bnd ma (mmK false)) :=
  PE.imp (pe_callB (call_min2 C.calm) hg (by rw [C.mg]; exact hm) (by decide +kernel) ha (by decide) (by decide) hs hpl) fun σ H Q ⟨g, c, k, p⟩ => ⟨g, c, k, p.bnd.imp fun vs H1 ⟨ds, g1, c1, s1, k1, r1, p1⟩ => by
    unfold mmK at p1
    cases e : intL ds with
    | none => rw [e] at p1; exact p1.elim
    | some l =>
      rw [e] at p1
      match l, e with
      | [i, j], e =>
        have ev := intL_ok e r1
        subst ev
        exact ⟨i, j, rfl, Post.here (R := RV1 T) (d := .int (if j < i then j else i)) k1 rfl p1⟩
      | [], _ => exact p1.elim
      | [_], _ => exact p1.elim
      | _ :: _ :: _ :: _, _ => exact p1.elim⟩
theorem s_max2 {e1 e2 : Expr} {ma : M (List D)} (C : Ctx T W X) (ha : SndA T W X [e1, e2] ma) (hm : T.mg "max" = none) (hg : Gl X "max" := by rfl) (hs : starEach [e1, e2] X.env = (false, eval e1 X.env) :: starEach [e2] X.env := by rfl) (hpl : (backTo pos (starEach [e2] X.env)).any (·.1) = false := by rfl) :
    SndE T W X (.Call (.Name "max" p) [e1, e2] [] pos) (M.bnd ma (mmK true)) :=
  PE.imp (pe_callB (call_max2 C.calm) hg (by rw [C.mg]; exact hm) (by decide +kernel) ha (by decide) (by decide) hs hpl) fun σ H Q ⟨g, c, k, p⟩ => ⟨g, c, k, p.bnd.imp fun vs H1 ⟨ds, g1, c1, s1, k1, r1, p1⟩ => by
    unfold mmK at p1
    cases e : intL ds with
    | none => rw [e] at p1; exact p1.elim
    | some l =>
      rw [e] at p1
      match l, e with
      | [i, j], e =>
        have ev := intL_ok e r1
        subst ev
        exact ⟨i, j, rfl, Post.here (R := RV1 T) (d := .int (if j > i then j else i)) k1 rfl p1⟩
      | [], _ => exact p1.elim
      | [_], _ => exact p1.elim
      | _ :: _ :: _ :: _, _ => exact p1.elim⟩
end
end TL

end
section
set_option Elab.async false
set_option linter.all false
set_option maxRecDepth 100000
set_option maxHeartbeats 0
/-! Tl33: texts: str(x), f-strings, methods of texts; a def that tells whole numbers, called in a clause. -/
namespace TL
open PySem L2
section
variable {T : Tab} {Φ : Phi} {W : WX} {X : Cx} {k : Nat} {pos p p1 p2 apos : Pos} {g : Gh} {σ : L2.St} {H : Hp} {c : Cfg}
/-- a Ratio's own __str__ -/
structure StrQ (T : Tab) (f : Nat) : Prop where
  at_ : PySem.W.findIn T.K (.ref (T.cls 0)) "__str__" = some (some (.ref (T.fa f)))
  fn : PySem.W.isFn T.K (.ref (T.fa f)) = true
  dfl : [] ∈ T.dfl f
def strBk (c : Cfg) : FOut → Out D
  | .ok (.v (.str z)) ce => .ok (.str z) { c with ce := ce }
  | _ => .stuck
def strO (Φ : Phi) (f : Nat) (d : D) : M D := match d with
  | .int i => if i.natAbs.log2 < 1920 then M.ret (.str (toString i)) else M.stk
  | .rat a => fun c => strBk c (Φ f [.rat a] c.ce)
  | _ => M.stk
theorem s_strO {x : Str} {f : Nat} {e : Expr} {m : M D} (C : Ctx T W X) (O : StrQ T f) (F : FnG T Φ X.prog X.w X.base k f) (hr : Room (k + 2) X.A) (he : SndE T W X e m) (hx : x = "str" := by rfl) (hm : T.mg "str" = none) (hg : Gl X x := by rfl)
    (hs : starEach [e] X.env = (false, eval e X.env) :: starEach [] X.env := by rfl) (hpl : (backTo pos (starEach [] X.env)).any (·.1) = false := by rfl) : SndE T W X (.Call (.Name x p) [e] [] pos) (M.bnd m (strO Φ f)) := by
  subst hx
  refine ⟨fun pins s σ H Q I ⟨g, c, h, q⟩ => ?_⟩
  refine wpAny_Call_Name_kw (ld_blt I hg (by rw [C.mg]; exact hm) (show bootBuiltins "str" = some (.type "str") by decide +kernel) ?_ (by decide) (by decide))
  refine PyProof.Rows.callWith_type1 (thn ((pa_cons he pa_nil hs).run pos pins s σ H (fun vs H1 => ∃ x, vs = [x] ∧ ∃ d g1 c1, StpE g H g1 H1 ∧ Held T g1 σ H1 c1 ∧ Rep T g1 x d ∧ Post T (RV1 T) W g1 σ H1 Q (strO Φ f d c1)) I ⟨g, c, h, q.bnd.imp fun x H1 z => ⟨x, rfl, z⟩⟩) fun us s1 ⟨vs, H1, I1, r1, q1⟩ => ?_) hs hpl
  obtain ⟨x, ex, d, g1, c1, st1, k1, rx, p1⟩ := q1
  subst ex
  cases d with
  | int i =>
    have rx : x = .int i := rx
    subst rx
    have p1 : Post T (RV1 T) W g1 σ H1 Q ((if i.natAbs.log2 < 1920 then M.ret (D.str (toString i)) else M.stk) c1) := p1
    by_cases hz : i.natAbs.log2 < 1920
    · rw [if_pos hz] at p1
      exact call_str_int pins s1 σ H1 _ us Q I1 r1 ⟨i, rfl, hz, Post.here (R := RV1 T) (d := .str (toString i)) k1 rfl p1⟩
    · rw [if_neg hz] at p1; exact p1.elim
  | rat a =>
    have p1 : Post T (RV1 T) W g1 σ H1 Q (strBk c1 (Φ f [.rat a] c1.ce)) := p1
    obtain ⟨ax, dx, ex, hx⟩ := rx
    subst ex
    obtain ⟨u, eu, ru⟩ := vals1 r1
    subst eu
    cases ru
    obtain ⟨mA, J, _⟩ := ins_get I1.hok (k1.sub _ _ hx)
    obtain ⟨od, J, _⟩ := J.look
    cases ec : Φ f [.rat a] c1.ce with
    | ok rv ce =>
      cases rv with
      | v d =>
        cases d with
        | str z =>
          rw [ec] at p1
          have p1 : Post T (RV1 T) W g1 σ H1 Q (.ok (D.str z) { c1 with ce := ce }) := p1
          have sb : Sub X k X.A.in1.in1 := Sub.in1 (Sub.in1 ⟨hr, rfl⟩)
          refine PySem.W.kso_call sb.room.units0 I1.kIn J (by rw [C.K]; exact O.at_) (by rw [C.K]; exact O.fn)
            (wpAny_mono (call_A sb C F O.dfl I1 (us := [.ref ax]) (vs := [.ref ax]) (ds := [.rat a]) (.cons rfl .nil) k1 ⟨_, _, rfl, ⟨ax, dx, rfl, hx⟩, rfl⟩ ec) (fun u s' ⟨v, g', H', I', rv, rr, st, k'⟩ => ?_) fun _ _ z => z)
          have rr : v = .str z := rr
          subst rr
          obtain ⟨t, et⟩ := rv
          subst et
          exact ⟨.str z, H', I', ⟨t, rfl⟩, p1 (.str z) g' H' st k' rfl⟩
        | _ => rw [ec] at p1; exact p1.elim
      | _ => rw [ec] at p1; exact p1.elim
    | _ => rw [ec] at p1; exact p1.elim
  | _ => exact p1.elim
/-! f-strings -/
def fmtK (d : D) : M D := match d with
  | .int i => if i.natAbs.log2 < 1920 then M.ret (.str (toString i)) else M.stk
  | .str z => if sizeOk z.length then M.ret (.str z) else M.stk
  | _ => M.stk
theorem s_fmt {e : Expr} {m : M D} (he : SndE T W X e m) : SndE T W X (.FormattedValue e (-1) none pos) (M.bnd m fmtK) :=
  PE.imp (pe_fmt he) fun σ H Q ⟨g, c, k, p⟩ => ⟨g, c, k, p.bnd.imp fun x H1 ⟨d, g1, c1, s1, k1, r1, p1⟩ => by
    cases d with
    | int i =>
      have p1 : Post T (RV1 T) W g1 σ H1 Q ((if i.natAbs.log2 < 1920 then M.ret (D.str (toString i)) else M.stk) c1) := p1
      by_cases hz : i.natAbs.log2 < 1920
      · rw [if_pos hz] at p1
        exact .inr ⟨i, r1, hz, Post.here (R := RV1 T) (d := .str (toString i)) k1 rfl p1⟩
      · rw [if_neg hz] at p1; exact p1.elim
    | str z =>
      have p1 : Post T (RV1 T) W g1 σ H1 Q ((if sizeOk z.length then M.ret (D.str z) else M.stk) c1) := p1
      by_cases hz : sizeOk z.length = true
      · rw [if_pos hz] at p1
        exact .inl ⟨z, r1, line_of hz, Post.here (R := RV1 T) (d := .str z) k1 rfl p1⟩
      · rw [if_neg hz] at p1; exact p1.elim
    | _ => exact p1.elim⟩
def fsK (r : Str → M D) (acc : Str) (d : D) : M D := match d with
  | .str y => if sizeOk (acc ++ y).length then r (acc ++ y) else M.stk
  | _ => M.stk
def eFs : List (M D) → Str → M D
  | [], acc => M.ret (.str acc)
  | m :: ms, acc => M.bnd m (fsK (eFs ms) acc)
inductive FsJ (T : Tab) (W : WX) (X : Cx) : List Expr → List (M D) → Prop
  | nil : FsJ T W X [] []
  | cons {e : Expr} {m : M D} {es : List Expr} {ms : List (M D)} (h : SndE T W X e m) (r : FsJ T W X es ms) : FsJ T W X (e :: es) (m :: ms)
theorem fs_run {es : List Expr} {ms : List (M D)} (h : FsJ T W X es ms) : PJ X es (ms.map (rd T (RV1 T) W)) := by
  induction h with
  | nil => exact .nil
  | cons h r ih => exact .cons h ih
theorem fs_js {Q : VK} : ∀ (ms : List (M D)) (acc : Str) (g : Gh) (H : Hp) (c : Cfg), Held T g σ H c → Post T (RV1 T) W g σ H Q (eFs ms acc c) → tJs (ms.map (rd T (RV1 T) W)) acc σ H fun out H1 => Q (.str out) H1
  | [], acc, g, H, c, k, p => Post.here (R := RV1 T) (d := .str acc) k rfl p
  | m :: ms, acc, g, H, c, k, p => by
    have p : Post T (RV1 T) W g σ H Q (M.bnd m (fsK (eFs ms) acc) c) := p
    refine ⟨g, c, k, p.bnd.imp fun x H1 ⟨d, g1, c1, s1, k1, r1, p1⟩ => ?_⟩
    cases d with
    | str y =>
      have p1 : Post T (RV1 T) W g1 σ H1 Q ((if sizeOk (acc ++ y).length then eFs ms (acc ++ y) else M.stk) c1) := p1
      by_cases hz : sizeOk (acc ++ y).length = true
      · rw [if_pos hz] at p1
        exact ⟨y, r1, line_of hz, fs_js ms (acc ++ y) g1 H1 c1 k1 p1⟩
      · rw [if_neg hz] at p1; exact p1.elim
    | _ => exact p1.elim
theorem s_fs {v1 v2 : Expr} {rest : List Expr} {ms : List (M D)} (h : FsJ T W X (v1 :: v2 :: rest) ms) : SndE T W X (.JoinedStr (v1 :: v2 :: rest) pos) (eFs ms Str.empty) :=
  PE.imp (pe_joined (fs_run h)) fun σ H Q ⟨g, c, k, p⟩ => fs_js ms Str.empty g H c k p
/-! methods of texts -/
def MthOk (T : Tab) (W : WX) (ty : String) (K : PySem.W.Frag) (r : V → List V → Hp → VK → Prop) (f : D → List D → M D) (is : D → Bool) : Prop :=
  (∀ (g : Gh) (σ : L2.St) (H : Hp) (c : Cfg) (x : V) (d : D), Held T g σ H c → RepB T g H x d → is d = true → tyV K ty x H) ∧
  ∀ (g : Gh) (σ : L2.St) (H : Hp) (Q : VK) (c : Cfg) (x : V) (d : D) (us : List V) (ds : List D), Held T g σ H c → RepB T g H x d → Reps T g us ds → Post T (RV1 T) W g σ H Q (f d ds c) → r x us H Q
def eMth (is : D → Bool) (f : D → List D → M D) (mo : M D) (ma : M (List D)) : M D := M.bnd mo fun d => if is d then M.bnd ma fun ds => f d ds else M.stk
theorem s_mth {Ty id : String} {nm : Str} {r : V → List V → Hp → VK → Prop} {f : D → List D → M D} {is : D → Bool} {o e : Expr} {es : List Expr} {mo : M D} {ma : M (List D)} (pa : PlainAttrs Ty) (slot : Slot Ty nm id) (hty : typeOf (.builtin id) = pure (.type "method_descriptor")) (hm : MtR X id r) (hf : MthOk T W Ty X.K r f is)
    (ho : SndE T W X o mo) (ha : SndA T W X (e :: es) ma) (hbase : attributeBase o nm X.env (eval o X.env) = eval o X.env := by rfl)
    (hfew : ((backTo p2 (starEach (e :: es) X.env)).all (fun x => !x.1) && (backToKw p2 (keywordEach [] X.env)).all (fun x => x.1.isSome)
      && decide ((e :: es).length + ([] : List Keyword).length + (if ([] : List Keyword).isEmpty then 0 else 1) < 30)) = true := by rfl)
    (hline : (apos.endLine == p2.line) = true := by rfl) (hs : starEach (e :: es) X.env = (false, eval e X.env) :: starEach es X.env := by rfl) (hplain : (backTo p2 (starEach es X.env)).any (·.1) = false := by rfl) :
    SndE T W X (.Call (.Attribute o nm apos) (e :: es) [] p2) (eMth is f mo ma) :=
  PE.imp (pe_bm pa slot hty hm ho ha hbase hfew hline hs hplain) fun σ H Q ⟨g, c, k, p⟩ => ⟨g, c, k, p.bnd.imp fun x H1 ⟨d, g1, c1, s1, k1, r1, p1⟩ => by
    by_cases z : is d = true
    · rw [if_pos z] at p1
      refine ⟨hf.1 g1 σ H1 c1 x d k1 (.inl r1) z, g1, c1, k1, p1.bnd.imp fun us H2 ⟨ds, g2, c2, s2, k2, r2, p2⟩ => ?_⟩
      exact hf.2 g2 σ H2 Q c2 x d us ds k2 (.inl (Rep.mono s2.le _ _ r1)) r2 p2
    · rw [if_neg z] at p1; exact p1.elim⟩
def isStr : D → Bool
  | .str _ => true
  | _ => false
theorem ty_str {g : Gh} {H : Hp} {x : V} {d : D} {K : PySem.W.Frag} (r : RepB T g H x d) (h : isStr d = true) : tyV K "str" x H := by
  cases d with
  | str z => have e := r.str; subst e; exact rfl
  | _ => cases h
def rpK (d : D) (ds : List D) : M D := match d, ds with
  | .str a, [.str b] => if sizeOk a.length then M.ret (.str (Txt.removeprefix a b)) else M.stk
  | _, _ => M.stk
def swK (d : D) (ds : List D) : M D := match d, ds with
  | .str a, [.str b] => M.ret (.bl (Txt.startswith a b))
  | _, _ => M.stk
def ptK (d : D) (ds : List D) : M D := match d, ds with
  | .str a, [.str b] => if (!(b.length == 0)) && sizeOk a.length then M.ret (.tup [.str (Txt.partition a b).1, .str (Txt.partition a b).2.1, .str (Txt.partition a b).2.2]) else M.stk
  | _, _ => M.stk
theorem mth_rp {K : PySem.W.Frag} : MthOk T W "str" K (fun x xs H Q => ∃ a b, x = .str a ∧ xs = [.str b] ∧ a.length ≤ sizeLine ∧ Q (.str (Txt.removeprefix a b)) H) rpK isStr := by
  refine ⟨fun g σ H c x d k r h => ty_str r h, fun g σ H Q c x d us ds k r ru p => ?_⟩
  unfold rpK at p
  split at p
  · rename_i a b
    obtain ⟨v, vr, e1, r1, e2⟩ := ru
    have r1 : v = .str b := r1
    have e2 : vr = [] := e2
    by_cases hz : sizeOk a.length = true
    · rw [if_pos hz] at p
      exact ⟨a, b, r.str, by rw [e1, r1, e2], line_of hz, Post.here (R := RV1 T) (d := .str (Txt.removeprefix a b)) k rfl p⟩
    · rw [if_neg hz] at p; exact p.elim
  · exact p.elim
theorem mth_sw {K : PySem.W.Frag} : MthOk T W "str" K (fun x xs H Q => ∃ a b, x = .str a ∧ xs = [.str b] ∧ Q (.bl (Txt.startswith a b)) H) swK isStr := by
  refine ⟨fun g σ H c x d k r h => ty_str r h, fun g σ H Q c x d us ds k r ru p => ?_⟩
  unfold swK at p
  split at p
  · rename_i a b
    obtain ⟨v, vr, e1, r1, e2⟩ := ru
    have r1 : v = .str b := r1
    have e2 : vr = [] := e2
    exact ⟨a, b, r.str, by rw [e1, r1, e2], Post.here (R := RV1 T) (d := .bl (Txt.startswith a b)) k rfl p⟩
  · exact p.elim
theorem mth_pt {K : PySem.W.Frag} : MthOk T W "str" K (fun x xs H Q => ∃ a b, x = .str a ∧ xs = [.str b] ∧ (b.length == 0) = false ∧ a.length ≤ sizeLine ∧
    ∀ p, H p = none → Q (.ref p) (upd H p (.tup [.str (Txt.partition a b).1, .str (Txt.partition a b).2.1, .str (Txt.partition a b).2.2]))) ptK isStr := by
  refine ⟨fun g σ H c x d k r h => ty_str r h, fun g σ H Q c x d us ds k r ru p => ?_⟩
  unfold ptK at p
  split at p
  · rename_i a b
    obtain ⟨v, vr, e1, r1, e2⟩ := ru
    have r1 : v = .str b := r1
    have e2 : vr = [] := e2
    by_cases hz : ((!(b.length == 0)) && sizeOk a.length) = true
    · rw [if_pos hz] at p
      obtain ⟨z1, z2⟩ := Bool.and_eq_true_iff.mp hz
      refine ⟨a, b, r.str, by rw [e1, r1, e2], by simpa using z1, line_of z2, fun q n => ?_⟩
      obtain ⟨x1, x2, x3⟩ := new_tup k n (show Reps T g [.str (Txt.partition a b).1, .str (Txt.partition a b).2.1, .str (Txt.partition a b).2.2] [.str (Txt.partition a b).1, .str (Txt.partition a b).2.1, .str (Txt.partition a b).2.2] from ⟨_, _, rfl, rfl, _, _, rfl, rfl, _, _, rfl, rfl, rfl⟩)
      exact p _ _ _ x1 x2 x3
    · rw [if_neg hz] at p; exact p.elim
  · exact p.elim
end
end TL

end
section
set_option Elab.async false
set_option linter.all false
set_option maxRecDepth 100000
set_option maxHeartbeats 0
/-! Tl34: a def that tells whole numbers, called in a clause: return ('text', f(err.at)). -/
namespace TL
open PySem L2 PyProof.Rows L2H
/-- what the def numbered f promises of an int, wherever it is called -/
structure FnW (T : Tab) (P : Program) (w : World) (base : Heap) (f : Nat) : Prop where
  ok : ∃ (fd : FuncData) (ps : List Str), ps.length = 1 ∧ Binds T.K fd ps [] ∧ ∀ (A : Around) (outer : List Env) (s : Shared) (H : Hp) (args : Args) (us : List Value) (i : Int) (Q : VK) (p : Addr × Obj), RoomH 1 A → PinOk outer H s p → Env0 P w T.K T.mg base A outer s H → BindsTo s fd args (ps.zip us) → Vals [.int i] us → Q (.bl true) H →
    codeAny (model P w) A (.call (.ref (T.fa f)) args) (CR (fun _ _ _ _ _ _ => False) outer P w H s Q (fun _ _ _ => False)) s
  kp : PySem.W.keepIn T.K (.ref (T.fa f)) = true
section
variable {T : Tab} {P : Program} {w : World} {base : Heap} {f : Nat}
theorem fn_W {v name qual : Str} {params : Arguments} {scope : Scope} {fd : FuncData} {q1 q2 q3 q4 q5 q6 q7 q8 q9 q10 q11 : Pos}
    (F : FunD T.K name qual params [.Return (some (.BoolOp .And [.Call (.Name "isinstance" q1) [.Name v q2, .Name "int" q3] [] q4, .UnaryOp .Not (.Call (.Name "isinstance" q5) [.Name v q6, .Name "bool" q7] [] q8) q9] q10)) q11] scope [] [] (T.fa f) fd)
    (S : FnScope [v] [v] scope) (hb : Binds T.K fd [v] []) (h1 : T.mg "isinstance" = none) (h2 : T.mg "int" = none) (h3 : T.mg "bool" = none)
    (g1 : scope.names.lookup ("isinstance" : Str) = some .globalImplicit) (g2 : scope.names.lookup ("int" : Str) = some .globalImplicit) (g3 : scope.names.lookup ("bool" : Str) = some .globalImplicit) (gv : scope.names.lookup v = some .local)
    (hd : (v == ("__debug__" : Str)) = false := by decide) (hcd : (v == ("__classdict__" : Str)) = false := by decide) : FnW T P w base f := by
  have kp := F.kp
  obtain ⟨oc, od, dV, kV, doc, pm, an, cdv, ct, osl, rfl, lk, hcd', _, _⟩ := F.ex
  refine ⟨⟨_, [v], rfl, hb, fun A outer s H args us i Q p hr hpin e0 hbi r hq => ?_⟩, kp⟩
  have KX : T.K.In s.heap := e0.mod.kin.keeps fun b o e => (e0.bs b o e).1
  have lim : s.heap.NoLimit := e0.mod.nolimit.keeps fun b o e => (e0.bs b o e).1
  have hkind : ∀ y ∈ [v].zip us, scope.names.lookup y.1 = some .local ∨ (scope.names.lookup y.1 = some .cell ∧ ((cellsFrom (s.heap.objs.size + 1) scope.names []).lookup y.1).isSome = true) := fun ⟨n, u⟩ hy => by
    have e := (List.of_mem_zip hy).1
    have e : n = v := by simpa using e
    subst e
    exact .inl gv
  refine codeAny_call_function hr.depth (KX _ _ lk) rfl S.co S.gen rfl (PySem.W.codeRec_of KX hcd') (hbi _ _ _ _ ?_)
  refine wpAny_newFunctionEnv_cells S.kind hkind fun env he s1 x => ?_
  subst he
  refine ⟨lim.keeps x.toInCall.keep, codeAny_func ?_⟩
  have I : Inv (cxH (fun _ _ _ _ _ _ => False) P w T.K T.mg base [v] qual scope (T.fa f) cdv A outer s H (fun _ _ _ => False) p) [] (L2.start [v] [.int i]) H s1 := inv_startH S hpin e0 rfl r x
  have X0 : (cxH (fun _ _ _ _ _ _ => False) P w T.K T.mg base [v] qual scope (T.fa f) cdv A outer s H (fun _ _ _ => False) p).K = T.K := rfl
  have pI : ∀ {pos : Pos}, PE (cxH (fun _ _ _ _ _ _ => False) P w T.K T.mg base [v] qual scope (T.fa f) cdv A outer s H (fun _ _ _ => False) p) (.Name v pos) (tVar 0) := fun {pos} => pv 0 rfl (.inl gv) hd hcd
  have t1 : PE (cxH (fun _ _ _ _ _ _ => False) P w T.K T.mg base [v] qual scope (T.fa f) cdv A outer s H (fun _ _ _ => False) p) (.Name "int" q3) (tC (.ty "int")) := pe_bltn g2 h2 (show bootBuiltins "int" = some (.type "int") by decide +kernel) rfl
  have t2 : PE (cxH (fun _ _ _ _ _ _ => False) P w T.K T.mg base [v] qual scope (T.fa f) cdv A outer s H (fun _ _ _ => False) p) (.Name "bool" q7) (tC (.ty "bool")) := pe_bltn g3 h3 (show bootBuiltins "bool" = some (.type "bool") by decide +kernel) rfl
  have c1 := pe_callB (X := cxH (fun _ _ _ _ _ _ => False) P w T.K T.mg base [v] qual scope (T.fa f) cdv A outer s H (fun _ _ _ => False) p) (p := q1) (pos := q4) call_isi g1 h1 (show bootBuiltins "isinstance" = some (.builtin "isinstance") by decide +kernel) (pa_cons (pI (pos := q2)) (pa_cons t1 pa_nil))
  have c2 := pe_callB (X := cxH (fun _ _ _ _ _ _ => False) P w T.K T.mg base [v] qual scope (T.fa f) cdv A outer s H (fun _ _ _ => False) p) (p := q5) (pos := q8) call_isi g1 h1 (show bootBuiltins "isinstance" = some (.builtin "isinstance") by decide +kernel) (pa_cons (pI (pos := q6)) (pa_cons t2 pa_nil))
  have ht := pss_one (ps_ret (pos := q11) (pe_and (pos := q10) c1 (pe_one (pe_not (pos := q9) c2))))
  refine wpAny_mono (ht.run [] s1 (L2.start [v] [.int i]) H { nx := fun _ H' => Q .non H', rt := Q } I ?_) (fun fl s' hs => ?_) fun e s' hs => hs
  · refine ⟨.int i, rfl, .int i, .ty "int", .type "int", .type "int", true, rfl, .ty "int", .base (.int i), kit_ty (by decide +kernel), true, rfl, ?_⟩
    rw [if_pos rfl]
    exact ⟨.int i, rfl, .int i, .ty "bool", .type "int", .type "bool", false, rfl, .ty "bool", .base (.int i), kit_ty (by decide +kernel), false, rfl, hq⟩
  · have fin : ∀ {σ' : L2.St} {H' : Hp} {z : V} {u : Value}, Inv (cxH (fun _ _ _ _ _ _ => False) P w T.K T.mg base [v] qual scope (T.fa f) cdv A outer s H (fun _ _ _ => False) p) [] σ' H' s' → RelV z u → Q z H' → CE outer P w H s Q u s' :=
      fun {σ' H' z u} J rv q => ⟨z, H', J.os, J.bare, J.base, J.hok, rv, q⟩
    cases fl with
    | ret u =>
      obtain ⟨z, σ', H', J, rv, q⟩ := hs
      exact fin J rv q
    | next =>
      obtain ⟨σ', H', J, q⟩ := hs
      exact fin (z := V.non) (u := Value.none) J rfl q
    | brk =>
      obtain ⟨_, _, _, q⟩ := hs
      exact False.elim q
    | cont =>
      obtain ⟨_, _, _, q⟩ := hs
      exact False.elim q
end
section
variable {T : Tab} {X : Cx} {f : Nat}
/-- the call in a clause -/
theorem run_fnW {a : Addr} {oe : Obj} {pn pins : List (Addr × Obj)} {σ : L2.St} {H : Hp} {s : Shared} {Q : VK} {us : List Value} {i : Int} (F : FnW T X.prog X.w X.base f) (hK : X.K = T.K) (hM : X.mg = T.mg) (hr : RoomH 1 X.A)
    (I : Inv (X.suite a ((a, oe) :: pn)) pins σ H s) (r : Vals [.int i] us) (h : Q (.bl true) H) : wpAny (model X.prog X.w) (X.suite a ((a, oe) :: pn)).A (call (.ref (T.fa f)) us) (EP (X.suite a ((a, oe) :: pn)) pins σ Q) (X.suite a ((a, oe) :: pn)).xe s := by
  obtain ⟨⟨fd, ps, hl, hb, run⟩, kp⟩ := F
  have hl2 : us.length = ps.length := by rw [← r.length, hl]; rfl
  have b := hb s us (by rw [← hK]; exact I.kIn) (by rw [List.append_nil]; exact hl2)
  rw [List.append_nil] at b
  have P1 := I.pin (a, oe) (List.mem_append_left _ List.mem_cons_self)
  have hpin : PinOk X.stack H s (a, oe) := ⟨P1.1, P1.2.1, fun hm => (List.mem_cons.mp (I.stkSub a hm)).elim P1.2.2.1 P1.2.2.2.1, P1.2.2.2.2⟩
  have e0 : Env0 X.prog X.w T.K T.mg X.base (X.suite a ((a, oe) :: pn)).A X.stack s H := by
    have e := I.env0
    rw [← hK, ← hM]
    exact e
  refine wpAny_call (codeAny_mono (run (X.suite a ((a, oe) :: pn)).A X.stack s H ⟨us, []⟩ us i Q (a, oe) ⟨hr.dp, hr.un⟩ hpin e0 b r h) fun r s' hq => ?_)
  cases r with
  | error e => exact False.elim hq
  | ok fl =>
    cases fl with
    | ret u => exact I.after hq
    | next => exact False.elim hq
    | brk => exact False.elim hq
    | cont => exact False.elim hq
def fldW (Ci fl : Nat) (i : Nat) (x : Exc) (c : Cfg) : Bool := match fldX Ci fl i x c with
  | some (.int _) => true
  | _ => false
/-- return ('text', f(err.at)) -/
theorem h_pairW {Ci fl i : Nat} {n fx fn s : Str} {j jt : Nat} {pt pp pa pn' pr pf pc : Pos} (F : FnW T X.prog X.w X.base f) (hr : RoomH 1 X.A) (hM : X.mg = T.mg) (hm : T.mg fn = some (.ref (T.fa f))) (Xf : XfC T.K (T.cls Ci)) (hno : PySem.W.findIn T.K (.ref (T.cls Ci)) fx = some none) (hf : T.nm fl = fx) (hK : X.K = T.K) (hN : X.N[i]? = some n := by rfl) (hv : Vis X.env.scope n := by first | exact Or.inl rfl | exact Or.inr (Or.inl rfl) | exact Or.inr (Or.inr rfl)) (hd : (n == ("__debug__" : Str)) = false := by decide)
    (hcd : (n == ("__classdict__" : Str)) = false := by decide) (hg : Gl X fn := by rfl) (hdb : (fn == ("__debug__" : Str)) = false := by decide) (hb : attributeBase (.Name n pn') fx X.env (eval (.Name n pn') X.env) = eval (.Name n pn') X.env := by rfl)
    (hs0 : starEach [.Attribute (.Name n pn') fx pa] X.env = (false, eval (.Attribute (.Name n pn') fx pa) X.env) :: starEach [] X.env := by rfl) (hpl : (backTo pc (starEach [] X.env)).any (·.1) = false := by rfl)
    (hs1 : starEach [.Constant (.str s) j pt, .Call (.Name fn pf) [.Attribute (.Name n pn') fx pa] [] pc] X.env = (false, eval (.Constant (.str s) j pt) X.env) :: starEach [.Call (.Name fn pf) [.Attribute (.Name n pn') fx pa] [] pc] X.env := by rfl)
    (hs2 : starEach [.Call (.Name fn pf) [.Attribute (.Name n pn') fx pa] [] pc] X.env = (false, eval (.Call (.Name fn pf) [.Attribute (.Name n pn') fx pa] [] pc) X.env) :: starEach [] X.env := by rfl) :
    SndH T X (some i) [.Return (some (.Tuple [.Constant (.str s) j pt, .Call (.Name fn pf) [.Attribute (.Name n pn') fx pa] [] pc] jt pp)) pr] (fun x c => if fldW Ci fl i x c then .ok (.rt (.v (.tup [.str s, .bl true]))) c else .stuck) := by
  subst hf
  intro a oe cls d pn hz hfi
  have e2 := pe_xf (X := X) (a := a) (pn := pn) (pos := pa) (by rw [hK]; exact Xf) (by rw [hK]; exact hno) hz hfi (pv i hN hv hd hcd) hb
  have e3 : PE (X.suite a ((a, oe) :: pn)) (.Call (.Name fn pf) [.Attribute (.Name n pn') (T.nm fl) pa] [] pc) (fun σ H Q => tXf a cls d (T.cls Ci) (T.nm fl) (tVar i) σ H fun v H1 => (∃ z : Int, v = .int z) ∧ Q (.bl true) H1) := by
    refine ⟨fun pins s σ H Q I h => ?_⟩
    refine wpAny_Call_Name_kw (ld_glob (X := X.suite a ((a, oe) :: pn)) I hg (show X.mg fn = some (.ref (T.fa f)) by rw [hM]; exact hm) ?_ hdb)
    refine PySem.W.callWith_K (h₀ := X.base) I.ok.mod.kin (by show PySem.W.keepIn X.K _ = true; rw [hK]; exact F.kp) (thn ((pa_cons e2 pa_nil hs0).run pc pins s σ H (fun vs H1 => ∃ v, vs = [v] ∧ (∃ z : Int, v = .int z) ∧ Q (.bl true) H1) I ?_) fun us s1 ⟨vs, H1, I1, r, v, ev, ⟨z, ez⟩, q1⟩ => ⟨I1.kIn, ?_⟩) hs0 hpl
    · obtain ⟨v, e1, x, e4, dd, fs, v', b1, b2, b3, b4⟩ := h
      exact ⟨v, e1, x, e4, dd, fs, v', b1, b2, b3, v', rfl, b4⟩
    · subst ev ez
      exact run_fnW (X := X) (a := a) (oe := oe) (pn := pn) F hK hM hr I1 r q1
  refine PSs.imp (pss_one (ps_ret (pe_tup (pa_cons pe_str (pa_cons e3 pa_nil hs2) hs1)))) fun E σ H ⟨g, c, x, k, r, hsl, p⟩ => ?_
  dsimp only at p
  by_cases q0 : fldW Ci fl i x c = true
  · rw [if_pos q0] at p
    unfold fldW fldX at q0
    by_cases q : x.C = Ci ∧ i < c.sl.length
    · rw [if_pos q] at q0
      obtain ⟨q1, q2⟩ := q
      subst q1
      cases e : x.fs.lookup fl with
      | none => rw [e] at q0; cases q0
      | some dv =>
        rw [e] at q0
        cases dv with
        | int z =>
          obtain ⟨r1, r2⟩ := r
          have sv := hsl i rfl (Nat.lt_of_lt_of_le q2 k.ln)
          rcases r2 with r2 | ⟨dd, vfs, ed, hd, rf, nb⟩
          · rw [r2] at e; cases e
          · obtain ⟨v, lv, rv⟩ := repF_at (vfs := []) rf e
            refine ⟨.ref a, sv, rfl, r1, dd, vfs, v, ed, hd, lv, ⟨z, rv⟩, by show 2 ≤ sizeLine; decide, fun t nt => ?_⟩
            obtain ⟨x1, x2, x3⟩ := new_tup k nt (show Reps T g [.str s, .bl true] [.str s, .bl true] from ⟨.str s, [.bl true], rfl, rfl, .bl true, [], rfl, rfl, rfl⟩)
            exact p _ σ _ _ x1.toStp x2 x3
        | _ => cases q0
    · rw [if_neg q] at q0; cases q0
  · rw [if_neg q0] at p; exact p.elim
end
end TL

end
section
set_option Elab.async false
set_option linter.all false
set_option maxRecDepth 100000
set_option exponentiation.threshold 10000
/-! Pl0: sizes of ratios; Euclid. -/
namespace Pl
open TL
/-! ### weights -/
def LB : Nat := 27720
/-- q is a / LB^b, a of at most 30 b binary digits -/
def Wt (b : Nat) (q : Rat) : Prop := ∃ a : Int, q * (27720 : Rat) ^ b = (a : Rat) ∧ a.natAbs ≤ 2 ^ (30 * b)
def Sm (q : Rat) : Prop := q.num.natAbs < 2 ^ 4000 ∧ q.den < 2 ^ 4000
theorem Wt.mul {b c : Nat} {p q : Rat} (hp : Wt b p) (hq : Wt c q) : Wt (b + c) (p * q) := by
  obtain ⟨x, e, h⟩ := hp
  obtain ⟨y, f, k⟩ := hq
  refine ⟨x * y, ?_, ?_⟩
  · rw [Rat.intCast_mul, ← e, ← f, show (27720 : Rat) ^ (b + c) = 27720 ^ b * 27720 ^ c from Lean.Grind.Semiring.pow_add ..]; grind
  · rw [Int.natAbs_mul, Nat.mul_add, Nat.pow_add]
    exact Nat.mul_le_mul h k
theorem Wt.neg {b : Nat} {p : Rat} (hp : Wt b p) : Wt b (-p) := by
  obtain ⟨x, e, h⟩ := hp
  refine ⟨-x, ?_, by rw [Int.natAbs_neg]; exact h⟩
  rw [Rat.intCast_neg, ← e]; grind
/-- up by one: 15 digits are left -/
theorem Wt.up1 {b : Nat} {p : Rat} {a : Int} (e : p * (27720 : Rat) ^ b = (a : Rat)) (h : a.natAbs ≤ 2 ^ (30 * b + 15)) : Wt (b + 1) p := by
  refine ⟨a * 27720, ?_, ?_⟩
  · rw [Rat.intCast_mul, ← e, Rat.pow_succ]; grind
  · rw [Int.natAbs_mul, show 30 * (b + 1) = (30 * b + 15) + 15 by omega, Nat.pow_add 2 (30 * b + 15)]
    exact Nat.mul_le_mul h (by decide)
theorem Wt.succ {b : Nat} {p : Rat} (hp : Wt b p) : Wt (b + 1) p := by
  obtain ⟨x, e, h⟩ := hp
  exact Wt.up1 e (Nat.le_trans h (Nat.pow_le_pow_right (by decide) (by omega)))
theorem Wt.mono {b c : Nat} {p : Rat} (hp : Wt b p) (h : b ≤ c) : Wt c p := by
  induction h with
  | refl => exact hp
  | step _ ih => exact ih.succ
/-- a sum of at most 2^15 -/
theorem Wt.sum {b : Nat} : ∀ {l : List Rat}, (∀ q ∈ l, Wt b q) → ∃ a : Int, l.sum * (27720 : Rat) ^ b = (a : Rat) ∧ a.natAbs ≤ l.length * 2 ^ (30 * b) := by
  intro l
  induction l with
  | nil => intro _; exact ⟨0, by simp [Rat.zero_mul], by simp⟩
  | cons x xs ih =>
    intro h
    obtain ⟨a, e, k⟩ := ih fun q hq => h q (List.mem_cons_of_mem _ hq)
    obtain ⟨c, f, m⟩ := h x (List.mem_cons_self ..)
    refine ⟨c + a, ?_, ?_⟩
    · rw [List.sum_cons, Rat.intCast_add, ← e, ← f]; grind
    · have := Int.natAbs_add_le c a
      rw [List.length_cons, Nat.add_mul]
      omega
theorem Wt.sumL {b : Nat} {l : List Rat} (h : ∀ q ∈ l, Wt b q) (hl : l.length ≤ 32768) : Wt (b + 1) l.sum := by
  obtain ⟨a, e, k⟩ := Wt.sum h
  refine Wt.up1 e (Nat.le_trans k ?_)
  rw [Nat.pow_add, Nat.mul_comm (2 ^ (30 * b))]
  exact Nat.mul_le_mul_right _ hl
theorem Wt.add {b : Nat} {p q : Rat} (hp : Wt b p) (hq : Wt b q) : Wt (b + 1) (p + q) := by
  have := Wt.sumL (b := b) (l := [p, q]) (by simp [hp, hq]) (by simp)
  have e : [p, q].sum = p + q := by simp [Rat.add_zero]
  rwa [e] at this
theorem Wt.sub {b : Nat} {p q : Rat} (hp : Wt b p) (hq : Wt b q) : Wt (b + 1) (p - q) := by
  rw [Rat.sub_eq_add_neg]; exact hp.add hq.neg
/-- a sum of m of weight b -/
def WtN (b m : Nat) (q : Rat) : Prop := ∃ a : Int, q * (27720 : Rat) ^ b = (a : Rat) ∧ a.natAbs ≤ m * 2 ^ (30 * b)
theorem WtN.zero {b m : Nat} : WtN b m 0 := ⟨0, by simp [Rat.zero_mul], by simp⟩
theorem WtN.add {b m : Nat} {p q : Rat} (hp : WtN b m p) (hq : Wt b q) : WtN b (m + 1) (p + q) := by
  obtain ⟨x, e, h⟩ := hp
  obtain ⟨y, f, k⟩ := hq
  refine ⟨x + y, ?_, ?_⟩
  · rw [Rat.intCast_add, ← e, ← f]; grind
  · have := Int.natAbs_add_le x y
    rw [Nat.add_mul]
    omega
theorem WtN.mono {b m m' : Nat} {p : Rat} (hp : WtN b m p) (h : m ≤ m') : WtN b m' p := by
  obtain ⟨x, e, k⟩ := hp
  exact ⟨x, e, Nat.le_trans k (Nat.mul_le_mul_right _ h)⟩
theorem WtN.wt {b m : Nat} {p : Rat} (hp : WtN b m p) (h : m ≤ 32768) : Wt (b + 1) p := by
  obtain ⟨x, e, k⟩ := hp
  refine Wt.up1 e (Nat.le_trans k ?_)
  rw [Nat.pow_add, Nat.mul_comm (2 ^ (30 * b))]
  exact Nat.mul_le_mul_right _ h
theorem Wt.zero {b : Nat} : Wt b 0 := ⟨0, by simp [Rat.zero_mul], by simp⟩
theorem Wt.one : Wt 0 1 := ⟨1, by simp, by decide⟩
/-- a small fraction -/
theorem Wt.frac {i : Int} {d : Nat} (hi : i.natAbs ≤ 32768) (hd : 0 < d) (hd2 : d ∣ 27720) : Wt 1 (mkRat i d) := by
  obtain ⟨e, he⟩ := hd2
  refine ⟨i * e, ?_, ?_⟩
  · rw [Rat.mkRat_eq_div, Rat.pow_one, Rat.intCast_mul]
    have h2 : (27720 : Rat) = (d : Rat) * (e : Rat) := by
      rw [← Rat.natCast_mul, ← he]; rfl
    have hd0 : (d : Rat) ≠ 0 := fun z => by
      have : d = 0 := by exact_mod_cast z
      omega
    rw [h2, show ((e : Int) : Rat) = (e : Rat) from rfl]
    have h3 : (i : Rat) / (d : Rat) * (d : Rat) = i := Rat.div_mul_cancel hd0
    grind
  · rw [Int.natAbs_mul, Int.natAbs_natCast]
    have : e ≤ 27720 := Nat.le_of_dvd (by decide) ⟨d, by rw [he, Nat.mul_comm]⟩
    exact Nat.le_trans (Nat.mul_le_mul hi this) (by decide)
theorem Wt.sm {b : Nat} {q : Rat} (h : Wt b q) (hb : b ≤ 130) : Sm q := by
  obtain ⟨a, e, k⟩ := h
  have e2 : q.num * (27720 : Int) ^ b = a * q.den := by
    have hd : (q.den : Rat) ≠ 0 := by
      intro z
      exact q.den_nz (by exact_mod_cast z)
    have hq : q * (q.den : Rat) = (q.num : Rat) := by
      have h := Rat.mkRat_eq_div q.num q.den
      rw [Rat.mkRat_self] at h
      rw [show q * (q.den : Rat) = (q.num : Rat) / (q.den : Rat) * (q.den : Rat) from congrArg (· * (q.den : Rat)) h, Rat.div_mul_cancel hd]
    have h3 : ((q.num * (27720 : Int) ^ b : Int) : Rat) = ((a * (q.den : Int) : Int) : Rat) := by
      rw [Rat.intCast_mul, Rat.intCast_mul, Rat.intCast_pow, ← hq, ← e]
      have : ((27720 : Int) : Rat) = (27720 : Rat) := rfl
      rw [this]
      have : (((q.den : Nat) : Int) : Rat) = (q.den : Rat) := rfl
      rw [this]
      grind
    exact Rat.intCast_inj.mp h3
  have e3 : q.num.natAbs * 27720 ^ b = a.natAbs * q.den := by
    have := congrArg Int.natAbs e2
    rw [Int.natAbs_mul, Int.natAbs_mul, Int.natAbs_pow, Int.natAbs_natCast] at this
    exact this
  have c : q.num.natAbs.Coprime q.den := q.reduced
  have d1 : q.den ∣ 27720 ^ b := c.symm.dvd_of_dvd_mul_left (e3 ▸ Nat.dvd_mul_left _ _)
  have d2 : q.num.natAbs ∣ a.natAbs := c.dvd_of_dvd_mul_right (e3 ▸ Nat.dvd_mul_right _ _)
  constructor
  · cases ha : a.natAbs with
    | zero =>
      rw [ha, Nat.zero_mul] at e3
      have : q.num.natAbs = 0 := by
        rcases Nat.mul_eq_zero.mp e3 with h | h
        · exact h
        · exact absurd h (Nat.ne_of_gt (Nat.pow_pos (by decide)))
      rw [this]; exact Nat.pow_pos (by decide)
    | succ n =>
      have l1 := Nat.le_of_dvd (by omega) d2
      refine Nat.lt_of_le_of_lt (Nat.le_trans l1 k) (Nat.pow_lt_pow_right (by decide) (by omega))
  · have l1 := Nat.le_of_dvd (Nat.pow_pos (by decide)) d1
    have l2 : 27720 ^ b ≤ (2 ^ 15) ^ b := Nat.pow_le_pow_left (by decide) b
    rw [← Nat.pow_mul] at l2
    exact Nat.lt_of_le_of_lt (Nat.le_trans l1 l2) (Nat.pow_lt_pow_right (by decide) (by omega))
end Pl

end
section
set_option Elab.async false
set_option linter.all false
set_option maxRecDepth 100000
set_option exponentiation.threshold 1000000
/-! Pl1: Euclid's loop, a new ratio. -/
namespace Pl
open TL
theorem eqD_int (m : Nat) (i j : Int) : eqD m (.int i) (.int j) = some (decide (i = j)) := by
  cases m <;> rfl
theorem eqD_bl (m : Nat) (i j : Bool) : eqD m (.bl i) (.bl j) = some (i == j) := by
  cases m <;> rfl
theorem eqD_rat (m : Nat) (i j : Rat) : eqD m (.rat i) (.rat j) = some (decide (i = j)) := by
  cases m <;> rfl
def rats (x : List Rat) : List D := x.map .rat
theorem eqL_rats (m : Nat) : ∀ x y : List Rat, eqL (eqD m) (rats x) (rats y) = some (decide (x = y))
  | [], [] => rfl
  | [], _ :: _ => rfl
  | _ :: _, [] => rfl
  | a :: x, b :: y => by
    show (match eqD m (.rat a) (.rat b) with | some true => eqL (eqD m) (rats x) (rats y) | some false => some false | none => none) = _
    rw [eqD_rat, eqL_rats m x y]
    by_cases h : a = b
    · simp [h]
    · simp [h]
theorem eqD_row (m : Nat) (x y : List Rat) : eqD (m + 1) (.tup (rats x)) (.tup (rats y)) = some (decide (x = y)) := eqL_rats m x y
theorem eqD_strs (m : Nat) (a b : PySem.Str) : eqD m (.str a) (.str b) = some (a == b) := by
  cases m <;> rfl
/-! ### Euclid -/
/-- a, b = b, a % b, while b is not 0 -/
def eucl : M Flow := whl (tOf (eOp (oEq 6 true) (eNameB 1) (eC (.int 0)))) (sPar 0 1 (aCons (eName 1) (aCons (eOp (oP .mod) (eNameB 0) (eNameB 1)) (aNil)))) 100000
theorem eucl_t (b : Int) (a : D) (r : List Sl) (ce) : (tOf (eOp (oEq 6 true) (eNameB 1) (eC (.int 0)))) ⟨.v a :: .v (.int b) :: r, ce⟩ = .ok (!decide (b = 0)) ⟨.v a :: .v (.int b) :: r, ce⟩ := by
  simp [tOf, eOp, oEq, eNameB, eC, M.bnd, M.ret, eqD_int, asB]
theorem eucl_b (a b : Int) (hb : b ≠ 0) (ce) : (sPar 0 1 (aCons (eName 1) (aCons (eOp (oP .mod) (eNameB 0) (eNameB 1)) (aNil)))) ⟨[.v (.int a), .v (.int b)], ce⟩ = .ok .nx ⟨[.v (.int b), .v (.int (a.fmod b))], ce⟩ := by
  simp [sPar, aCons, aNil, eOp, oP, eNameB, eName, M.bnd, M.ret, M.opt, binP, hb, setS]
theorem eucl_ok (ce) : ∀ (k : Nat) (a b : Nat) (n : Nat), b < 2 ^ k → 2 * k + 1 ≤ n →
    whl (tOf (eOp (oEq 6 true) (eNameB 1) (eC (.int 0)))) (sPar 0 1 (aCons (eName 1) (aCons (eOp (oP .mod) (eNameB 0) (eNameB 1)) (aNil)))) n ⟨[.v (.int (a : Int)), .v (.int (b : Int))], ce⟩ = .ok .nx ⟨[.v (.int (Nat.gcd a b : Nat)), .v (.int 0)], ce⟩ := by
  intro k
  induction k with
  | zero =>
    intro a b n hb hn
    obtain rfl : b = 0 := by simpa using hb
    obtain ⟨n, rfl⟩ : ∃ m, n = m + 1 := ⟨n - 1, by omega⟩
    unfold whl
    rw [eucl_t]
    simp
  | succ k ih =>
    intro a b n hb hn
    obtain ⟨n, rfl⟩ : ∃ m, n = m + 2 := ⟨n - 2, by omega⟩
    by_cases h0 : b = 0
    · subst h0
      unfold whl
      rw [eucl_t]
      simp
    unfold whl
    rw [eucl_t, decide_eq_false (by omega : ¬ ((b : Int) = 0))]
    simp only [Bool.not_false]
    rw [eucl_b _ _ (by omega)]
    simp only
    rw [show (a : Int).fmod (b : Int) = ((a % b : Nat) : Int) by rw [Int.fmod_eq_emod_of_nonneg _ (by omega)]; rfl]
    by_cases h1 : a % b = 0
    · unfold whl
      rw [eucl_t, h1]
      have hg : a.gcd b = b := by rw [Nat.gcd_comm, Nat.gcd_rec, h1, Nat.gcd_zero_left]
      rw [hg]
      rfl
    · have hlt : a % b < b := Nat.mod_lt _ (by omega)
      unfold whl
      rw [eucl_t, decide_eq_false (by omega : ¬ (((a % b : Nat) : Int) = 0))]
      simp only [Bool.not_false]
      rw [eucl_b _ _ (by omega)]
      simp only
      rw [show (b : Int).fmod ((a % b : Nat) : Int) = ((b % (a % b) : Nat) : Int) by rw [Int.fmod_eq_emod_of_nonneg _ (by omega)]; rfl]
      have hh : b % (a % b) < 2 ^ k := by
        have h2 : b % (a % b) < a % b := Nat.mod_lt _ (by omega)
        have h3 : (a % b) * (b / (a % b)) + b % (a % b) = b := Nat.div_add_mod ..
        have h4 : 1 ≤ b / (a % b) := Nat.div_pos (by omega) (by omega)
        have h5 : (a % b) * 1 ≤ (a % b) * (b / (a % b)) := Nat.mul_le_mul_left _ h4
        rw [Nat.pow_succ] at hb
        omega
      rw [ih (a % b) (b % (a % b)) n hh (by omega)]
      have g1 : b.gcd a = (a % b).gcd b := Nat.gcd_rec ..
      have g2 : (a % b).gcd b = (b % (a % b)).gcd (a % b) := Nat.gcd_rec ..
      rw [Nat.gcd_comm a b, g1, g2, Nat.gcd_comm (a % b)]
theorem abs_int (i : Int) : (if i < 0 then -i else i) = (i.natAbs : Int) := by omega
/-- what Ratio's own numbers are -/
theorem mkI_rat (n : Int) (d : Nat) (hd : d ≠ 0) : mkI 0 [(0, .int (n.fdiv (n.natAbs.gcd d : Nat))), (1, .int ((d : Int).fdiv (n.natAbs.gcd d : Nat)))] = some (.rat (mkRat n d)) := by
  have hg : 0 < n.natAbs.gcd d := Nat.gcd_pos_of_pos_right _ (by omega)
  have e1 : n.fdiv (n.natAbs.gcd d : Nat) = (mkRat n d).num := by
    rw [Rat.num_mkRat, if_neg hd, Nat.gcd_comm, Int.fdiv_eq_ediv_of_nonneg _ (by omega)]
  have e2 : (d : Int).fdiv (n.natAbs.gcd d : Nat) = ((mkRat n d).den : Int) := by
    rw [Rat.den_mkRat, if_neg hd, Nat.gcd_comm, Int.fdiv_eq_ediv_of_nonneg _ (by omega)]
    exact (Int.natCast_ediv ..).symm
  rw [e1, e2]
  have hc : 0 < ((mkRat n d).den : Int) ∧ (mkRat n d).num.natAbs.Coprime ((mkRat n d).den : Int).natAbs := ⟨by have := (mkRat n d).den_nz; omega, (mkRat n d).reduced⟩
  show (if h : _ then _ else _) = _
  rw [dif_pos hc]
  rfl
theorem mulOk_of {i j : Int} (hi : i.natAbs < 2 ^ 400000) (hj : j.natAbs < 2 ^ 400000) : mulOk i j = true := by
  have h : ∀ x : Nat, x < 2 ^ 400000 → x.log2 < 400000 := fun x hx => by
    by_cases h0 : x = 0
    · subst h0; decide
    · exact (Nat.log2_lt h0).mpr hx
  unfold mulOk
  have := h _ hi
  have := h _ hj
  simp only [Bool.or_eq_true, decide_eq_true_eq]
  omega
theorem Sm.n {q : Rat} (h : Sm q) : q.num.natAbs < 2 ^ 400000 := Nat.lt_trans h.1 (Nat.pow_lt_pow_right (by decide) (by decide))
theorem Sm.d {q : Rat} (h : Sm q) : (q.den : Int).natAbs < 2 ^ 400000 := Nat.lt_trans h.2 (Nat.pow_lt_pow_right (by decide) (by decide))
theorem Sm.dd {p q : Rat} (hp : Sm p) (hq : Sm q) : ((p.den : Int) * q.den).natAbs < 2 ^ 8100 := by
  rw [Int.natAbs_mul, Int.natAbs_natCast, Int.natAbs_natCast]
  have h1 : p.den * q.den < 2 ^ 4000 * 2 ^ 4000 := Nat.mul_lt_mul_of_lt_of_lt hp.2 hq.2
  rw [← Nat.pow_add] at h1
  exact Nat.lt_trans h1 (Nat.pow_lt_pow_right (by decide) (by decide))
theorem den_mul_ne (p q : Rat) : ((p.den : Int) * q.den) ≠ 0 := by
  have := p.den_nz; have := q.den_nz
  exact Int.mul_ne_zero (by omega) (by omega)
def sgn (p : Rat) : Int := if 0 < p.num then 1 else if p.num < 0 then -1 else 0
theorem sgn_zero {p : Rat} : sgn p = 0 ↔ p = 0 := by
  unfold sgn
  rw [← Rat.num_eq_zero]
  split
  · omega
  · split <;> omega
end Pl

end
section
set_option Elab.async false
set_option linter.all false
set_option maxRecDepth 100000
set_option exponentiation.threshold 10000
/-! Pl2: the combinators, applied. -/
namespace Pl
open TL
section
variable {α β : Type} {Φ : Phi} {c : Cfg} {ce : List (List D)}
def bdF (f : α → M β) : Out α → Out β
  | .ok a c => f a c
  | .err x c => .err x c
  | .stuck => .stuck
theorem ap_bnd {m : M α} {f : α → M β} : M.bnd m f c = bdF f (m c) := by
  unfold M.bnd bdF; cases m c <;> exact id rfl
theorem bd_ok {f : α → M β} {a c} : bdF f (.ok a c) = f a c := id rfl
theorem bd_err {f : α → M β} {x c} : bdF f (.err x c) = .err x c := id rfl
theorem bd_st {f : α → M β} : bdF f .stuck = .stuck := id rfl
theorem ap_ret {a : α} : M.ret a c = .ok a c := id rfl
theorem ap_some {a : α} : M.opt (some a) c = .ok a c := id rfl
theorem ap_eC {a : D} : eC a c = .ok a c := id rfl
theorem ap_name {i : Nat} : eName i c = (match c.sl[i]? with
  | some (.v d) => .ok d c
  | some (.own xs) => .ok (.lst xs) { c with sl := c.sl.set i (.v (.lst xs)) }
  | _ => .stuck) := id rfl
theorem ap_nameB {i : Nat} : eNameB i c = (match c.sl[i]? with
  | some (.v d) => .ok d c
  | some (.own xs) => .ok (.lst xs) c
  | _ => .stuck) := id rfl
theorem ap_nil : aNil c = .ok [] c := id rfl
theorem ap_cons {m : M D} {r : M (List D)} : aCons m r c = M.bnd m (fun d => M.bnd r fun ds => M.ret (d :: ds)) c := id rfl
theorem ap_op {k : D → D → M D} {ma mb : M D} : eOp k ma mb c = M.bnd ma (fun x => M.bnd mb fun y => k x y) c := id rfl
theorem ap_oP {op} {a b : D} : oP op a b c = M.opt (binP op a b) c := id rfl
theorem ap_oC {op} {a b : D} : oC op a b c = M.opt (cmpP op a b) c := id rfl
theorem ap_oEq {m : Nat} {ne : Bool} {a b : D} : oEq m ne a b c = (match eqD m a b with | some r => .ok (.bl (xor ne r)) c | none => .stuck) := by
  unfold oEq; cases eqD m a b <;> rfl
theorem ap_oEqF {ne : Bool} {a b : D} : oEqF ne a b c = (match eqFlat a b with | some r => .ok (.bl (if ne then !r else r)) c | none => .stuck) := by
  unfold oEqF; cases eqFlat a b <;> rfl
theorem ap_asB {b : Bool} : asB (.bl b) c = .ok b c := id rfl
theorem ap_tOf {m : M D} : tOf m c = M.bnd m asB c := id rfl
theorem ap_bAnd {x y : M Bool} : bAnd x y c = M.bnd x (fun b => if b = true then y else M.ret false) c := id rfl
theorem ap_bOr {x y : M Bool} : bOr x y c = M.bnd x (fun b => if b = true then M.ret true else y) c := id rfl
theorem ap_bNot {x : M Bool} : bNot x c = M.bnd x (fun b => M.ret (!b)) c := id rfl
theorem ap_ite {p : Prop} [Decidable p] {x y : M α} : (if p then x else y) c = if p then x c else y c := by split <;> rfl
def adF (y : M D) : Out D → Out D
  | .ok (.bl true) c' => y c'
  | .ok (.bl false) c' => .ok (.bl false) c'
  | .ok _ _ => .stuck
  | .err e c' => .err e c'
  | .stuck => .stuck
theorem ap_eAnd {x y : M D} : eAnd x y c = adF y (x c) := by
  unfold eAnd M.bnd adF
  cases x c with
  | ok d c' => cases d <;> try rfl
               rename_i b; cases b <;> rfl
  | _ => rfl
theorem ad_t {y : M D} {c} : adF y (.ok (.bl true) c) = y c := id rfl
theorem ad_f {y : M D} {c} : adF y (.ok (.bl false) c) = .ok (.bl false) c := id rfl
theorem ad_err {y : M D} {x c} : adF y (.err x c) = .err x c := id rfl
theorem ad_b {y : M D} {b c} : adF y (.ok (.bl b) c) = if b = true then y c else .ok (.bl false) c := by cases b <;> exact id rfl
def ntF : Out D → Out D
  | .ok (.bl b) c' => .ok (.bl (!b)) c'
  | .ok _ _ => .stuck
  | .err e c' => .err e c'
  | .stuck => .stuck
theorem ap_eNot {x : M D} : eNot x c = ntF (x c) := by
  unfold eNot M.bnd ntF
  cases x c with
  | ok d c' => cases d <;> rfl
  | _ => rfl
theorem nt_b {b c} : ntF (.ok (.bl b) c) = .ok (.bl (!b)) c := id rfl
theorem nt_err {x c} : ntF (.err x c) = .err x c := id rfl
theorem ap_eIf {t : M Bool} {x y : M α} : eIf t x y c = M.bnd t (fun b => if b = true then x else y) c := id rfl
theorem ap_chain {k k' : D → D → M D} {ma mb md : M D} : eChain k k' ma mb md c = M.bnd ma (fun x => M.bnd mb fun y => M.bnd (k x y) fun r => match r with
  | .bl true => M.bnd md fun z => k' y z
  | .bl false => M.ret (.bl false)
  | _ => M.stk) c := id rfl
theorem ap_isi {nC : Nat} {m : M D} {k : Ck} : eIsi nC m k c = M.bnd m (fun d => M.opt ((isD nC d k).map D.bl)) c := id rfl
theorem ap_isis {nC : Nat} {m : M D} {k : List Ck} : eIsis nC m k c = M.bnd m (fun d => M.opt ((isDs nC d k).map D.bl)) c := id rfl
theorem ap_fld {Cs : List Nat} {f : Nat} {m : M D} : eFld Cs f m c = M.bnd m (fun d => M.opt (fldD Cs f d)) c := id rfl
theorem ap_ix {ma mb : M D} : eIx ma mb c = M.bnd ma (fun x => M.bnd mb fun y => fun c => match itemP c.ce x y with | some d => .ok d c | none => .stuck) c := id rfl
theorem ap_tup {ma : M (List D)} : eTup ma c = M.bnd ma (fun ds => if sizeOk ds.length then M.ret (.tup ds) else M.stk) c := id rfl
theorem ap_fLst {ma : M (List D)} : fLst ma c = M.bnd ma (fun ds => if sizeOk ds.length then M.ret ds else M.stk) c := id rfl
theorem ap_eL {m : M (List D)} : eL m c = M.bnd m (fun xs => M.ret (.lst xs)) c := id rfl
theorem ap_tupK {xs : List D} : tupK (.lst xs) c = .ok (.tup xs) c := id rfl
theorem ap_tupK' {xs : List D} : tupK (.tup xs) c = .ok (.tup xs) c := id rfl
theorem ap_lenK {xs : List D} : lenK (.lst xs) c = .ok (.int xs.length) c := id rfl
theorem ap_lenK' {xs : List D} : lenK (.tup xs) c = .ok (.int xs.length) c := id rfl
theorem ap_absK {i : Int} : absK (.int i) c = .ok (.int (i.natAbs : Int)) c := by
  show Out.ok (D.int (if i < 0 then -i else i)) c = _
  rw [abs_int]
theorem ap_intK {i : Int} : intK (.int i) c = .ok (.int i) c := id rfl
theorem ap_intK' {b : Bool} : intK (.bl b) c = .ok (.int (if b then 1 else 0)) c := id rfl
def cvD (c : Cfg) : FOut → Out D
  | .ok (.v d) ce => .ok d { c with ce := ce }
  | .ok (.f xs) ce => .ok (.lst xs) { c with ce := ce }
  | .err x ce => .err x { c with ce := ce }
  | .stuck => .stuck
theorem cv_v {c d ce} : cvD c (.ok (.v d) ce) = .ok d { c with ce := ce } := id rfl
theorem cv_f {c xs ce} : cvD c (.ok (.f xs) ce) = .ok (.lst xs) { c with ce := ce } := id rfl
theorem cv_err {c x ce} : cvD c (.err x ce) = .err x { c with ce := ce } := id rfl
theorem ap_callR {F : FnS} {ds : List D} : callR F ds c = cvD c (F ds c.ce) := by
  unfold callR cvD
  cases F ds c.ce with
  | ok r ce => cases r <;> exact id rfl
  | err x ce => exact id rfl
  | stuck => exact id rfl
theorem ap_call {f : Nat} {dl : List D} {ma : M (List D)} : eCall Φ f dl ma c = M.bnd ma (fun ds c => cvD c (Φ f (ds ++ dl) c.ce)) c := by
  have e : (fun (ds : List D) (c : Cfg) => cvD c (Φ f (ds ++ dl) c.ce)) = fun ds => callR (Φ f) (ds ++ dl) := by
    funext ds c; rw [ap_callR]
  rw [e]; exact id rfl
def cvL (c : Cfg) : FOut → Out (List D)
  | .ok (.f xs) ce => .ok xs { c with ce := ce }
  | .err x ce => .err x { c with ce := ce }
  | _ => .stuck
theorem cl_f {c xs ce} : cvL c (.ok (.f xs) ce) = .ok xs { c with ce := ce } := id rfl
theorem cl_err {c x ce} : cvL c (.err x ce) = .err x { c with ce := ce } := id rfl
theorem ap_fCall {f : Nat} {dl : List D} {ma : M (List D)} : fCall Φ f dl ma c = M.bnd ma (fun ds c => cvL c (Φ f (ds ++ dl) c.ce)) c := by
  have e : (fun (ds : List D) (c : Cfg) => cvL c (Φ f (ds ++ dl) c.ce)) = fun ds => callRF (Φ f) (ds ++ dl) := by
    funext ds c
    unfold callRF cvL
    cases Φ f (ds ++ dl) c.ce with
    | ok r ce => cases r <;> exact id rfl
    | err x ce => exact id rfl
    | stuck => exact id rfl
  rw [e]; exact id rfl
def cvM (c : Cfg) : FOut → Out D
  | .ok (.v d) ce => .ok d { c with ce := ce }
  | .ok (.f _) _ => .stuck
  | .err x ce => .err x { c with ce := ce }
  | .stuck => .stuck
theorem cm_v {c d ce} : cvM c (.ok (.v d) ce) = .ok d { c with ce := ce } := id rfl
theorem cm_err {c x ce} : cvM c (.err x ce) = .err x { c with ce := ce } := id rfl
theorem ap_make {f : Nat} {dl : List D} {ma : M (List D)} : eMake Φ f dl ma c = M.bnd ma (fun ds c => cvM c (Φ f (ds ++ dl) c.ce)) c := by
  have e : ∀ (ds : List D) (c : Cfg), cvM c (Φ f (ds ++ dl) c.ce) = (match Φ f (ds ++ dl) c.ce with
    | .ok (.v d) ce => .ok d { c with ce := ce }
    | .ok (.f _) _ => .stuck
    | .err x ce => .err x { c with ce := ce }
    | .stuck => .stuck) := by
    intro ds c
    unfold cvM
    cases Φ f (ds ++ dl) c.ce with
    | ok r ce => cases r <;> exact id rfl
    | err x ce => exact id rfl
    | stuck => exact id rfl
  simp only [e]; exact id rfl
theorem ap_callN {fs : List Nat} {i : Nat} {ma : M (List D)} : eCallN Φ fs i ma c = (match c.sl[i]? with
  | some (.v (.fn f)) => if fs.contains f then (M.bnd ma fun ds => callR (Φ f) ds) c else .stuck
  | _ => .stuck) := id rfl
theorem ap_meth {ms : MTab} {m : Nat} {mo : M D} {ma : M (List D)} : eMeth Φ ms m mo ma c = M.bnd mo (fun d => match mget ms m d with
  | some f => M.bnd ma fun ds => callR (Φ f) (d :: ds)
  | none => M.stk) c := id rfl
theorem ap_opR {f : Nat} {k0 : D → D → M D} {a : Rat} {b : Rat} : opR Φ f k0 (.rat a) (.rat b) c = callR (Φ f) [.rat a, .rat b] c := id rfl
theorem ap_opRi {f : Nat} {k0 : D → D → M D} {a : Int} {b : D} : opR Φ f k0 (.int a) b c = k0 (.int a) b c := id rfl
theorem ap_opRt {f : Nat} {k0 : D → D → M D} {a : List D} {b : D} : opR Φ f k0 (.tup a) b c = k0 (.tup a) b c := id rfl
theorem ap_opRl {f : Nat} {k0 : D → D → M D} {a : List D} {b : D} : opR Φ f k0 (.lst a) b c = k0 (.lst a) b c := id rfl
theorem ap_opRs {f : Nat} {k0 : D → D → M D} {a : PySem.Str} {b : D} : opR Φ f k0 (.str a) b c = k0 (.str a) b c := id rfl
theorem ap_neg {f : Nat} {a : Rat} : oNeg Φ f (.rat a) c = callR (Φ f) [.rat a] c := id rfl
theorem ap_negi {f : Nat} {a : Int} : oNeg Φ f (.int a) c = .ok (.int (-a)) c := id rfl
theorem ap_negI {a : Int} : oNegI (.int a) c = .ok (.int (-a)) c := id rfl
theorem ap_oAddi {a : Int} {b : D} : oAdd (.int a) b c = oP .add (.int a) b c := id rfl
theorem ap_oAddt {a : List D} {b : D} : oAdd (.tup a) b c = oP .add (.tup a) b c := id rfl
theorem ap_oAdds {a : PySem.Str} {b : D} : oAdd (.str a) b c = oP .add (.str a) b c := id rfl
theorem ap_oAddl {a b : List D} : oAdd (.lst a) (.lst b) c = if sizeOk (a.length + b.length) then .ok (.lst (a ++ b)) c else .stuck := by
  show (if _ then _ else _ : M D) c = _; split <;> rfl
theorem ap_oMuli {a : Int} {b : D} : oMul (.int a) b c = oP .mul (.int a) b c := id rfl
theorem ap_sl {m : M D} {ml mh : M (Option Int)} : eSl m ml mh c = M.bnd m (fun d => M.bnd ml fun lo => M.bnd mh fun hi => M.opt (slP lo hi d)) c := id rfl
theorem ap_oNone : oNone c = .ok none c := id rfl
theorem ap_oSome {m : M D} : oSome m c = M.bnd m (fun d => match d with | .int i => M.ret (some i) | _ => M.stk) c := id rfl
/-! statements -/
def sqF (b : M Flow) : Out Flow → Out Flow
  | .ok .nx c => b c
  | o => o
theorem ap_seq {a b : M Flow} : sSeq a b c = sqF b (a c) := by
  unfold sSeq sqF; cases a c with
  | ok f c => cases f <;> exact id rfl
  | err x c => exact id rfl
  | stuck => exact id rfl
theorem sq_nx {b : M Flow} {c} : sqF b (.ok .nx c) = b c := id rfl
theorem sq_rt {b : M Flow} {r c} : sqF b (.ok (.rt r) c) = .ok (.rt r) c := id rfl
theorem sq_err {b : M Flow} {x c} : sqF b (.err x c) = .err x c := id rfl
theorem sq_st {b : M Flow} : sqF b .stuck = .stuck := id rfl
theorem ap_if {t : M Bool} {a b : M Flow} : sIf t a b c = M.bnd t (fun b' => if b' = true then a else b) c := id rfl
theorem ap_sRet {m : M D} : sRet m c = M.bnd m (fun d => M.ret (.rt (.v d))) c := id rfl
theorem ap_sRetF {m : M (List D)} : sRetF m c = M.bnd m (fun d => M.ret (.rt (.f d))) c := id rfl
theorem ap_sRetN : sRetN c = .ok (.rt (.v .non)) c := id rfl
theorem ap_sRetO {i : Nat} : sRetO i c = (match c.sl[i]? with
  | some (.own xs) => .ok (.rt (.f xs)) c
  | some (.v d) => .ok (.rt (.v d)) c
  | _ => .stuck) := id rfl
theorem ap_drop {m : M D} : sDrop m c = M.bnd m (fun _ => nxt) c := id rfl
theorem ap_nxt : nxt c = .ok .nx c := id rfl
theorem ap_asg {k : TgF} {m : M D} : sAsg k m c = M.bnd m (fun d c => match k d c with | some c' => .ok .nx c' | none => .stuck) c := id rfl
theorem ap_own {i : Nat} {m : M (List D)} : sOwn i m c = M.bnd m (fun xs c => .ok .nx (setS i (.own xs) c)) c := id rfl
theorem ap_cell {i : Nat} {m : M (List D)} : sCell i m c = M.bnd m (fun xs c => .ok .nx ⟨c.sl.set i (.v (.cell c.ce.length)), c.ce ++ [xs]⟩) c := id rfl
theorem ap_par {i j : Nat} {ma : M (List D)} : sPar i j ma c = M.bnd ma (fun ds c => match ds with
  | [d, e] => .ok .nx (setS j (.v e) (setS i (.v d) c))
  | _ => .stuck) c := id rfl
theorem ap_par3 {i j l : Nat} {ma : M (List D)} : sPar3 i j l ma c = M.bnd ma (fun ds c => match ds with
  | [d, e, f] => .ok .nx (setS l (.v f) (setS j (.v e) (setS i (.v d) c)))
  | _ => .stuck) c := id rfl
theorem ap_raise0 {i : Nat} : sRaise0 i c = .err ⟨i, []⟩ c := id rfl
theorem ap_self {Cs : List Nat} {f : Nat} {m : M D} : sSelf Cs f m c = M.bnd m (fun d c => match c.sl[0]? with
  | some (Sl.obj C fs) => if Cs.contains C && decide (fs.length < 900) then .ok .nx (setS 0 (.obj C (putD f d fs)) c) else .stuck
  | _ => .stuck) c := id rfl
theorem ap_for {mi : M (List D)} {k : TgF} {b : M Flow} : sFor mi k b c = M.bnd mi (forL k b) c := id rfl
theorem ap_wV {m : M D} : wV m c = M.bnd m (fun d => M.opt (wOf d)) c := id rfl
def stO (i : Nat) (d : D) : Out D → Out Flow
  | .ok (.int k) c => (match c.sl[i]? with
      | some (.own xs) => (match L2.ixN xs.length k with
        | some j => .ok .nx (setS i (.own (xs.set j d)) c)
        | none => .stuck)
      | _ => .stuck)
  | .err x c => .err x c
  | _ => .stuck
def stC (n : Nat) (d : D) : Out D → Out Flow
  | .ok (.int k) c => (match c.ce[n]? with
      | some xs => (match L2.ixN xs.length k with
        | some j => .ok .nx { c with ce := c.ce.set n (xs.set j d) }
        | none => .stuck)
      | none => .stuck)
  | .err x c => .err x c
  | _ => .stuck
def stF (i : Nat) (mi : M D) (d : D) (c : Cfg) : Out Flow := match c.sl[i]? with
  | some (.own _) => stO i d (mi c)
  | some (.v (.cell n)) => stC n d (mi c)
  | _ => .stuck
theorem st_own {i : Nat} {d : D} {k : Int} {c : Cfg} : stO i d (.ok (.int k) c) = (match c.sl[i]? with
      | some (.own xs) => (match L2.ixN xs.length k with
        | some j => .ok .nx (setS i (.own (xs.set j d)) c)
        | none => .stuck)
      | _ => .stuck) := id rfl
theorem st_cell {n : Nat} {d : D} {k : Int} {c : Cfg} : stC n d (.ok (.int k) c) = (match c.ce[n]? with
      | some xs => (match L2.ixN xs.length k with
        | some j => .ok .nx { c with ce := c.ce.set n (xs.set j d) }
        | none => .stuck)
      | none => .stuck) := id rfl
theorem ap_set {i : Nat} {m mi : M D} : sSet i m mi c = M.bnd m (stF i mi) c := by
  have e : stF i mi = fun d => fun c => match c.sl[i]? with
  | some (.own _) => (match mi c with
    | .ok (.int k) c => (match c.sl[i]? with
      | some (.own xs) => (match L2.ixN xs.length k with
        | some j => .ok .nx (setS i (.own (xs.set j d)) c)
        | none => .stuck)
      | _ => .stuck)
    | .err x c => .err x c
    | _ => .stuck)
  | some (.v (.cell n)) => (match mi c with
    | .ok (.int k) c => (match c.ce[n]? with
      | some xs => (match L2.ixN xs.length k with
        | some j => .ok .nx { c with ce := c.ce.set n (xs.set j d) }
        | none => .stuck)
      | none => .stuck)
    | .err x c => .err x c
    | _ => .stuck)
  | _ => .stuck := by
    funext d c
    unfold stF
    split
    · unfold stO
      cases mi c with
      | ok d c => cases d <;> exact id rfl
      | _ => exact id rfl
    · unfold stC
      cases mi c with
      | ok d c => cases d <;> exact id rfl
      | _ => exact id rfl
    · exact id rfl
  rw [e]; exact id rfl
theorem ap_stF {i : Nat} {mi : M D} {d : D} {c : Cfg} : stF i mi d c = (match c.sl[i]? with
  | some (.own _) => stO i d (mi c)
  | some (.v (.cell n)) => stC n d (mi c)
  | _ => .stuck) := id rfl
theorem ap_gN {i : Nat} {d : D} : gN i d c = some (setS i (.v d) c) := id rfl
theorem ap_gT {n : Nat} {k} {xs : List D} : gT n k (.tup xs) c = if xs.length = n then k xs c else none := id rfl
theorem ap_gT' {n : Nat} {k} {xs : List D} : gT n k (.lst xs) c = if xs.length = n then k xs c else none := id rfl
theorem ap_gsNil : gsNil [] c = some c := id rfl
theorem ap_gsCons {k : TgF} {r} {d : D} {ds : List D} : gsCons k r (d :: ds) c = (match k d c with | some c' => r ds c' | none => none) := id rfl
theorem ap_blsK {f : List Bool → Bool} {xs : List D} : blsK f (.lst xs) c = (match bls xs with | some bs => .ok (.bl (f bs)) c | none => .stuck) := by
  show (match bls xs with | some bs => M.ret (D.bl (f bs)) | none => M.stk : M D) c = _
  cases bls xs <;> rfl
/-! operators on plain values -/
theorem b_add {i j : Int} : binP .add (.int i) (.int j) = some (.int (i + j)) := id rfl
theorem b_sub {i j : Int} : binP .sub (.int i) (.int j) = some (.int (i - j)) := id rfl
theorem b_mul {i j : Int} : binP .mul (.int i) (.int j) = if mulOk i j then some (.int (i * j)) else none := id rfl
theorem b_fdiv {i j : Int} : binP .fdiv (.int i) (.int j) = if divOk j then some (.int (i.fdiv j)) else none := id rfl
theorem b_mod {i j : Int} : binP .mod (.int i) (.int j) = if j ≠ 0 then some (.int (i.fmod j)) else none := id rfl
theorem b_addt {i j : List D} : binP .add (.tup i) (.tup j) = if sizeOk (i.length + j.length) then some (.tup (i ++ j)) else none := id rfl
theorem c_lt {i j : Int} : cmpP .lt (.int i) (.int j) = some (.bl (decide (i < j))) := id rfl
theorem c_le {i j : Int} : cmpP .le (.int i) (.int j) = some (.bl (decide (i ≤ j))) := id rfl
theorem c_gt {i j : Int} : cmpP .gt (.int i) (.int j) = some (.bl (decide (j < i))) := id rfl
theorem c_ge {i j : Int} : cmpP .ge (.int i) (.int j) = some (.bl (decide (j ≤ i))) := id rfl
end
def finF : Out Flow → FOut
  | .ok (.rt r) c => .ok r c.ce
  | .ok .nx c => .ok (.v .non) c.ce
  | .ok _ _ => .stuck
  | .err x c => .err x c.ce
  | .stuck => .stuck
theorem ap_runF {N : Nat} {body : M Flow} {ds : List D} {ce} : runF N body ds ce = finF (body ⟨ds.map .v ++ List.replicate (N - ds.length) .no, ce⟩) := by
  unfold runF finF
  cases body ⟨ds.map .v ++ List.replicate (N - ds.length) .no, ce⟩ with
  | ok f c => cases f <;> exact id rfl
  | err x c => exact id rfl
  | stuck => exact id rfl
theorem fin_rt {r c} : finF (.ok (.rt r) c) = .ok r c.ce := id rfl
theorem fin_nx {c} : finF (.ok .nx c) = .ok (.v .non) c.ce := id rfl
theorem fin_err {x c} : finF (.err x c) = .err x c.ce := id rfl
def finC (C : Nat) (c : Cfg) : FOut := match c.sl[0]? with
    | some (Sl.obj C' fs) => if C' = C then (match mkI C fs with
      | some d => FOut.ok (.v d) c.ce
      | none => .stuck) else .stuck
    | _ => .stuck
def finI (C : Nat) : Out Flow → FOut
  | .ok .nx c => finC C c
  | .ok (.rt (.v .non)) c => finC C c
  | .ok _ _ => .stuck
  | .err x c => .err x c.ce
  | .stuck => .stuck
theorem ap_runI {C N : Nat} {body : M Flow} {ds : List D} {ce} : runI C N body ds ce = finI C (body ⟨.obj C [] :: (ds.map .v ++ List.replicate (N - 1 - ds.length) .no), ce⟩) := by
  unfold runI finI
  cases body ⟨.obj C [] :: (ds.map .v ++ List.replicate (N - 1 - ds.length) .no), ce⟩ with
  | ok f c => cases f with
    | rt r => cases r with
      | v d => cases d <;> exact id rfl
      | f xs => exact id rfl
    | _ => exact id rfl
  | err x c => exact id rfl
  | stuck => exact id rfl
theorem fni_nx {C c} : finI C (.ok .nx c) = finC C c := id rfl
theorem fni_rt {C c} : finI C (.ok (.rt (.v .non)) c) = finC C c := id rfl
theorem fni_err {C x c} : finI C (.err x c) = .err x c.ce := id rfl
theorem ap_arity {n : Nat} {F : FnS} {ds : List D} {ce} : arity n F ds ce = if ds.length = n then F ds ce else .stuck := id rfl
/-! one turn of a loop, of a comprehension -/
def it1F (b : M Flow) : Option Cfg → Out Flow
  | none => .stuck
  | some c' => b c'
def it1 (k : TgF) (b : M Flow) (d : D) (c : Cfg) : Out Flow := it1F b (k d c)
theorem it1_some {b : M Flow} {c'} : it1F b (some c') = b c' := id rfl
def lcC : Out D → Out (Option D)
  | .ok y c3 => .ok (some y) c3
  | _ => .stuck
def lcB (e : M D) : Out Bool → Out (Option D)
  | .ok false c2 => .ok none c2
  | .ok true c2 => lcC (e c2)
  | _ => .stuck
def lcA (t : M Bool) (e : M D) : Option Cfg → Out (Option D)
  | none => .stuck
  | some c1 => lcB e (t c1)
def lc1 (k : TgF) (t : M Bool) (e : M D) (d : D) (c : Cfg) : Out (Option D) := lcA t e (k d c)
theorem lcC_ok {y c3} : lcC (.ok y c3) = .ok (some y) c3 := id rfl
theorem lcB_f {e : M D} {c2} : lcB e (.ok false c2) = .ok none c2 := id rfl
theorem lcB_t {e : M D} {c2} : lcB e (.ok true c2) = lcC (e c2) := id rfl
theorem lcB_b {e : M D} {b c2} : lcB e (.ok b c2) = if b = true then lcC (e c2) else .ok none c2 := by cases b <;> exact id rfl
theorem lcA_some {t : M Bool} {e : M D} {c1} : lcA t e (some c1) = lcB e (t c1) := id rfl
end Pl

end
section
set_option Elab.async false
set_option linter.all false
set_option maxRecDepth 100000
set_option exponentiation.threshold 1000000
/-! Pl3: comprehensions and loops. -/
namespace Pl
open TL
theorem lcL_cons {vs k t e d ds c} : lcL vs k t e (d :: ds) c = (match lc1 k t e d (wipeC vs c) with
    | .ok none c2 => lcL vs k t e ds c2
    | .ok (some y) c3 => (match lcL vs k t e ds c3 with | .ok ys c4 => .ok (y :: ys) c4 | _ => .stuck)
    | _ => .stuck) := by
  have e1 : lc1 k t e d (wipeC vs c) = (match k d (wipeC vs c) with
      | none => .stuck
      | some c1 => match t c1 with
        | .ok false c2 => .ok none c2
        | .ok true c2 => (match e c2 with
          | .ok y c3 => .ok (some y) c3
          | _ => .stuck)
        | _ => .stuck) := by
    unfold lc1
    cases k d (wipeC vs c) with
    | none => exact id rfl
    | some c1 =>
      unfold lcA
      simp only
      cases t c1 with
      | ok b c2 => cases b with
        | false => rfl
        | true => unfold lcB lcC; simp only <;> (cases e c2 <;> rfl)
      | _ => rfl
  rw [e1]
  show (match k d (wipeC vs c) with | none => Out.stuck | some c1 => _) = _
  cases k d (wipeC vs c) with
  | none => rfl
  | some c1 =>
    simp only
    cases t c1 with
    | ok b c2 => cases b with
      | false => rfl
      | true => simp only; cases e c2 <;> rfl
    | _ => rfl
theorem lcL_gen {vs k t e} {sl0 : List Sl} {G : List (List D) → Prop} {P : D → Option D → Prop} : ∀ (ds : List D) (c : Cfg), wipeL vs c.sl = sl0 → G c.ce →
    (∀ d ∈ ds, ∀ ce, G ce → ∃ o c3, lc1 k t e d ⟨sl0, ce⟩ = .ok o c3 ∧ wipeL vs c3.sl = sl0 ∧ G c3.ce ∧ P d o) →
    ∃ (os : List (Option D)) (c4 : Cfg), lcL vs k t e ds c = .ok (os.filterMap id) c4 ∧ wipeL vs c4.sl = sl0 ∧ G c4.ce ∧ os.length = ds.length ∧ (∀ (i : Nat) (d : D) (o : Option D), ds[i]? = some d → os[i]? = some o → P d o) := by
  intro ds
  induction ds with
  | nil => intro c h g _; exact ⟨[], c, rfl, h, g, rfl, fun i d o h => by simp at h⟩
  | cons d ds ih =>
    intro c h g hs
    obtain ⟨o, c3, e1, w1, g1, p1⟩ := hs d (List.mem_cons_self ..) c.ce g
    have e1 : lc1 k t e d (wipeC vs c) = .ok o c3 := by
      unfold wipeC; rw [h]; exact e1
    obtain ⟨os, c4, e2, w2, g2, l2, p2⟩ := ih c3 w1 g1 fun d' hd => hs d' (List.mem_cons_of_mem _ hd)
    refine ⟨o :: os, c4, ?_, w2, g2, by simp [l2], fun i d' o' h1 h2 => ?_⟩
    · rw [lcL_cons, e1]
      cases o with
      | none => simp [e2]
      | some y => simp [e2]
    · cases i with
      | zero => simp at h1 h2; subst h1 h2; exact p1
      | succ i => exact p2 i d' o' (by simpa using h1) (by simpa using h2)
theorem wipeL_len : ∀ (vs : List Nat) (a : List Sl), (wipeL vs a).length = a.length
  | [], _ => rfl
  | i :: vs, a => by simp [wipeL, wipeL_len vs a]
theorem restL_len : ∀ (vs : List Nat) (a b : List Sl), (restL vs a b).length = b.length
  | [], _, _ => rfl
  | i :: vs, a, b => by simp [restL, restL_len vs a b]
theorem restL_wipe (a : List Sl) : ∀ (vs : List Nat) (b : List Sl), restL vs a (wipeL vs b) = restL vs a b := by
  intro vs b
  have get : ∀ (us : List Nat) (b : List Sl) (j : Nat), (restL us a b)[j]? = if j ∈ us then (if j < b.length then some (match a[j]? with | some (.v d) => Sl.v d | _ => .no) else none) else b[j]? := by
    intro us
    induction us with
    | nil => intro b j; simp [restL]
    | cons i us ih =>
      intro b j
      rw [restL, List.getElem?_set]
      by_cases hij : i = j
      · subst hij; simp [restL_len] <;> rfl
      · rw [if_neg hij, ih]; simp [Ne.symm hij]
  have wg : ∀ (us : List Nat) (b : List Sl) (j : Nat), j ∉ us → (wipeL us b)[j]? = b[j]? := by
    intro us
    induction us with
    | nil => intro b j _; rfl
    | cons i us ih =>
      intro b j h
      rw [wipeL, List.getElem?_set, if_neg (fun e => h (by simp [e])), ih b j fun h' => h (by simp [h'])]
  apply List.ext_getElem?
  intro j
  rw [get, get, wipeL_len]
  split
  · rfl
  · rename_i h; rw [wg vs b j h]
/-- a comprehension whose parts change nothing -/
theorem lc_det {vs k t e} {mi : M (List D)} {c : Cfg} (ds : List D) (g : D → Option D) (hm : mi c = .ok ds c) (hl : ds.length ≤ 16777216)
    (hs : ∀ d ∈ ds, ∃ sl3, lc1 k t e d ⟨wipeL vs c.sl, c.ce⟩ = .ok (g d) ⟨sl3, c.ce⟩ ∧ wipeL vs sl3 = wipeL vs c.sl) :
    fLc vs mi k t e c = .ok (ds.filterMap g) ⟨restL vs c.sl c.sl, c.ce⟩ := by
  obtain ⟨os, c4, e1, w1, g1, l1, p1⟩ := lcL_gen (vs := vs) (k := k) (t := t) (e := e) (sl0 := wipeL vs c.sl) (G := fun ce => ce = c.ce) (P := fun d o => o = g d) ds c rfl rfl fun d hd ce hce => by
    subst hce
    obtain ⟨sl3, x, y⟩ := hs d hd
    exact ⟨_, _, x, y, rfl, rfl⟩
  have eo : os = ds.map g := by
    apply List.ext_getElem?
    intro i
    rw [List.getElem?_map]
    cases h : ds[i]? with
    | none =>
      have h := List.getElem?_eq_none_iff.mp h
      exact List.getElem?_eq_none (by omega)
    | some d =>
      have hi : i < os.length := by rw [l1]; exact (List.getElem?_eq_some_iff.mp h).1
      rw [List.getElem?_eq_getElem hi]
      exact congrArg some (p1 i d _ h (List.getElem?_eq_getElem hi))
  subst eo
  have ef : fLc vs mi k t e c = (match lcL vs k t e ds c with | .ok ys c2 => if sizeOk ys.length then .ok ys (restC vs c c2) else .stuck | _ => .stuck) := by
    unfold fLc M.bnd; rw [hm] <;> rfl
  rw [ef, e1]
  simp only
  have hsz : sizeOk ((ds.map g).filterMap id).length = true := by
    unfold sizeOk
    have := List.length_filterMap_le id (ds.map g)
    simp only [List.length_map] at this
    exact decide_eq_true (by omega)
  rw [if_pos hsz]
  have e4 : restC vs c c4 = ⟨restL vs c.sl c.sl, c.ce⟩ := by
    unfold restC
    have : restL vs c.sl c4.sl = restL vs c.sl c.sl := by rw [← restL_wipe, w1, restL_wipe]
    rw [this, ← g1]
  rw [e4, List.filterMap_map]
  rfl
def Hs (vs : List Nat) (sl : List Sl) (ce : List (List D)) (o : Option D) : Out (Option D) → Prop
  | .ok o' c3 => o' = o ∧ c3.ce = ce ∧ wipeL vs c3.sl = sl
  | _ => False
theorem hs_ok {vs sl ce o o' c3} : Hs vs sl ce o (.ok o' c3) = (o' = o ∧ c3.ce = ce ∧ wipeL vs c3.sl = sl) := rfl
theorem hs_of {vs sl ce o r} (h : Hs vs sl ce o r) : ∃ sl3, r = .ok o ⟨sl3, ce⟩ ∧ wipeL vs sl3 = sl := by
  cases r with
  | ok o' c3 =>
    obtain ⟨rfl, rfl, h⟩ := h
    exact ⟨c3.sl, rfl, h⟩
  | _ => exact h.elim
/-- over a list's image, none left out -/
theorem lc_map {α : Type} {vs k t e} {mi : M (List D)} {c : Cfg} (l : List α) (φ ψ : α → D) (hm : mi c = .ok (l.map φ) c) (hl : l.length ≤ 16777216)
    (hs : ∀ a ∈ l, Hs vs (wipeL vs c.sl) c.ce (some (ψ a)) (lc1 k t e (φ a) ⟨wipeL vs c.sl, c.ce⟩)) :
    fLc vs mi k t e c = .ok (l.map ψ) ⟨restL vs c.sl c.sl, c.ce⟩ := by
  cases l with
  | nil => exact lc_det [] (fun _ => none) hm (by simp) (fun d hd => by simp at hd)
  | cons a0 l0 =>
    have key : ∀ (l : List α) (c : Cfg) (sl0 : List Sl), wipeL vs c.sl = sl0 → (∀ a ∈ l, Hs vs sl0 c.ce (some (ψ a)) (lc1 k t e (φ a) ⟨sl0, c.ce⟩)) → ∃ c4, lcL vs k t e (l.map φ) c = .ok (l.map ψ) c4 ∧ wipeL vs c4.sl = sl0 ∧ c4.ce = c.ce := by
      intro l
      induction l with
      | nil => intro c sl0 h _; exact ⟨c, rfl, h, rfl⟩
      | cons a l ih =>
        intro c sl0 h hs
        obtain ⟨sl3, x, y⟩ := hs_of (hs a (List.mem_cons_self ..))
        obtain ⟨c4, e4, w4, g4⟩ := ih ⟨sl3, c.ce⟩ sl0 y fun b hb => hs b (List.mem_cons_of_mem _ hb)
        refine ⟨c4, ?_, w4, g4⟩
        rw [List.map_cons, lcL_cons]
        unfold wipeC
        rw [h, x]
        simp only
        rw [e4]
        rfl
    obtain ⟨c4, e4, w4, g4⟩ := key (a0 :: l0) c _ rfl hs
    have ef : fLc vs mi k t e c = (match lcL vs k t e ((a0 :: l0).map φ) c with | .ok ys c2 => if sizeOk ys.length then .ok ys (restC vs c c2) else .stuck | _ => .stuck) := by
      unfold fLc M.bnd; rw [hm] <;> rfl
    rw [ef, e4]
    simp only
    rw [if_pos (by unfold sizeOk; rw [List.length_map]; exact decide_eq_true hl)]
    have e5 : restC vs c c4 = ⟨restL vs c.sl c.sl, c.ce⟩ := by
      unfold restC
      have : restL vs c.sl c4.sl = restL vs c.sl c.sl := by rw [← restL_wipe, w4, restL_wipe]
      rw [this, ← g4]
    rw [e5]
/-- over a list's image, some left out -/
theorem lc_filt {α : Type} {vs k t e} {mi : M (List D)} {c : Cfg} (l : List α) (φ ψ : α → D) (p : α → Bool) (hm : mi c = .ok (l.map φ) c) (hl : l.length ≤ 16777216)
    (hs : ∀ a ∈ l, Hs vs (wipeL vs c.sl) c.ce (if p a = true then some (ψ a) else none) (lc1 k t e (φ a) ⟨wipeL vs c.sl, c.ce⟩)) :
    fLc vs mi k t e c = .ok ((l.filter p).map ψ) ⟨restL vs c.sl c.sl, c.ce⟩ := by
  have key : ∀ (l : List α) (c : Cfg) (sl0 : List Sl), wipeL vs c.sl = sl0 → (∀ a ∈ l, Hs vs sl0 c.ce (if p a = true then some (ψ a) else none) (lc1 k t e (φ a) ⟨sl0, c.ce⟩)) → ∃ c4, lcL vs k t e (l.map φ) c = .ok ((l.filter p).map ψ) c4 ∧ wipeL vs c4.sl = sl0 ∧ c4.ce = c.ce := by
    intro l
    induction l with
    | nil => intro c sl0 h _; exact ⟨c, rfl, h, rfl⟩
    | cons a l ih =>
      intro c sl0 h hs
      obtain ⟨sl3, x, y⟩ := hs_of (hs a (List.mem_cons_self ..))
      obtain ⟨c4, e4, w4, g4⟩ := ih ⟨sl3, c.ce⟩ sl0 y fun b hb => hs b (List.mem_cons_of_mem _ hb)
      refine ⟨c4, ?_, w4, g4⟩
      rw [List.map_cons, lcL_cons]
      unfold wipeC
      rw [h, x]
      by_cases hp : p a = true
      · rw [if_pos hp]
        simp only
        rw [e4, List.filter_cons_of_pos hp]
        rfl
      · rw [if_neg hp]
        simp only
        rw [e4, List.filter_cons_of_neg hp]
  obtain ⟨c4, e4, w4, g4⟩ := key l c _ rfl hs
  have ef : fLc vs mi k t e c = (match lcL vs k t e (l.map φ) c with | .ok ys c2 => if sizeOk ys.length then .ok ys (restC vs c c2) else .stuck | _ => .stuck) := by
    unfold fLc M.bnd; rw [hm] <;> rfl
  rw [ef, e4]
  simp only
  rw [if_pos (by unfold sizeOk; rw [List.length_map]; exact decide_eq_true (Nat.le_trans (List.length_filter_le ..) hl))]
  have e5 : restC vs c c4 = ⟨restL vs c.sl c.sl, c.ce⟩ := by
    unfold restC
    have : restL vs c.sl c4.sl = restL vs c.sl c.sl := by rw [← restL_wipe, w4, restL_wipe]
    rw [this, ← g4]
  rw [e5]
theorem sIx_last (n d : Nat) : HT.sIx n d (some (-1)) = n - 1 := by
  show (if (-1 : Int) < 0 then ((-1 : Int) + (n : Int)).toNat else min (-1 : Int).toNat n) = n - 1
  rw [if_pos (by decide)]; omega
theorem cut_drop (xs : List D) (k : Nat) : cutD xs (some (k : Int)) none = xs.drop k := by
  unfold cutD
  rw [HT.sIx_nat, HT.sIx_none]
  by_cases h : k ≤ xs.length
  · rw [Nat.min_eq_left h, List.take_of_length_le (by simp)]
  · rw [Nat.min_eq_right (by omega), List.drop_eq_nil_of_le (Nat.le_refl _), List.drop_eq_nil_of_le (by omega)]; simp
theorem cut_take (xs : List D) (k : Nat) : cutD xs none (some (k : Int)) = xs.take k := by
  unfold cutD
  rw [HT.sIx_nat, HT.sIx_none, List.drop_zero, Nat.sub_zero]
  by_cases h : k ≤ xs.length
  · rw [Nat.min_eq_left h]
  · rw [Nat.min_eq_right (by omega), List.take_of_length_le (Nat.le_refl _), List.take_of_length_le (by omega)]
theorem cut_last (xs : List D) : cutD xs none (some (-1)) = xs.dropLast := by
  unfold cutD
  rw [sIx_last, HT.sIx_none, List.drop_zero, Nat.sub_zero, List.dropLast_eq_take]
theorem atI_nat {α : Type} (xs : List α) (k : Nat) : L2.atI xs (k : Int) = xs[k]? := by
  unfold L2.atI L2.ixN
  rw [if_pos (by omega)]
  by_cases h : k < xs.length
  · rw [if_pos (by omega)]; simp
  · rw [if_neg (by omega), List.getElem?_eq_none (by omega)]; rfl
theorem atI_last {α : Type} (xs : List α) : L2.atI xs (-1) = xs.getLast? := by
  unfold L2.atI L2.ixN
  rw [if_neg (by decide), List.getLast?_eq_getElem?]
  by_cases h : xs = []
  · subst h; rfl
  · have : 0 < xs.length := List.length_pos_iff.mpr h
    rw [if_pos (by omega)]
    show xs[_]? = _
    congr 1
    omega
def Fs (R : Cfg → Prop) : Out Flow → Prop
  | .ok .nx c2 => R c2
  | .ok .ct c2 => R c2
  | _ => False
theorem fs_nx {R c} : Fs R (.ok .nx c) = R c := rfl
theorem fs_ct {R c} : Fs R (.ok .ct c) = R c := rfl
theorem forL_cons {k b d ds c} : forL k b (d :: ds) c = (match it1 k b d c with
      | .ok .nx c2 => forL k b ds c2
      | .ok .ct c2 => forL k b ds c2
      | .ok .bk c2 => .ok .nx c2
      | .ok (.rt r) c2 => .ok (.rt r) c2
      | .err x c2 => .err x c2
      | .stuck => .stuck) := by
  show (match k d c with | none => Out.stuck | some c' => _) = _
  unfold it1
  cases k d c <;> rfl
/-- a for loop over a list's image, as a fold -/
theorem for_map {α S : Type} {k : TgF} {b : M Flow} (l : List α) (φ : α → D) (R : S → Cfg → Prop) (step : S → α → S) (s0 : S) {c : Cfg} (h0 : R s0 c)
    (hs : ∀ pre a post c, l = pre ++ a :: post → R (pre.foldl step s0) c → Fs (R (step (pre.foldl step s0) a)) (it1 k b (φ a) c)) :
    ∃ c', forL k b (l.map φ) c = .ok .nx c' ∧ R (l.foldl step s0) c' := by
  have key : ∀ (post pre : List α) (c : Cfg), l = pre ++ post → R (pre.foldl step s0) c → ∃ c', forL k b (post.map φ) c = .ok .nx c' ∧ R (l.foldl step s0) c' := by
    intro post
    induction post with
    | nil => intro pre c e h; exact ⟨c, rfl, by rw [e, List.append_nil]; exact h⟩
    | cons a post ih =>
      intro pre c e h
      have h1 := hs pre a post c e h
      rw [List.map_cons, forL_cons]
      have go : ∀ c2, R (step (pre.foldl step s0) a) c2 → ∃ c', forL k b (post.map φ) c2 = .ok .nx c' ∧ R (l.foldl step s0) c' := fun c2 h2 =>
        ih (pre ++ [a]) c2 (by rw [e]; simp) (by rw [List.foldl_append]; exact h2)
      cases e1 : it1 k b (φ a) c with
      | ok f c2 =>
        rw [e1] at h1
        cases f with
        | nx => exact go c2 h1
        | ct => exact go c2 h1
        | _ => exact h1.elim
      | err x c2 => rw [e1] at h1; exact h1.elim
      | stuck => rw [e1] at h1; exact h1.elim
  exact key l [] c rfl h0
/-- a for loop, by an invariant over what it has gone through -/
theorem for_inv {k : TgF} {b : M Flow} {I : List D → Cfg → Prop} : ∀ (ds pre : List D) (c : Cfg), I pre c →
    (∀ pre' d post c, pre ++ ds = pre' ++ d :: post → I pre' c → ∃ c1 c2, k d c = some c1 ∧ b c1 = .ok .nx c2 ∧ I (pre' ++ [d]) c2) →
    ∃ c', forL k b ds c = .ok .nx c' ∧ I (pre ++ ds) c' := by
  intro ds
  induction ds with
  | nil => intro pre c h _; exact ⟨c, rfl, by simpa using h⟩
  | cons d ds ih =>
    intro pre c h hs
    obtain ⟨c1, c2, e1, e2, i2⟩ := hs pre d ds c rfl h
    obtain ⟨c', e3, i3⟩ := ih (pre ++ [d]) c2 i2 fun pre' d' post c e i => hs pre' d' post c (by rw [← e]; simp) i
    refine ⟨c', ?_, by simpa using i3⟩
    show (match k d c with | none => Out.stuck | some c' => _) = _
    rw [e1]
    simp only [e2]
    exact e3
end Pl

end
section
set_option Elab.async false
set_option linter.all false
set_option maxRecDepth 100000
set_option maxHeartbeats 0
/-! Pl4: rows of ratios, doubled products, tables: plain mathematics. -/
namespace Pl
def plusR (x y : List Rat) : List Rat := x.zipWith (· + ·) y
def minusR (x y : List Rat) : List Rat := x.zipWith (· - ·) y
def scaleR (c : Rat) (x : List Rat) : List Rat := x.map (c * ·)
def dotR (x y : List Rat) : Rat := (x.zipWith (· * ·) y).sum
theorem mem_zipWith {f : Rat → Rat → Rat} {x y : List Rat} {q : Rat} (h : q ∈ x.zipWith f y) : ∃ a ∈ x, ∃ b ∈ y, q = f a b := by
  induction x generalizing y with
  | nil => simp at h
  | cons a x ih => cases y with
    | nil => simp at h
    | cons b y =>
      rw [List.zipWith_cons_cons, List.mem_cons] at h
      rcases h with rfl | h
      · exact ⟨a, by simp, b, by simp, rfl⟩
      · obtain ⟨a', h1, b', h2, h3⟩ := ih h
        exact ⟨a', by simp [h1], b', by simp [h2], h3⟩
def flipR (x : List Rat) : List Rat := match x with
  | [] => []
  | a :: r => a :: r.map (-·)
/-- the doubled product; the steps backwards -/
def pairR : List Rat → List Rat → List Rat → List Rat
  | [], x, y => [x.headD 0 * y.headD 0]
  | g :: low, x, y =>
    let h := x.length / 2
    let a := x.take h
    let b := x.drop h
    let c := y.take h
    let d := y.drop h
    plusR (pairR low a c) (scaleR g (pairR low (flipR d) b)) ++ plusR (pairR low d a) (pairR low b (flipR c))
theorem flipR_len (x : List Rat) : (flipR x).length = x.length := by cases x <;> simp [flipR]
theorem plusR_len (x y : List Rat) : (plusR x y).length = min x.length y.length := by simp [plusR]
theorem scaleR_len (c : Rat) (y : List Rat) : (scaleR c y).length = y.length := by simp [scaleR]
theorem pairR_len : ∀ (s x y : List Rat), x.length = 2 ^ s.length → y.length = 2 ^ s.length → (pairR s x y).length = 2 ^ s.length
  | [], x, y, _, _ => rfl
  | g :: low, x, y, hx, hy => by
    rw [List.length_cons, Nat.pow_succ] at *
    have h1 : (x.take (x.length / 2)).length = 2 ^ low.length := by rw [List.length_take]; omega
    have h2 : (x.drop (x.length / 2)).length = 2 ^ low.length := by rw [List.length_drop]; omega
    have h3 : (y.take (x.length / 2)).length = 2 ^ low.length := by rw [List.length_take]; omega
    have h4 : (y.drop (x.length / 2)).length = 2 ^ low.length := by rw [List.length_drop]; omega
    unfold pairR
    simp only [List.length_append, plusR_len, scaleR_len]
    rw [pairR_len low _ _ h1 h3, pairR_len low _ _ (by rw [flipR_len]; exact h4) h2, pairR_len low _ _ h4 h1, pairR_len low _ _ h2 (by rw [flipR_len]; exact h3)]
    omega
def spR (r : List Rat) : List (Rat × Nat) := r.zipIdx.filter fun p => decide (p.1 ≠ 0)
theorem spR_mem {r : List Rat} {p : Rat × Nat} (h : p ∈ spR r) : p.1 ∈ r ∧ p.2 < r.length := by
  have h := (List.mem_filter.mp h).1
  have := List.mem_zipIdx h
  simp at this
  exact ⟨by rw [this.2]; exact List.getElem_mem _, by omega⟩
theorem spR_len (r : List Rat) : (spR r).length ≤ r.length := by
  unfold spR
  exact Nat.le_trans (List.length_filter_le ..) (by simp)
abbrev Tb3 := List (List (List Rat))
/-- c times the sparse row r, added to f -/
def gd (f : List Rat) (k : Nat) : Rat := f.getD k 0
def stepSp (c : Rat) (f : List Rat) (p : Rat × Nat) : List Rat := f.set p.2 (gd f p.2 + c * p.1)
def addSp (c : Rat) (f : List Rat) (r : List (Rat × Nat)) : List Rat := r.foldl (stepSp c) f
theorem addSp_len (c : Rat) (r : List (Rat × Nat)) : ∀ f, (addSp c f r).length = f.length := by
  induction r with
  | nil => intro f; rfl
  | cons p r ih => intro f; show (addSp c _ r).length = _; rw [ih]; simp [stepSp]
theorem addSp_get (c : Rat) : ∀ (r : List Rat) (k : Nat) (f : List Rat), r.length + k ≤ f.length → ∀ j, (addSp c f ((r.zipIdx k).filter fun p => decide (p.1 ≠ 0))).getD j 0 = if k ≤ j then f.getD j 0 + c * r.getD (j - k) 0 else f.getD j 0 := by
  intro r
  induction r with
  | nil => intro k f _ j; simp [addSp]; intro _; grind
  | cons a r ih =>
    intro k f h j
    rw [List.zipIdx_cons, List.filter_cons]
    have hk : k < f.length := by simp at h; omega
    by_cases ha : a = 0
    · rw [if_neg (by simp [ha]), ih (k + 1) f (by simp at h; omega) j]
      subst ha
      by_cases h1 : k + 1 ≤ j
      · rw [if_pos h1, if_pos (by omega), show j - k = (j - (k + 1)) + 1 by omega, List.getD_cons_succ]
      · rw [if_neg h1]
        by_cases h2 : k ≤ j
        · obtain rfl : j = k := by omega
          simp; grind
        · rw [if_neg h2]
    · rw [if_pos (by simp [ha])]
      show (addSp c (f.set k (f.getD k 0 + c * a)) _).getD j 0 = _
      rw [ih (k + 1) _ (by simp at h ⊢; omega) j]
      by_cases h1 : k + 1 ≤ j
      · rw [if_pos h1, if_pos (by omega), show j - k = (j - (k + 1)) + 1 by omega, List.getD_cons_succ]
        congr 1
        rw [List.getD_eq_getElem?_getD, List.getElem?_set_ne (by omega), ← List.getD_eq_getElem?_getD]
      · rw [if_neg h1]
        by_cases h2 : k ≤ j
        · obtain rfl : j = k := by omega
          rw [if_pos h2]
          rw [List.getD_eq_getElem?_getD, List.getElem?_set_self hk]
          simp
        · rw [if_neg h2]
          rw [List.getD_eq_getElem?_getD, List.getElem?_set_ne (by omega), ← List.getD_eq_getElem?_getD]
theorem addSp_row (c : Rat) (f r : List Rat) (h : r.length = f.length) : addSp c f (spR r) = plusR f (scaleR c r) := by
  apply List.ext_getElem?
  intro j
  by_cases hj : j < f.length
  · have e := addSp_get c r 0 f (by omega) j
    rw [if_pos (Nat.zero_le _), Nat.sub_zero] at e
    have l1 : j < (addSp c f (spR r)).length := by rw [addSp_len]; exact hj
    have l2 : j < (plusR f (scaleR c r)).length := by rw [plusR_len, scaleR_len]; omega
    rw [List.getElem?_eq_getElem l1, List.getElem?_eq_getElem l2]
    have e1 : (addSp c f (spR r)).getD j 0 = (addSp c f (spR r))[j] := by rw [List.getD_eq_getElem?_getD, List.getElem?_eq_getElem l1]; rfl
    rw [← e1]
    show some ((addSp c f (List.filter _ (r.zipIdx 0))).getD j 0) = _
    rw [e]
    simp only [plusR, scaleR, List.getElem_zipWith, List.getElem_map]
    rw [List.getD_eq_getElem?_getD, List.getElem?_eq_getElem hj, List.getD_eq_getElem?_getD, List.getElem?_eq_getElem (by omega)]
    rfl
  · rw [List.getElem?_eq_none (by rw [addSp_len]; omega), List.getElem?_eq_none (by rw [plusR_len, scaleR_len]; omega)]
def rowT (T : Tb3) (i j : Nat) : List Rat := (T.getD i []).getD j []
structure TabOk (n : Nat) (T : Tb3) : Prop where
  len : T.length = n
  line : ∀ l ∈ T, l.length = n
  row : ∀ l ∈ T, ∀ r ∈ l, r.length = n
theorem TabOk.at {m : Nat} {T : Tb3} (h : TabOk m T) {i j : Nat} (hi : i < m) (hj : j < m) : ∃ l, T[i]? = some l ∧ l ∈ T ∧ l[j]? = some (rowT T i j) ∧ rowT T i j ∈ l := by
  have h1 : i < T.length := by rw [h.len]; exact hi
  have e : T[i]? = some T[i] := List.getElem?_eq_getElem h1
  have hm : T[i] ∈ T := List.getElem_mem h1
  have h2 : j < T[i].length := by rw [h.line _ hm]; exact hj
  have e2 : rowT T i j = T[i][j] := by
    unfold rowT
    have e3 : List.getD T i [] = T[i] := by rw [List.getD_eq_getElem?_getD (l := T), e]; rfl
    rw [e3, List.getD_eq_getElem?_getD, List.getElem?_eq_getElem h2, Option.getD_some]
  exact ⟨T[i], e, hm, by rw [e2]; exact List.getElem?_eq_getElem h2, by rw [e2]; exact List.getElem_mem h2⟩
def midS (T : Tb3) (i : Nat) (a : Rat) (f : List Rat) (q : Rat × Nat) : List Rat := if q.1 = 0 then f else addSp (a * q.1) f (spR (rowT T i q.2))
theorem midS_len (T : Tb3) (i : Nat) (a : Rat) (f : List Rat) (q) : (midS T i a f q).length = f.length := by
  unfold midS; split
  · rfl
  · exact addSp_len ..
theorem mid_len (T : Tb3) (i : Nat) (a : Rat) : ∀ (l : List (Rat × Nat)) (f : List Rat), (l.foldl (midS T i a) f).length = f.length := by
  intro l
  induction l with
  | nil => intro f; rfl
  | cons q l ih => intro f; rw [List.foldl_cons, ih, midS_len]
def outS (T : Tb3) (y : List Rat) (f : List Rat) (p : Rat × Nat) : List Rat := if p.1 = 0 then f else y.zipIdx.foldl (midS T p.2 p.1) f
theorem out_len (T : Tb3) (y : List Rat) : ∀ (l : List (Rat × Nat)) (f : List Rat), (l.foldl (outS T y) f).length = f.length := by
  intro l
  induction l with
  | nil => intro f; rfl
  | cons q l ih =>
    intro f
    rw [List.foldl_cons, ih]
    unfold outS
    split
    · rfl
    · exact mid_len ..
def timesS (T : Tb3) (m : Nat) (x y : List Rat) : List Rat := x.zipIdx.foldl (outS T y) (List.replicate m 0)
end Pl

end
section
set_option Elab.async false
set_option linter.all false
set_option maxRecDepth 100000
set_option maxHeartbeats 0
/-! Pl5: the doubled product is told by its units. -/
namespace Pl
theorem plusR_app {a b c d : List Rat} (h : a.length = c.length) : plusR (a ++ b) (c ++ d) = plusR a c ++ plusR b d := by
  unfold plusR; rw [List.zipWith_append h]
theorem scaleR_app {c : Rat} {a b : List Rat} : scaleR c (a ++ b) = scaleR c a ++ scaleR c b := by
  unfold scaleR; rw [List.map_append]
theorem plusR_swap : ∀ (a b c d : List Rat), plusR (plusR a b) (plusR c d) = plusR (plusR a c) (plusR b d)
  | [], _, _, _ => by simp [plusR]
  | _ :: _, [], _, _ => by simp [plusR]
  | _ :: _, _ :: _, [], _ => by simp [plusR]
  | _ :: _, _ :: _, _ :: _, [] => by simp [plusR]
  | x :: a, y :: b, z :: c, w :: d => by
    have := plusR_swap a b c d
    unfold plusR at *
    simp only [List.zipWith_cons_cons, this]
    congr 1; grind
theorem plusR_assoc : ∀ (a b c : List Rat), plusR (plusR a b) c = plusR a (plusR b c)
  | [], _, _ => by simp [plusR]
  | _ :: _, [], _ => by simp [plusR]
  | _ :: _, _ :: _, [] => by simp [plusR]
  | x :: a, y :: b, z :: c => by
    have := plusR_assoc a b c
    unfold plusR at *
    simp only [List.zipWith_cons_cons, this]
    congr 1; grind
theorem scaleR_plus (c : Rat) : ∀ (a b : List Rat), scaleR c (plusR a b) = plusR (scaleR c a) (scaleR c b)
  | [], _ => by simp [plusR, scaleR]
  | _ :: _, [] => by simp [plusR, scaleR]
  | x :: a, y :: b => by
    have := scaleR_plus c a b
    unfold plusR scaleR at *
    simp only [List.zipWith_cons_cons, List.map_cons, this]
    congr 1; grind
theorem scaleR_scale (c d : Rat) (a : List Rat) : scaleR c (scaleR d a) = scaleR (c * d) a := by
  unfold scaleR; rw [List.map_map]; congr 1; funext x; simp only [Function.comp]; grind
theorem scaleR_comm (c d : Rat) (a : List Rat) : scaleR c (scaleR d a) = scaleR d (scaleR c a) := by
  rw [scaleR_scale, scaleR_scale, Rat.mul_comm]
theorem flipR_plus : ∀ (a b : List Rat), flipR (plusR a b) = plusR (flipR a) (flipR b)
  | [], _ => by simp [plusR, flipR]
  | _ :: _, [] => by simp [plusR, flipR]
  | x :: a, y :: b => by
    have : ∀ a b : List Rat, (List.zipWith (· + ·) a b).map (-·) = List.zipWith (· + ·) (a.map (-·)) (b.map (-·)) := by
      intro a
      induction a with
      | nil => intro b; rfl
      | cons x a ih => intro b; cases b with
        | nil => rfl
        | cons y b => simp [ih, Rat.neg_add]
    simp [plusR, flipR, this]
theorem flipR_scale (c : Rat) : ∀ (a : List Rat), flipR (scaleR c a) = scaleR c (flipR a)
  | [] => rfl
  | x :: a => by
    simp only [flipR, scaleR, List.map_cons, List.map_map]
    congr 1
    apply List.map_congr_left
    intro y _
    simp only [Function.comp]; grind
theorem take_plusR (k : Nat) (a b : List Rat) : (plusR a b).take k = plusR (a.take k) (b.take k) := by
  unfold plusR; rw [List.take_zipWith]
theorem drop_plusR (k : Nat) (a b : List Rat) : (plusR a b).drop k = plusR (a.drop k) (b.drop k) := by
  unfold plusR; rw [List.drop_zipWith]
theorem take_scaleR (k : Nat) (c : Rat) (a : List Rat) : (scaleR c a).take k = scaleR c (a.take k) := by
  unfold scaleR; rw [List.map_take]
theorem drop_scaleR (k : Nat) (c : Rat) (a : List Rat) : (scaleR c a).drop k = scaleR c (a.drop k) := by
  unfold scaleR; rw [List.map_drop]
mutual
theorem pairR_addl : ∀ (s x x' y : List Rat), x.length = 2 ^ s.length → x'.length = 2 ^ s.length → y.length = 2 ^ s.length → pairR s (plusR x x') y = plusR (pairR s x y) (pairR s x' y)
  | [], x, x', y, hx, hx', hy => by
    match x, x', hx, hx' with
    | [a], [b], _, _ => simp [pairR, plusR]; grind
  | g :: s, x, x', y, hx, hx', hy => by
    rw [List.length_cons, Nat.pow_succ] at *
    have lp : (plusR x x').length = x.length := by rw [plusR_len]; omega
    have t1 : (x.take (x.length / 2)).length = 2 ^ s.length := by rw [List.length_take]; omega
    have t2 : (x.drop (x.length / 2)).length = 2 ^ s.length := by rw [List.length_drop]; omega
    have t3 : (y.take (x.length / 2)).length = 2 ^ s.length := by rw [List.length_take]; omega
    have t4 : (y.drop (x.length / 2)).length = 2 ^ s.length := by rw [List.length_drop]; omega
    have t5 : (x'.take (x.length / 2)).length = 2 ^ s.length := by rw [List.length_take]; omega
    have t6 : (x'.drop (x.length / 2)).length = 2 ^ s.length := by rw [List.length_drop]; omega
    have f3 := (flipR_len (y.take (x.length / 2))).trans t3
    have f4 := (flipR_len (y.drop (x.length / 2))).trans t4
    unfold pairR
    simp only [lp, show x'.length = x.length by omega, take_plusR, drop_plusR]
    rw [pairR_addl s _ _ _ t1 t5 t3, pairR_addr s _ _ _ f4 t2 t6, pairR_addr s _ _ _ t4 t1 t5, pairR_addl s _ _ _ t2 t6 f3, scaleR_plus, plusR_swap, plusR_swap (pairR s (y.drop _) _), plusR_app]
    simp only [plusR_len, scaleR_len, pairR_len s _ _ t1 t3, pairR_len s _ _ t5 t3, pairR_len s _ _ f4 t2, pairR_len s _ _ f4 t6]
theorem pairR_addr : ∀ (s z x x' : List Rat), z.length = 2 ^ s.length → x.length = 2 ^ s.length → x'.length = 2 ^ s.length → pairR s z (plusR x x') = plusR (pairR s z x) (pairR s z x')
  | [], z, x, x', hz, hx, hx' => by
    match x, x', hx, hx' with
    | [a], [b], _, _ => simp [pairR, plusR]; grind
  | g :: s, z, x, x', hz, hx, hx' => by
    rw [List.length_cons, Nat.pow_succ] at *
    have t1 : (z.take (z.length / 2)).length = 2 ^ s.length := by rw [List.length_take]; omega
    have t2 : (z.drop (z.length / 2)).length = 2 ^ s.length := by rw [List.length_drop]; omega
    have t3 : (x.take (z.length / 2)).length = 2 ^ s.length := by rw [List.length_take]; omega
    have t4 : (x.drop (z.length / 2)).length = 2 ^ s.length := by rw [List.length_drop]; omega
    have t5 : (x'.take (z.length / 2)).length = 2 ^ s.length := by rw [List.length_take]; omega
    have t6 : (x'.drop (z.length / 2)).length = 2 ^ s.length := by rw [List.length_drop]; omega
    have f3 := (flipR_len (x.take (z.length / 2))).trans t3
    have f4 := (flipR_len (x.drop (z.length / 2))).trans t4
    have f5 := (flipR_len (x'.take (z.length / 2))).trans t5
    have f6 := (flipR_len (x'.drop (z.length / 2))).trans t6
    unfold pairR
    simp only [take_plusR, drop_plusR, flipR_plus]
    rw [pairR_addr s _ _ _ t1 t3 t5, pairR_addl s _ _ _ f4 f6 t2, pairR_addl s _ _ _ t4 t6 t1, pairR_addr s _ _ _ t2 f3 f5, scaleR_plus, plusR_swap, plusR_swap (pairR s (x.drop _) _), plusR_app]
    simp only [plusR_len, scaleR_len, pairR_len s _ _ t1 t3, pairR_len s _ _ t1 t5, pairR_len s _ _ f4 t2, pairR_len s _ _ f6 t2]
end
mutual
theorem pairR_scl : ∀ (c : Rat) (s x y : List Rat), x.length = 2 ^ s.length → y.length = 2 ^ s.length → pairR s (scaleR c x) y = scaleR c (pairR s x y)
  | c, [], x, y, hx, hy => by
    match x, hx with
    | [a], _ => simp [pairR, scaleR]; grind
  | c, g :: s, x, y, hx, hy => by
    rw [List.length_cons, Nat.pow_succ] at *
    have t1 : (x.take (x.length / 2)).length = 2 ^ s.length := by rw [List.length_take]; omega
    have t2 : (x.drop (x.length / 2)).length = 2 ^ s.length := by rw [List.length_drop]; omega
    have t3 : (y.take (x.length / 2)).length = 2 ^ s.length := by rw [List.length_take]; omega
    have t4 : (y.drop (x.length / 2)).length = 2 ^ s.length := by rw [List.length_drop]; omega
    have f3 := (flipR_len (y.take (x.length / 2))).trans t3
    have f4 := (flipR_len (y.drop (x.length / 2))).trans t4
    unfold pairR
    simp only [scaleR_len, take_scaleR, drop_scaleR]
    rw [pairR_scl c s _ _ t1 t3, pairR_scr c s _ _ f4 t2, pairR_scr c s _ _ t4 t1, pairR_scl c s _ _ t2 f3, scaleR_comm g c, ← scaleR_plus, ← scaleR_plus, scaleR_app]
theorem pairR_scr : ∀ (c : Rat) (s x y : List Rat), x.length = 2 ^ s.length → y.length = 2 ^ s.length → pairR s x (scaleR c y) = scaleR c (pairR s x y)
  | c, [], x, y, hx, hy => by
    match y, hy with
    | [a], _ => simp [pairR, scaleR]; grind
  | c, g :: s, x, y, hx, hy => by
    rw [List.length_cons, Nat.pow_succ] at *
    have t1 : (x.take (x.length / 2)).length = 2 ^ s.length := by rw [List.length_take]; omega
    have t2 : (x.drop (x.length / 2)).length = 2 ^ s.length := by rw [List.length_drop]; omega
    have t3 : (y.take (x.length / 2)).length = 2 ^ s.length := by rw [List.length_take]; omega
    have t4 : (y.drop (x.length / 2)).length = 2 ^ s.length := by rw [List.length_drop]; omega
    have f3 := (flipR_len (y.take (x.length / 2))).trans t3
    have f4 := (flipR_len (y.drop (x.length / 2))).trans t4
    unfold pairR
    simp only [take_scaleR, drop_scaleR, flipR_scale]
    rw [pairR_scr c s _ _ t1 t3, pairR_scl c s _ _ f4 t2, pairR_scl c s _ _ t4 t1, pairR_scr c s _ _ t2 f3, scaleR_comm g c, ← scaleR_plus, ← scaleR_plus, scaleR_app]
end
end Pl

end
section
set_option Elab.async false
set_option linter.all false
set_option maxRecDepth 100000
set_option maxHeartbeats 0
/-! Pl6: times by the table of the units is the doubled product. -/
namespace Pl
def unitR (m k : Nat) : List Rat := (List.range m).map fun j => if j = k then 1 else 0
def zeroR (m : Nat) : List Rat := List.replicate m 0
theorem unitR_len (m k : Nat) : (unitR m k).length = m := by simp [unitR]
theorem unit_step (pre : List Rat) (r : Nat) (a : Rat) : plusR (pre ++ 0 :: zeroR r) (scaleR a (unitR (pre.length + (r + 1)) pre.length)) = pre ++ a :: zeroR r := by
  unfold plusR scaleR unitR zeroR
  apply List.ext_getElem
  · simp
  · intro j h1 h2
    simp only [List.getElem_zipWith, List.getElem_map, List.getElem_range]
    by_cases h : j < pre.length
    · rw [List.getElem_append_left h, List.getElem_append_left h, if_neg (by omega)]; grind
    · by_cases e : j = pre.length
      · subst e
        simp [Rat.zero_add, Rat.mul_one]
      · rw [if_neg e, List.getElem_append_right (by omega), List.getElem_append_right (by omega)]
        have : ∃ i, j - pre.length = i + 1 := ⟨j - pre.length - 1, by omega⟩
        obtain ⟨i, hi⟩ := this
        simp only [hi, List.getElem_cons_succ, List.getElem_replicate]; grind
theorem span {A : List Rat → List Rat} {B : Nat → List Rat} {m : Nat} (hA : ∀ u c k, u.length = m → k < m → A (plusR u (scaleR c (unitR m k))) = plusR (A u) (scaleR c (B k))) :
    ∀ (suf pre : List Rat), pre.length + suf.length = m → (suf.zipIdx pre.length).foldl (fun f p => plusR f (scaleR p.1 (B p.2))) (A (pre ++ zeroR suf.length)) = A (pre ++ suf)
  | [], pre, h => by simp [zeroR]
  | a :: suf, pre, h => by
    rw [List.zipIdx_cons, List.foldl_cons]
    have h' : pre.length + (suf.length + 1) = m := by simpa using h
    have e : plusR (A (pre ++ zeroR (a :: suf).length)) (scaleR a (B pre.length)) = A ((pre ++ [a]) ++ zeroR suf.length) := by
      rw [← hA _ _ _ (by simp [zeroR]; omega) (by omega), List.append_assoc, List.singleton_append, ← unit_step pre suf.length a, h']; rfl
    have ih := span hA suf (pre ++ [a]) (by simp; omega)
    simp only at e ⊢
    rw [e]
    rw [List.length_append] at ih
    simp only [List.length_cons, List.length_nil, Nat.zero_add] at ih
    rw [ih]; simp
theorem span0 {A : List Rat → List Rat} {B : Nat → List Rat} {m : Nat} (hA : ∀ u c k, u.length = m → k < m → A (plusR u (scaleR c (unitR m k))) = plusR (A u) (scaleR c (B k))) (x : List Rat) (hx : x.length = m) :
    x.zipIdx.foldl (fun f p => plusR f (scaleR p.1 (B p.2))) (A (zeroR m)) = A x := by
  have := span hA x [] (by simpa using hx)
  rw [hx] at this
  exact this
theorem fold_inv {α β : Type} {P : β → Prop} {g g' : β → α → β} : ∀ (l : List α) (f : β), P f → (∀ f p, p ∈ l → P f → g f p = g' f p ∧ P (g' f p)) → l.foldl g f = l.foldl g' f
  | [], _, _, _ => rfl
  | a :: l, f, h, hs => by
    obtain ⟨h1, h2⟩ := hs f a (List.mem_cons_self ..) h
    rw [List.foldl_cons, List.foldl_cons, h1]
    exact fold_inv l _ h2 fun f p hp => hs f p (List.mem_cons_of_mem _ hp)
theorem plusR_zero {f r : List Rat} (h : r.length = f.length) : plusR f (scaleR 0 r) = f := by
  apply List.ext_getElem
  · simp [plusR, scaleR, h]
  · intro j h1 h2
    simp [plusR, scaleR, Rat.zero_mul, Rat.add_zero]
theorem scale_zero {r : List Rat} : scaleR 0 r = zeroR r.length := by
  apply List.ext_getElem
  · simp [scaleR, zeroR]
  · intro j h1 h2
    simp [scaleR, zeroR, Rat.zero_mul]
def tableR (s : List Rat) : Tb3 := (List.range (2 ^ s.length)).map fun i => (List.range (2 ^ s.length)).map fun j => pairR s (unitR (2 ^ s.length) i) (unitR (2 ^ s.length) j)
theorem tableR_ok (s : List Rat) : TabOk (2 ^ s.length) (tableR s) where
  len := by simp [tableR]
  line := by
    intro l hl
    obtain ⟨i, _, rfl⟩ := List.mem_map.mp hl
    simp
  row := by
    intro l hl r hr
    obtain ⟨i, _, rfl⟩ := List.mem_map.mp hl
    obtain ⟨j, _, rfl⟩ := List.mem_map.mp hr
    exact pairR_len s _ _ (unitR_len ..) (unitR_len ..)
theorem tableR_row (s : List Rat) {i j : Nat} (hi : i < 2 ^ s.length) (hj : j < 2 ^ s.length) : rowT (tableR s) i j = pairR s (unitR (2 ^ s.length) i) (unitR (2 ^ s.length) j) := by
  unfold rowT tableR
  rw [List.getD_eq_getElem?_getD, List.getD_eq_getElem?_getD]
  simp [List.getElem?_map, hi, hj]
theorem pair_zero_r (s x : List Rat) (hx : x.length = 2 ^ s.length) : pairR s x (zeroR (2 ^ s.length)) = zeroR (2 ^ s.length) := by
  have h := pairR_scr 0 s x (unitR (2 ^ s.length) 0) hx (unitR_len ..)
  rw [scale_zero, scale_zero, unitR_len, pairR_len s _ _ hx (unitR_len ..)] at h
  exact h
theorem pair_zero_l (s y : List Rat) (hy : y.length = 2 ^ s.length) : pairR s (zeroR (2 ^ s.length)) y = zeroR (2 ^ s.length) := by
  have h := pairR_scl 0 s (unitR (2 ^ s.length) 0) y (unitR_len ..) hy
  rw [scale_zero, scale_zero, unitR_len, pairR_len s _ _ (unitR_len ..) hy] at h
  exact h
theorem mem_zi {x : List Rat} {q : Rat × Nat} (h : q ∈ x.zipIdx) : q.2 < x.length := by
  have := List.mem_zipIdx h
  simp at this
  omega
theorem zeroR_len (m : Nat) : (zeroR m).length = m := by simp [zeroR]
theorem mid_all (s y : List Rat) (hy : y.length = 2 ^ s.length) {i : Nat} (hi : i < 2 ^ s.length) (a : Rat) (f : List Rat) (hf : f.length = 2 ^ s.length) :
    y.zipIdx.foldl (midS (tableR s) i a) f = plusR f (scaleR a (pairR s (unitR (2 ^ s.length) i) y)) := by
  have li := unitR_len (2 ^ s.length) i
  have lp : ∀ v : List Rat, v.length = 2 ^ s.length → (pairR s (unitR (2 ^ s.length) i) v).length = 2 ^ s.length := fun v hv => pairR_len s _ _ li hv
  rw [fold_inv (P := fun f => f.length = 2 ^ s.length) (g' := fun f p => plusR f (scaleR p.1 (scaleR a (pairR s (unitR (2 ^ s.length) i) (unitR (2 ^ s.length) p.2))))) _ _ hf]
  · have := span0 (m := 2 ^ s.length) (A := fun v => plusR f (scaleR a (pairR s (unitR (2 ^ s.length) i) v))) (B := fun k => scaleR a (pairR s (unitR (2 ^ s.length) i) (unitR (2 ^ s.length) k))) (fun u c k hu hk => by
      rw [pairR_addr s _ _ _ li hu (by rw [scaleR_len, unitR_len]), pairR_scr c s _ _ li (unitR_len ..), scaleR_plus, scaleR_comm a c, plusR_assoc]) y hy
    rw [← this]
    congr 1
    rw [pair_zero_r s _ li]
    apply List.ext_getElem
    · simp [plusR, scaleR, zeroR, hf]
    · intro j h1 h2
      simp [plusR, scaleR, zeroR, Rat.mul_zero, Rat.add_zero]
  · intro f p hp hf
    have hp2 : p.2 < 2 ^ s.length := by have := mem_zi hp; omega
    have l2 := lp _ (unitR_len (2 ^ s.length) p.2)
    refine ⟨?_, by rw [plusR_len, scaleR_len, scaleR_len, l2, hf]; omega⟩
    unfold midS
    rw [tableR_row s hi hp2, scaleR_scale]
    split
    · next h => rw [h, Rat.zero_mul, plusR_zero (by rw [l2, hf])]
    · rw [addSp_row _ _ _ (by rw [l2, hf]), Rat.mul_comm]
theorem times_pair (s x y : List Rat) (hx : x.length = 2 ^ s.length) (hy : y.length = 2 ^ s.length) : timesS (tableR s) (2 ^ s.length) x y = pairR s x y := by
  unfold timesS
  rw [fold_inv (P := fun f => f.length = 2 ^ s.length) (g' := fun f p => plusR f (scaleR p.1 (pairR s (unitR (2 ^ s.length) p.2) y))) _ _ (by simp)]
  · have := span0 (m := 2 ^ s.length) (A := fun v => pairR s v y) (B := fun k => pairR s (unitR (2 ^ s.length) k) y) (fun u c k hu hk => by
      rw [pairR_addl s _ _ _ hu (by rw [scaleR_len, unitR_len]) hy, pairR_scl c s _ _ (unitR_len ..) hy]) x hx
    rw [← this]
    congr 1
    exact (pair_zero_l s y hy).symm
  · intro f p hp hf
    have hp2 : p.2 < 2 ^ s.length := by have := mem_zi hp; omega
    have l2 := pairR_len s _ _ (unitR_len (2 ^ s.length) p.2) hy
    refine ⟨?_, by rw [plusR_len, scaleR_len, l2, hf]; omega⟩
    unfold outS
    split
    · next h => rw [h, plusR_zero (by rw [l2, hf])]
    · exact mid_all s y hy hp2 p.1 f hf
end Pl

end
section
set_option Elab.async false
set_option linter.all false
set_option maxRecDepth 100000
set_option maxHeartbeats 0
/-! Pl7: the identities of the crosses. -/
namespace Pl
def crossX3 : List Rat → List Rat → List Rat
  | [a1, a2, a3], [b1, b2, b3] => [a2 * b3 - a3 * b2, -a1 * b3 + a3 * b1, a1 * b2 - a2 * b1]
  | _, _ => []
theorem pair3 (a1 a2 a3 b1 b2 b3 : Rat) : (pairR [-1, -1] (0 :: [a1, a2, a3]) (0 :: [b1, b2, b3])).drop 1 = crossX3 [a1, a2, a3] [b1, b2, b3] := by
  simp [pairR, flipR, plusR, scaleR, crossX3]
  repeat' apply And.intro
  all_goals grind
def crossX7 : List Rat → List Rat → List Rat
  | [a1, a2, a3, a4, a5, a6, a7], [b1, b2, b3, b4, b5, b6, b7] => [a2 * b3 - a3 * b2 + a4 * b5 - a5 * b4 - a6 * b7 + a7 * b6, -a1 * b3 + a3 * b1 + a4 * b6 + a5 * b7 - a6 * b4 - a7 * b5, a1 * b2 - a2 * b1 + a4 * b7 - a5 * b6 + a6 * b5 - a7 * b4, -a1 * b5 - a2 * b6 - a3 * b7 + a5 * b1 + a6 * b2 + a7 * b3, a1 * b4 - a2 * b7 + a3 * b6 - a4 * b1 - a6 * b3 + a7 * b2, a1 * b7 + a2 * b4 - a3 * b5 - a4 * b2 + a5 * b3 - a7 * b1, -a1 * b6 + a2 * b5 + a3 * b4 - a4 * b3 - a5 * b2 + a6 * b1]
  | _, _ => []
theorem pair7 (a1 a2 a3 a4 a5 a6 a7 b1 b2 b3 b4 b5 b6 b7 : Rat) : (pairR [-1, -1, -1] (0 :: [a1, a2, a3, a4, a5, a6, a7]) (0 :: [b1, b2, b3, b4, b5, b6, b7])).drop 1 = crossX7 [a1, a2, a3, a4, a5, a6, a7] [b1, b2, b3, b4, b5, b6, b7] := by
  simp [pairR, flipR, plusR, scaleR, crossX7]
  repeat' apply And.intro
  all_goals grind
theorem cr_anti3 (a1 a2 a3 b1 b2 b3 : Rat) : crossX3 [b1, b2, b3] [a1, a2, a3] = scaleR (-1) (crossX3 [a1, a2, a3] [b1, b2, b3]) := by
  simp [crossX3, plusR, minusR, scaleR, dotR]
  repeat' apply And.intro
  all_goals grind
theorem cr_self3 (a1 a2 a3 : Rat) : crossX3 [a1, a2, a3] [a1, a2, a3] = List.replicate 3 0 := by
  simp [crossX3, plusR, minusR, scaleR, dotR, List.replicate]
  repeat' apply And.intro
  all_goals grind
theorem cr_cyc3 (a1 a2 a3 b1 b2 b3 c1 c2 c3 : Rat) : dotR (crossX3 [b1, b2, b3] [c1, c2, c3]) [a1, a2, a3] = dotR (crossX3 [a1, a2, a3] [b1, b2, b3]) [c1, c2, c3] := by
  simp [crossX3, plusR, minusR, scaleR, dotR]
  grind
theorem cr_neg3 (a1 a2 a3 b1 b2 b3 c1 c2 c3 : Rat) : dotR (crossX3 [b1, b2, b3] [a1, a2, a3]) [c1, c2, c3] = -dotR (crossX3 [a1, a2, a3] [b1, b2, b3]) [c1, c2, c3] := by
  simp [crossX3, plusR, minusR, scaleR, dotR]
  grind
theorem cr_d13 (a1 a2 a3 b1 b2 b3 : Rat) : dotR (crossX3 [a1, a2, a3] [b1, b2, b3]) [a1, a2, a3] = 0 := by
  simp [crossX3, plusR, minusR, scaleR, dotR]
  grind
theorem cr_d23 (a1 a2 a3 b1 b2 b3 : Rat) : dotR (crossX3 [a1, a2, a3] [b1, b2, b3]) [b1, b2, b3] = 0 := by
  simp [crossX3, plusR, minusR, scaleR, dotR]
  grind
theorem cr_nn3 (a1 a2 a3 b1 b2 b3 : Rat) : dotR (crossX3 [a1, a2, a3] [b1, b2, b3]) (crossX3 [a1, a2, a3] [b1, b2, b3]) = dotR [a1, a2, a3] [a1, a2, a3] * dotR [b1, b2, b3] [b1, b2, b3] - dotR [a1, a2, a3] [b1, b2, b3] * dotR [a1, a2, a3] [b1, b2, b3] := by
  simp [crossX3, plusR, minusR, scaleR, dotR]
  grind
theorem cr_tw3 (a1 a2 a3 b1 b2 b3 : Rat) : crossX3 [a1, a2, a3] (crossX3 [a1, a2, a3] [b1, b2, b3]) = minusR (scaleR (dotR [a1, a2, a3] [b1, b2, b3]) [a1, a2, a3]) (scaleR (dotR [a1, a2, a3] [a1, a2, a3]) [b1, b2, b3]) := by
  simp [crossX3, plusR, minusR, scaleR, dotR]
  repeat' apply And.intro
  all_goals grind
theorem cr_jac3 (a1 a2 a3 b1 b2 b3 c1 c2 c3 : Rat) : plusR (plusR (crossX3 (crossX3 [a1, a2, a3] [b1, b2, b3]) [c1, c2, c3]) (crossX3 (crossX3 [b1, b2, b3] [c1, c2, c3]) [a1, a2, a3])) (crossX3 (crossX3 [c1, c2, c3] [a1, a2, a3]) [b1, b2, b3]) = List.replicate 3 0 := by
  simp [crossX3, plusR, minusR, scaleR, dotR, List.replicate]
  repeat' apply And.intro
  all_goals grind
theorem cr_half3 (a1 a2 a3 b1 b2 b3 : Rat) : (scaleR (1/2) (minusR (pairR [-1, -1] (0 :: [a1, a2, a3]) (0 :: [b1, b2, b3])) (pairR [-1, -1] (0 :: [b1, b2, b3]) (0 :: [a1, a2, a3])))).drop 1 = crossX3 [a1, a2, a3] [b1, b2, b3] := by
  simp [pairR, flipR, plusR, scaleR, minusR, crossX3]
  repeat' apply And.intro
  all_goals grind
theorem cr_anti7 (a1 a2 a3 a4 a5 a6 a7 b1 b2 b3 b4 b5 b6 b7 : Rat) : crossX7 [b1, b2, b3, b4, b5, b6, b7] [a1, a2, a3, a4, a5, a6, a7] = scaleR (-1) (crossX7 [a1, a2, a3, a4, a5, a6, a7] [b1, b2, b3, b4, b5, b6, b7]) := by
  simp [crossX7, plusR, minusR, scaleR, dotR]
  repeat' apply And.intro
  all_goals grind
theorem cr_self7 (a1 a2 a3 a4 a5 a6 a7 : Rat) : crossX7 [a1, a2, a3, a4, a5, a6, a7] [a1, a2, a3, a4, a5, a6, a7] = List.replicate 7 0 := by
  simp [crossX7, plusR, minusR, scaleR, dotR, List.replicate]
  repeat' apply And.intro
  all_goals grind
theorem cr_cyc7 (a1 a2 a3 a4 a5 a6 a7 b1 b2 b3 b4 b5 b6 b7 c1 c2 c3 c4 c5 c6 c7 : Rat) : dotR (crossX7 [b1, b2, b3, b4, b5, b6, b7] [c1, c2, c3, c4, c5, c6, c7]) [a1, a2, a3, a4, a5, a6, a7] = dotR (crossX7 [a1, a2, a3, a4, a5, a6, a7] [b1, b2, b3, b4, b5, b6, b7]) [c1, c2, c3, c4, c5, c6, c7] := by
  simp [crossX7, plusR, minusR, scaleR, dotR]
  grind
theorem cr_neg7 (a1 a2 a3 a4 a5 a6 a7 b1 b2 b3 b4 b5 b6 b7 c1 c2 c3 c4 c5 c6 c7 : Rat) : dotR (crossX7 [b1, b2, b3, b4, b5, b6, b7] [a1, a2, a3, a4, a5, a6, a7]) [c1, c2, c3, c4, c5, c6, c7] = -dotR (crossX7 [a1, a2, a3, a4, a5, a6, a7] [b1, b2, b3, b4, b5, b6, b7]) [c1, c2, c3, c4, c5, c6, c7] := by
  simp [crossX7, plusR, minusR, scaleR, dotR]
  grind
theorem cr_d17 (a1 a2 a3 a4 a5 a6 a7 b1 b2 b3 b4 b5 b6 b7 : Rat) : dotR (crossX7 [a1, a2, a3, a4, a5, a6, a7] [b1, b2, b3, b4, b5, b6, b7]) [a1, a2, a3, a4, a5, a6, a7] = 0 := by
  simp [crossX7, plusR, minusR, scaleR, dotR]
  grind
theorem cr_d27 (a1 a2 a3 a4 a5 a6 a7 b1 b2 b3 b4 b5 b6 b7 : Rat) : dotR (crossX7 [a1, a2, a3, a4, a5, a6, a7] [b1, b2, b3, b4, b5, b6, b7]) [b1, b2, b3, b4, b5, b6, b7] = 0 := by
  simp [crossX7, plusR, minusR, scaleR, dotR]
  grind
theorem cr_nn7 (a1 a2 a3 a4 a5 a6 a7 b1 b2 b3 b4 b5 b6 b7 : Rat) : dotR (crossX7 [a1, a2, a3, a4, a5, a6, a7] [b1, b2, b3, b4, b5, b6, b7]) (crossX7 [a1, a2, a3, a4, a5, a6, a7] [b1, b2, b3, b4, b5, b6, b7]) = dotR [a1, a2, a3, a4, a5, a6, a7] [a1, a2, a3, a4, a5, a6, a7] * dotR [b1, b2, b3, b4, b5, b6, b7] [b1, b2, b3, b4, b5, b6, b7] - dotR [a1, a2, a3, a4, a5, a6, a7] [b1, b2, b3, b4, b5, b6, b7] * dotR [a1, a2, a3, a4, a5, a6, a7] [b1, b2, b3, b4, b5, b6, b7] := by
  simp [crossX7, plusR, minusR, scaleR, dotR]
  grind
theorem cr_tw7 (a1 a2 a3 a4 a5 a6 a7 b1 b2 b3 b4 b5 b6 b7 : Rat) : crossX7 [a1, a2, a3, a4, a5, a6, a7] (crossX7 [a1, a2, a3, a4, a5, a6, a7] [b1, b2, b3, b4, b5, b6, b7]) = minusR (scaleR (dotR [a1, a2, a3, a4, a5, a6, a7] [b1, b2, b3, b4, b5, b6, b7]) [a1, a2, a3, a4, a5, a6, a7]) (scaleR (dotR [a1, a2, a3, a4, a5, a6, a7] [a1, a2, a3, a4, a5, a6, a7]) [b1, b2, b3, b4, b5, b6, b7]) := by
  simp [crossX7, plusR, minusR, scaleR, dotR]
  repeat' apply And.intro
  all_goals grind
theorem cr_half7 (a1 a2 a3 a4 a5 a6 a7 b1 b2 b3 b4 b5 b6 b7 : Rat) : (scaleR (1/2) (minusR (pairR [-1, -1, -1] (0 :: [a1, a2, a3, a4, a5, a6, a7]) (0 :: [b1, b2, b3, b4, b5, b6, b7])) (pairR [-1, -1, -1] (0 :: [b1, b2, b3, b4, b5, b6, b7]) (0 :: [a1, a2, a3, a4, a5, a6, a7])))).drop 1 = crossX7 [a1, a2, a3, a4, a5, a6, a7] [b1, b2, b3, b4, b5, b6, b7] := by
  simp [pairR, flipR, plusR, scaleR, minusR, crossX7]
  repeat' apply And.intro
  all_goals grind
end Pl

end
section
set_option Elab.async false
set_option linter.all false
set_option maxRecDepth 100000
set_option maxHeartbeats 0
/-! Pl8: the cross by its length. -/
namespace Pl
def stepsN (n : Nat) : List Rat := if n = 3 then [-1, -1] else [-1, -1, -1]
def crossR (x y : List Rat) : List Rat := (pairR (stepsN x.length) (0 :: x) (0 :: y)).drop 1
theorem cr_anti {n : Nat} (hn : n = 3 ∨ n = 7) {x y : List Rat} (hx : x.length = n) (hy : y.length = n) : crossR y x = scaleR (-1) (crossR x y) := by
  rcases hn with rfl | rfl
  · match x, y, hx, hy with
    | [x1, x2, x3], [y1, y2, y3], _, _ =>
      simp only [crossR, stepsN, List.length_cons, List.length_nil, Nat.reduceAdd, Nat.reduceEqDiff, if_true, if_false, pair3]
      exact cr_anti3 x1 x2 x3 y1 y2 y3
  · match x, y, hx, hy with
    | [x1, x2, x3, x4, x5, x6, x7], [y1, y2, y3, y4, y5, y6, y7], _, _ =>
      simp only [crossR, stepsN, List.length_cons, List.length_nil, Nat.reduceAdd, Nat.reduceEqDiff, if_true, if_false, pair7]
      exact cr_anti7 x1 x2 x3 x4 x5 x6 x7 y1 y2 y3 y4 y5 y6 y7
theorem cr_self {n : Nat} (hn : n = 3 ∨ n = 7) {x : List Rat} (hx : x.length = n) : crossR x x = List.replicate n 0 := by
  rcases hn with rfl | rfl
  · match x, hx with
    | [x1, x2, x3], _ =>
      simp only [crossR, stepsN, List.length_cons, List.length_nil, Nat.reduceAdd, Nat.reduceEqDiff, if_true, if_false, pair3]
      exact cr_self3 x1 x2 x3
  · match x, hx with
    | [x1, x2, x3, x4, x5, x6, x7], _ =>
      simp only [crossR, stepsN, List.length_cons, List.length_nil, Nat.reduceAdd, Nat.reduceEqDiff, if_true, if_false, pair7]
      exact cr_self7 x1 x2 x3 x4 x5 x6 x7
theorem cr_cyc {n : Nat} (hn : n = 3 ∨ n = 7) {x y z : List Rat} (hx : x.length = n) (hy : y.length = n) (hz : z.length = n) : dotR (crossR y z) x = dotR (crossR x y) z := by
  rcases hn with rfl | rfl
  · match x, y, z, hx, hy, hz with
    | [x1, x2, x3], [y1, y2, y3], [z1, z2, z3], _, _, _ =>
      simp only [crossR, stepsN, List.length_cons, List.length_nil, Nat.reduceAdd, Nat.reduceEqDiff, if_true, if_false, pair3]
      exact cr_cyc3 x1 x2 x3 y1 y2 y3 z1 z2 z3
  · match x, y, z, hx, hy, hz with
    | [x1, x2, x3, x4, x5, x6, x7], [y1, y2, y3, y4, y5, y6, y7], [z1, z2, z3, z4, z5, z6, z7], _, _, _ =>
      simp only [crossR, stepsN, List.length_cons, List.length_nil, Nat.reduceAdd, Nat.reduceEqDiff, if_true, if_false, pair7]
      exact cr_cyc7 x1 x2 x3 x4 x5 x6 x7 y1 y2 y3 y4 y5 y6 y7 z1 z2 z3 z4 z5 z6 z7
theorem cr_neg {n : Nat} (hn : n = 3 ∨ n = 7) {x y z : List Rat} (hx : x.length = n) (hy : y.length = n) (hz : z.length = n) : dotR (crossR y x) z = -dotR (crossR x y) z := by
  rcases hn with rfl | rfl
  · match x, y, z, hx, hy, hz with
    | [x1, x2, x3], [y1, y2, y3], [z1, z2, z3], _, _, _ =>
      simp only [crossR, stepsN, List.length_cons, List.length_nil, Nat.reduceAdd, Nat.reduceEqDiff, if_true, if_false, pair3]
      exact cr_neg3 x1 x2 x3 y1 y2 y3 z1 z2 z3
  · match x, y, z, hx, hy, hz with
    | [x1, x2, x3, x4, x5, x6, x7], [y1, y2, y3, y4, y5, y6, y7], [z1, z2, z3, z4, z5, z6, z7], _, _, _ =>
      simp only [crossR, stepsN, List.length_cons, List.length_nil, Nat.reduceAdd, Nat.reduceEqDiff, if_true, if_false, pair7]
      exact cr_neg7 x1 x2 x3 x4 x5 x6 x7 y1 y2 y3 y4 y5 y6 y7 z1 z2 z3 z4 z5 z6 z7
theorem cr_d1 {n : Nat} (hn : n = 3 ∨ n = 7) {x y : List Rat} (hx : x.length = n) (hy : y.length = n) : dotR (crossR x y) x = 0 := by
  rcases hn with rfl | rfl
  · match x, y, hx, hy with
    | [x1, x2, x3], [y1, y2, y3], _, _ =>
      simp only [crossR, stepsN, List.length_cons, List.length_nil, Nat.reduceAdd, Nat.reduceEqDiff, if_true, if_false, pair3]
      exact cr_d13 x1 x2 x3 y1 y2 y3
  · match x, y, hx, hy with
    | [x1, x2, x3, x4, x5, x6, x7], [y1, y2, y3, y4, y5, y6, y7], _, _ =>
      simp only [crossR, stepsN, List.length_cons, List.length_nil, Nat.reduceAdd, Nat.reduceEqDiff, if_true, if_false, pair7]
      exact cr_d17 x1 x2 x3 x4 x5 x6 x7 y1 y2 y3 y4 y5 y6 y7
theorem cr_d2 {n : Nat} (hn : n = 3 ∨ n = 7) {x y : List Rat} (hx : x.length = n) (hy : y.length = n) : dotR (crossR x y) y = 0 := by
  rcases hn with rfl | rfl
  · match x, y, hx, hy with
    | [x1, x2, x3], [y1, y2, y3], _, _ =>
      simp only [crossR, stepsN, List.length_cons, List.length_nil, Nat.reduceAdd, Nat.reduceEqDiff, if_true, if_false, pair3]
      exact cr_d23 x1 x2 x3 y1 y2 y3
  · match x, y, hx, hy with
    | [x1, x2, x3, x4, x5, x6, x7], [y1, y2, y3, y4, y5, y6, y7], _, _ =>
      simp only [crossR, stepsN, List.length_cons, List.length_nil, Nat.reduceAdd, Nat.reduceEqDiff, if_true, if_false, pair7]
      exact cr_d27 x1 x2 x3 x4 x5 x6 x7 y1 y2 y3 y4 y5 y6 y7
theorem cr_nn {n : Nat} (hn : n = 3 ∨ n = 7) {x y : List Rat} (hx : x.length = n) (hy : y.length = n) : dotR (crossR x y) (crossR x y) = dotR x x * dotR y y - dotR x y * dotR x y := by
  rcases hn with rfl | rfl
  · match x, y, hx, hy with
    | [x1, x2, x3], [y1, y2, y3], _, _ =>
      simp only [crossR, stepsN, List.length_cons, List.length_nil, Nat.reduceAdd, Nat.reduceEqDiff, if_true, if_false, pair3]
      exact cr_nn3 x1 x2 x3 y1 y2 y3
  · match x, y, hx, hy with
    | [x1, x2, x3, x4, x5, x6, x7], [y1, y2, y3, y4, y5, y6, y7], _, _ =>
      simp only [crossR, stepsN, List.length_cons, List.length_nil, Nat.reduceAdd, Nat.reduceEqDiff, if_true, if_false, pair7]
      exact cr_nn7 x1 x2 x3 x4 x5 x6 x7 y1 y2 y3 y4 y5 y6 y7
theorem crossR_len {n : Nat} (hn : n = 3 ∨ n = 7) {x y : List Rat} (hx : x.length = n) (hy : y.length = n) : (crossR x y).length = n := by
  rcases hn with rfl | rfl
  · match x, y, hx, hy with
    | [x1, x2, x3], [y1, y2, y3], _, _ =>
      simp only [crossR, stepsN, List.length_cons, List.length_nil, Nat.reduceAdd, Nat.reduceEqDiff, if_true, if_false, pair3]
      rfl
  · match x, y, hx, hy with
    | [x1, x2, x3, x4, x5, x6, x7], [y1, y2, y3, y4, y5, y6, y7], _, _ =>
      simp only [crossR, stepsN, List.length_cons, List.length_nil, Nat.reduceAdd, Nat.reduceEqDiff, if_true, if_false, pair7]
      rfl
theorem cross3 {x y : List Rat} (h : x.length = 3) : (pairR [-1, -1] (0 :: x) (0 :: y)).drop 1 = crossR x y := by unfold crossR stepsN; rw [h]; rfl
theorem cross7 {x y : List Rat} (h : x.length = 7) : (pairR [-1, -1, -1] (0 :: x) (0 :: y)).drop 1 = crossR x y := by unfold crossR stepsN; rw [h]; rfl
theorem cr_tw {n : Nat} (hn : n = 3 ∨ n = 7) {x y : List Rat} (hx : x.length = n) (hy : y.length = n) : crossR x (crossR x y) = minusR (scaleR (dotR x y) x) (scaleR (dotR x x) y) := by
  rcases hn with rfl | rfl
  · match x, y, hx, hy with
    | [x1, x2, x3], [y1, y2, y3], _, _ =>
      have e1 : crossR [x1, x2, x3] [y1, y2, y3] = crossX3 [x1, x2, x3] [y1, y2, y3] := pair3 x1 x2 x3 y1 y2 y3
      rw [e1, ← cr_tw3 x1 x2 x3 y1 y2 y3]
      exact pair3 ..
  · match x, y, hx, hy with
    | [x1, x2, x3, x4, x5, x6, x7], [y1, y2, y3, y4, y5, y6, y7], _, _ =>
      have e1 : crossR [x1, x2, x3, x4, x5, x6, x7] [y1, y2, y3, y4, y5, y6, y7] = crossX7 [x1, x2, x3, x4, x5, x6, x7] [y1, y2, y3, y4, y5, y6, y7] := pair7 x1 x2 x3 x4 x5 x6 x7 y1 y2 y3 y4 y5 y6 y7
      rw [e1, ← cr_tw7 x1 x2 x3 x4 x5 x6 x7 y1 y2 y3 y4 y5 y6 y7]
      exact pair7 ..
theorem cr_half {n : Nat} (hn : n = 3 ∨ n = 7) {x y : List Rat} (hx : x.length = n) (hy : y.length = n) : (scaleR (1/2) (minusR (pairR (stepsN n) (0 :: x) (0 :: y)) (pairR (stepsN n) (0 :: y) (0 :: x)))).drop 1 = crossR x y := by
  rcases hn with rfl | rfl
  · match x, y, hx, hy with
    | [x1, x2, x3], [y1, y2, y3], _, _ =>
      rw [show crossR [x1, x2, x3] [y1, y2, y3] = crossX3 [x1, x2, x3] [y1, y2, y3] from pair3 x1 x2 x3 y1 y2 y3]
      exact cr_half3 x1 x2 x3 y1 y2 y3
  · match x, y, hx, hy with
    | [x1, x2, x3, x4, x5, x6, x7], [y1, y2, y3, y4, y5, y6, y7], _, _ =>
      rw [show crossR [x1, x2, x3, x4, x5, x6, x7] [y1, y2, y3, y4, y5, y6, y7] = crossX7 [x1, x2, x3, x4, x5, x6, x7] [y1, y2, y3, y4, y5, y6, y7] from pair7 x1 x2 x3 x4 x5 x6 x7 y1 y2 y3 y4 y5 y6 y7]
      exact cr_half7 x1 x2 x3 x4 x5 x6 x7 y1 y2 y3 y4 y5 y6 y7
theorem cr_jac {x y z : List Rat} (hx : x.length = 3) (hy : y.length = 3) (hz : z.length = 3) : plusR (plusR (crossR (crossR x y) z) (crossR (crossR y z) x)) (crossR (crossR z x) y) = List.replicate 3 0 := by
  match x, y, z, hx, hy, hz with
  | [x1, x2, x3], [y1, y2, y3], [z1, z2, z3], _, _, _ =>
    have e : ∀ a1 a2 a3 b1 b2 b3, crossR [a1, a2, a3] [b1, b2, b3] = crossX3 [a1, a2, a3] [b1, b2, b3] := fun a1 a2 a3 b1 b2 b3 => pair3 a1 a2 a3 b1 b2 b3
    rw [e, e, e, ← cr_jac3 x1 x2 x3 y1 y2 y3 z1 z2 z3]
    simp only [crossX3]
    rw [e, e, e]
    rfl
theorem cr_three {x1 x2 x3 y1 y2 y3 : Rat} : crossR [x1, x2, x3] [y1, y2, y3] = [x2 * y3 - x3 * y2, x3 * y1 - x1 * y3, x1 * y2 - x2 * y1] := by
  rw [show crossR [x1, x2, x3] [y1, y2, y3] = crossX3 [x1, x2, x3] [y1, y2, y3] from pair3 ..]
  simp [crossX3]
  repeat' apply And.intro
  all_goals grind
end Pl

end
section
set_option Elab.async false
set_option linter.all false
set_option maxRecDepth 100000
set_option exponentiation.threshold 10000
/-! Pl9: more combinators, applied. -/
namespace Pl
open TL
section
variable {α β : Type} {Φ : Phi} {c : Cfg} {ce : List (List D)}
def mtF (f : List D → List D → Option (List D)) (i : Nat) : Out (List D) → Out Flow
    | .ok ds c => (match c.sl[i]? with
      | some (.own xs) => (match f xs ds with
        | some ys => .ok .nx (setS i (.own ys) c)
        | none => .stuck)
      | _ => .stuck)
    | .err x c => .err x c
    | .stuck => .stuck
theorem ap_mut {f : List D → List D → Option (List D)} {i : Nat} {ma : M (List D)} : sMut f i ma c = if ownNow c i then mtF f i (ma c) else .stuck := by
  unfold sMut mtF
  cases ma c <;> exact id rfl
theorem mt_ok {f : List D → List D → Option (List D)} {i : Nat} {ds c} : mtF f i (.ok ds c) = (match c.sl[i]? with
      | some (.own xs) => (match f xs ds with
        | some ys => .ok .nx (setS i (.own ys) c)
        | none => .stuck)
      | _ => .stuck) := id rfl
theorem ap_app {xs : List D} {d : D} : appF xs [d] = if sizeOk (xs.length + 1) then some (xs ++ [d]) else none := id rfl
theorem ap_oIn {neg : Bool} {a b : D} : oIn neg a b c = M.opt ((inP a b).map fun r => .bl (if neg then !r else r)) c := id rfl
theorem ap_oInD {neg : Bool} {a : D} {kvs} : oInD neg a (.dct kvs) c = (match kOf a with
    | some y => .ok (.bl (if neg then !(valD kvs y).isSome else (valD kvs y).isSome)) c
    | none => .stuck) := by
  show (match kOf a with | some y => M.ret _ | none => M.stk : M D) c = _
  cases kOf a <;> rfl
theorem ap_oMult {xs : List D} {b : D} : oMul (.tup xs) b c = M.opt (mulP (.tup xs) b) c := id rfl
theorem ap_oMull {xs : List D} {b : D} : oMul (.lst xs) b c = M.opt (mulP (.lst xs) b) c := id rfl
theorem ap_eDct {ks} {ma : M (List D)} : eDct ks ma c = M.bnd ma (fun ds => match zipK ks ds with
  | some kvs => M.ret (.dct (mergeD [] kvs))
  | none => M.stk) c := id rfl
theorem ap_eIxD {ma mb : M D} : eIxD ma mb c = M.bnd ma (fun x => M.bnd mb fun y => M.opt (ixDct x y)) c := id rfl
def tyF (XT : Nat → Nat → Option Bool) (hs : List Hd) : Out Flow → Out Flow
  | .ok f c' => .ok f c'
  | .err x c' => tryH XT x c' hs
  | .stuck => .stuck
theorem ap_try {XT : Nat → Nat → Option Bool} {b : M Flow} {hs : List Hd} : sTry XT b hs c = tyF XT hs (b c) := by
  unfold sTry tyF
  cases b c <;> exact id rfl
theorem ty_ok {XT hs f c} : tyF XT hs (.ok f c) = .ok f c := id rfl
theorem ty_err {XT hs x c} : tyF XT hs (.err x c) = tryH XT x c hs := id rfl
theorem ap_fOp {k : D → D → M (List D)} {ma mb : M D} : fOp k ma mb c = M.bnd ma (fun x => M.bnd mb fun y => k x y) c := id rfl
theorem ap_fMul {xs : List D} {n : Int} : fMulK (.lst xs) (.int n) c = if small63 n && sizeOk (xs.length * n.toNat) then .ok (rep n xs) c else .stuck := by
  show (if small63 n && sizeOk (xs.length * n.toNat) then M.ret (rep n xs) else M.stk : M (List D)) c = _
  split <;> exact id rfl
def whB (t : M Bool) (body : M Flow) (n : Nat) : Out Flow → Out Flow
  | .ok .nx c2 => whl t body n c2
  | .ok .ct c2 => whl t body n c2
  | .ok .bk c2 => .ok .nx c2
  | .ok (.rt r) c2 => .ok (.rt r) c2
  | .err x c2 => .err x c2
  | .stuck => .stuck
def whT (t : M Bool) (body : M Flow) (n : Nat) : Out Bool → Out Flow
  | .ok true c' => whB t body n (body c')
  | .ok false c' => .ok .nx c'
  | .err x c' => .err x c'
  | .stuck => .stuck
theorem wh_t {t : M Bool} {body : M Flow} {n : Nat} {c} : whT t body n (.ok true c) = whB t body n (body c) := id rfl
theorem wh_f {t : M Bool} {body : M Flow} {n : Nat} {c} : whT t body n (.ok false c) = .ok .nx c := id rfl
theorem wh_nx {t : M Bool} {body : M Flow} {n : Nat} {c} : whB t body n (.ok .nx c) = whl t body n c := id rfl
theorem whl_succ {t : M Bool} {body : M Flow} {n : Nat} {c : Cfg} : whl t body (n + 1) c = whT t body n (t c) := by
  conv => lhs; unfold whl
  unfold whT
  cases t c with
  | ok b c' => cases b with
    | true =>
      simp only
      unfold whB
      cases body c' with
      | ok f c2 => cases f <;> rfl
      | _ => rfl
    | false => rfl
  | _ => rfl
theorem rng_nat {m : Nat} (h : m ≤ 1000000) : rngP1 [.int (m : Int)] = some ((List.range m).map fun (j : Nat) => D.int (j : Int)) := by
  have h2 : small62 (m : Int) = true := by
    unfold small62
    simp; omega
  show (if small62 (m : Int) then some (rng 0 (m : Int).toNat) else none) = _
  rw [if_pos h2]
  unfold rng
  simp
theorem mul_tup {xs : List D} {k : Nat} (h0 : xs ≠ []) (hk : 2 ≤ k) (hk2 : k ≤ 1000) (hl : xs.length ≤ 1000) : mulP (.tup xs) (.int (k : Int)) = some (.tup (rep k xs)) := by
  show (if (k : Int) = 1 then _ else if decide (xs ≠ []) && (decide (2 ≤ (k : Int)) && (decide ((k : Int) ≤ 1000) && decide (xs.length ≤ 1000))) then _ else _) = _
  rw [if_neg (by omega), if_pos (by simp [h0, hl]; omega)]
end
end Pl

end
section
set_option Elab.async false
set_option linter.all false
set_option maxRecDepth 100000
set_option exponentiation.threshold 10000
/-! Pl10: comprehensions that change cells. -/
namespace Pl
open TL
theorem lc_st {vs k t e} {mi : M (List D)} {c : Cfg} (ds : List D) (G : List (List D) → Prop) (P : D → Prop) (hm : mi c = .ok ds c) (hl : ds.length ≤ 1000000) (g0 : G c.ce)
    (hs : ∀ d ∈ ds, ∀ ce, G ce → ∃ y c3, lc1 k t e d ⟨wipeL vs c.sl, ce⟩ = .ok (some y) c3 ∧ wipeL vs c3.sl = wipeL vs c.sl ∧ G c3.ce ∧ P y) :
    ∃ ys ce', fLc vs mi k t e c = .ok ys ⟨restL vs c.sl c.sl, ce'⟩ ∧ G ce' ∧ ys.length = ds.length ∧ ∀ y ∈ ys, P y := by
  obtain ⟨os, c4, e1, w1, g1, l1, p1⟩ := lcL_gen (vs := vs) (k := k) (t := t) (e := e) (sl0 := wipeL vs c.sl) (G := G) (P := fun d o => ∃ y, o = some y ∧ P y) ds c rfl g0 fun d hd ce hce => by
    obtain ⟨y, c3, x1, x2, x3, x4⟩ := hs d hd ce hce
    exact ⟨_, c3, x1, x2, x3, y, rfl, x4⟩
  have hall : ∀ o ∈ os, ∃ y, o = some y ∧ P y := fun o ho => by
    obtain ⟨i, hi, rfl⟩ := List.mem_iff_getElem.mp ho
    have hd : i < ds.length := by omega
    exact p1 i ds[i] os[i] (List.getElem?_eq_getElem hd) (List.getElem?_eq_getElem hi)
  have hlen : ∀ os : List (Option D), (∀ o ∈ os, ∃ y, o = some y ∧ P y) → (os.filterMap id).length = os.length := by
    intro os
    induction os with
    | nil => intro _; rfl
    | cons o os ih =>
      intro h
      obtain ⟨y, rfl, _⟩ := h o (List.mem_cons_self ..)
      simp [ih fun o ho => h o (List.mem_cons_of_mem _ ho)]
  refine ⟨os.filterMap id, c4.ce, ?_, g1, (hlen os hall).trans l1, fun y hy => ?_⟩
  · have ef : fLc vs mi k t e c = (match lcL vs k t e ds c with | .ok ys c2 => if sizeOk ys.length then .ok ys (restC vs c c2) else .stuck | _ => .stuck) := by
      unfold fLc M.bnd; rw [hm] <;> rfl
    rw [ef, e1]
    simp only
    rw [if_pos (show sizeOk _ = true from decide_eq_true (by rw [hlen os hall]; omega))]
    unfold restC
    rw [show restL vs c.sl c4.sl = restL vs c.sl c.sl by rw [← restL_wipe, w1, restL_wipe]]
  · obtain ⟨o, ho, e⟩ := List.mem_filterMap.mp hy
    obtain ⟨y', h1, h2⟩ := hall o ho
    simp at e
    rw [e] at h1
    cases h1
    exact h2
/-- a row of ratios, drawn -/
theorem all_rats {b : Nat} : ∀ {ys : List D}, (∀ y ∈ ys, ∃ q, y = .rat q ∧ Wt b q) → ∃ x : List Rat, ys = rats x ∧ x.length = ys.length ∧ ∀ q ∈ x, Wt b q
  | [], _ => ⟨[], rfl, rfl, fun q h => by cases h⟩
  | y :: ys, h => by
    obtain ⟨q, rfl, hq⟩ := h y (List.mem_cons_self ..)
    obtain ⟨x, rfl, hl, hx⟩ := all_rats fun y hy => h y (List.mem_cons_of_mem _ hy)
    exact ⟨q :: x, rfl, by simp [hl], fun p hp => by
      rcases List.mem_cons.mp hp with rfl | hp
      · exact hq
      · exact hx p hp⟩
end Pl

end
section
set_option Elab.async false
set_option linter.all false
set_option maxRecDepth 100000
set_option maxHeartbeats 0
/-! Pl11: doubled products of whole rows. -/
namespace Pl
def castR (x : List Int) : List Rat := x.map fun (i : Int) => (i : Rat)
def plusI (x y : List Int) : List Int := x.zipWith (· + ·) y
def scaleI (c : Int) (x : List Int) : List Int := x.map (c * ·)
def flipI : List Int → List Int
  | [] => []
  | a :: r => a :: r.map (-·)
def pairI : List Int → List Int → List Int → List Int
  | [], x, y => [x.headD 0 * y.headD 0]
  | g :: low, x, y =>
    let h := x.length / 2
    let a := x.take h
    let b := x.drop h
    let c := y.take h
    let d := y.drop h
    plusI (pairI low a c) (scaleI g (pairI low (flipI d) b)) ++ plusI (pairI low d a) (pairI low b (flipI c))
theorem castR_plus : ∀ x y, castR (plusI x y) = plusR (castR x) (castR y)
  | [], _ => rfl
  | _ :: _, [] => rfl
  | a :: x, b :: y => by
    have := castR_plus x y
    unfold castR plusI plusR at *
    simp only [List.zipWith_cons_cons, List.map_cons, this, Rat.intCast_add]
theorem castR_scale (c : Int) (x : List Int) : castR (scaleI c x) = scaleR (c : Rat) (castR x) := by
  unfold castR scaleI scaleR
  rw [List.map_map, List.map_map]
  congr 1
  funext i
  exact Rat.intCast_mul ..
theorem castR_flip : ∀ x, castR (flipI x) = flipR (castR x)
  | [] => rfl
  | a :: x => by
    unfold castR flipI flipR
    simp [List.map_map, Function.comp, Rat.intCast_neg]
theorem castR_take (k : Nat) (x : List Int) : castR (x.take k) = (castR x).take k := by unfold castR; rw [List.map_take]
theorem castR_drop (k : Nat) (x : List Int) : castR (x.drop k) = (castR x).drop k := by unfold castR; rw [List.map_drop]
theorem castR_app (x y : List Int) : castR (x ++ y) = castR x ++ castR y := by unfold castR; rw [List.map_append]
theorem castR_len (x : List Int) : (castR x).length = x.length := by unfold castR; simp
theorem castR_headD (x : List Int) : (castR x).headD 0 = ((x.headD 0 : Int) : Rat) := by cases x <;> rfl
theorem castR_pair : ∀ s x y : List Int, castR (pairI s x y) = pairR (castR s) (castR x) (castR y)
  | [], x, y => by
    show [((x.headD 0 * y.headD 0 : Int) : Rat)] = [(castR x).headD 0 * (castR y).headD 0]
    rw [castR_headD, castR_headD, Rat.intCast_mul]
  | g :: low, x, y => by
    show castR (pairI (g :: low) x y) = pairR ((g : Rat) :: castR low) (castR x) (castR y)
    unfold pairI pairR
    simp only [castR_app, castR_plus, castR_scale, castR_pair, castR_flip, castR_take, castR_drop, castR_len]
theorem castR_inj : ∀ {x y : List Int}, castR x = castR y → x = y
  | [], [], _ => rfl
  | [], _ :: _, h => by simp [castR] at h
  | _ :: _, [], h => by simp [castR] at h
  | a :: x, b :: y, h => by
    simp only [castR, List.map_cons, List.cons.injEq, Rat.intCast_inj] at h
    rw [h.1, castR_inj h.2]
def unitI (m k : Nat) : List Int := (List.range m).map fun j => if j = k then 1 else 0
theorem castR_unit (m k : Nat) : castR (unitI m k) = unitR m k := by
  unfold castR unitI unitR
  rw [List.map_map]
  congr 1
  funext j
  simp only [Function.comp]
  split <;> rfl
def tableI (s : List Int) : List (List (List Int)) := (List.range (2 ^ s.length)).map fun i => (List.range (2 ^ s.length)).map fun j => pairI s (unitI (2 ^ s.length) i) (unitI (2 ^ s.length) j)
theorem tableI_cast (s : List Int) : (tableI s).map (·.map castR) = tableR (castR s) := by
  unfold tableI tableR
  rw [castR_len, List.map_map]
  apply List.map_congr_left
  intro i _
  simp only [Function.comp, List.map_map]
  apply List.map_congr_left
  intro j _
  simp only [Function.comp, castR_pair, castR_unit]
def isZ (x : List Int) : Bool := x.all fun i => decide (i = 0)
def isZR (x : List Rat) : Bool := x.all fun q => decide (q = 0)
theorem isZ_cast (x : List Int) : isZR (castR x) = isZ x := by
  unfold isZR isZ castR
  rw [List.all_map]
  congr 1
  funext i
  simp only [Function.comp]
  by_cases h : i = 0
  · subst h; rfl
  · rw [decide_eq_false h, decide_eq_false]
    exact fun e => h (by simpa using e)
/-! ### pairs of units -/
abbrev Lot := Nat × Nat × Int
def lots (n : Nat) : List Lot := (List.range n).flatMap fun i => ((List.range (n - (i + 1))).map (· + (i + 1))).flatMap fun j => [(i, j, 1), (i, j, -1)]
def lotR (n : Nat) (o : Lot) : List Rat := plusR (unitR n o.1) (scaleR (o.2.2 : Rat) (unitR n o.2.1))
/-- the law's own sum -/
def sum4 (T : List (List (List Int))) (n : Nat) (o p : Lot) : List Int :=
  let t := fun i j => (T.getD i []).getD j []
  plusI (plusI (plusI (plusI (List.replicate n 0) (scaleI 1 (t o.1 p.1))) (scaleI p.2.2 (t o.1 p.2.1))) (scaleI o.2.2 (t o.2.1 p.1))) (scaleI (o.2.2 * p.2.2) (t o.2.1 p.2.1))
def sum4R (s : List Rat) (n : Nat) (o p : Lot) : List Rat :=
  let t := fun i j => pairR s (unitR n i) (unitR n j)
  plusR (plusR (plusR (plusR (List.replicate n 0) (scaleR 1 (t o.1 p.1))) (scaleR (p.2.2 : Rat) (t o.1 p.2.1))) (scaleR (o.2.2 : Rat) (t o.2.1 p.1))) (scaleR ((o.2.2 * p.2.2 : Int) : Rat) (t o.2.1 p.2.1))
theorem zero_plus : ∀ {n : Nat} {x : List Rat}, x.length = n → plusR (List.replicate n 0) x = x
  | 0, [], _ => rfl
  | n + 1, a :: x, h => by
    have := zero_plus (n := n) (x := x) (by simpa using h)
    unfold plusR at *
    rw [List.replicate_succ, List.zipWith_cons_cons, this, Rat.zero_add]
theorem scale_one (x : List Rat) : scaleR 1 x = x := by
  unfold scaleR; simp [Rat.one_mul]
theorem sum4_pair (s : List Rat) (o p : Lot) : sum4R s (2 ^ s.length) o p = pairR s (lotR (2 ^ s.length) o) (lotR (2 ^ s.length) p) := by
  have u := unitR_len (2 ^ s.length)
  have lu : ∀ (c : Rat) k, (scaleR c (unitR (2 ^ s.length) k)).length = 2 ^ s.length := fun c k => by rw [scaleR_len, u]
  have lp : ∀ c d k l, (plusR (scaleR c (unitR (2 ^ s.length) k)) (scaleR d (unitR (2 ^ s.length) l))).length = 2 ^ s.length := fun c d k l => by rw [plusR_len, lu, lu]; simp
  have ll : ∀ o : Lot, (lotR (2 ^ s.length) o).length = 2 ^ s.length := fun o => by unfold lotR; rw [plusR_len, u, lu]; simp
  unfold sum4R
  simp only
  rw [zero_plus (by rw [scaleR_len, pairR_len s _ _ (u _) (u _)]), scale_one, Rat.intCast_mul]
  conv => rhs; rw [show lotR (2 ^ s.length) o = plusR (unitR (2 ^ s.length) o.1) (scaleR (o.2.2 : Rat) (unitR (2 ^ s.length) o.2.1)) from rfl, pairR_addl s _ _ _ (u _) (lu _ _) (ll p), pairR_scl _ s _ _ (u _) (ll p),
    show lotR (2 ^ s.length) p = plusR (unitR (2 ^ s.length) p.1) (scaleR (p.2.2 : Rat) (unitR (2 ^ s.length) p.2.1)) from rfl, pairR_addr s _ _ _ (u _) (u _) (lu _ _), pairR_addr s _ _ _ (u _) (u _) (lu _ _), pairR_scr _ s _ _ (u _) (u _), pairR_scr _ s _ _ (u _) (u _), scaleR_plus, scaleR_scale]
  rw [plusR_assoc, plusR_assoc]
end Pl

end
section
set_option Elab.async false
set_option linter.all false
set_option maxRecDepth 100000
set_option exponentiation.threshold 10000
/-! Pl14: own ==; raising with a reason; lists made longer. -/
namespace Pl
open TL
section
variable {Φ : Phi} {c : Cfg}
def eoF (ne : Bool) (c : Cfg) : FOut → Out D
  | .ok (.v (.bl r)) ce => .ok (.bl (xor ne r)) { c with ce := ce }
  | _ => .stuck
theorem ap_eqO {qs : List (Nat × Nat)} {ne : Bool} {k0 : D → D → M D} {C : Nat} {fs fs'} {f : Nat} (h : qs.lookup C = some f) : oEqO Φ qs ne k0 (.ins C fs) (.ins C fs') c = eoF ne c (Φ f [.ins C fs, .ins C fs'] c.ce) := by
  unfold oEqO
  simp only [if_true, h]
  unfold eoF
  cases Φ f [.ins C fs, .ins C fs'] c.ce with
  | ok r ce => cases r with
    | v d => cases d <;> exact id rfl
    | f xs => exact id rfl
  | err x ce => exact id rfl
  | stuck => exact id rfl
theorem eo_ok {ne : Bool} {c : Cfg} {r ce} : eoF ne c (.ok (.v (.bl r)) ce) = .ok (.bl (xor ne r)) { c with ce := ce } := id rfl
theorem ap_ext {xs ys : List D} : extF xs [.lst ys] = if sizeOk (xs.length + ys.length) then some (xs ++ ys) else none := rfl
theorem ap_lstK {xs : List D} {c : Cfg} : lstK (.tup xs) c = .ok xs c := id rfl
theorem ap_fAdd {xs ys : List D} {c : Cfg} : fAddK (.lst xs) (.lst ys) c = if sizeOk (xs.length + ys.length) then .ok (xs ++ ys) c else .stuck := by
  show (if sizeOk (xs.length + ys.length) then M.ret (xs ++ ys) else M.stk : M (List D)) c = _
  split <;> exact id rfl
end
/-! ### a loop that may end with a value -/
def Fr (R : Cfg → Prop) (r : Option RV) : Out Flow → Prop
  | .ok .nx c2 => r = none ∧ R c2
  | .ok (.rt v) c2 => r = some v ∧ R c2
  | _ => False
theorem fr_nx {R r c} : Fr R r (.ok .nx c) = (r = none ∧ R c) := rfl
theorem fr_rt {R r v c} : Fr R r (.ok (.rt v) c) = (r = some v ∧ R c) := rfl
theorem for_find {α : Type} {k : TgF} {b : M Flow} (φ : α → D) (R : Cfg → Prop) (f : α → Option RV) : ∀ (l : List α) (c : Cfg), R c →
    (∀ a ∈ l, ∀ c, R c → Fr R (f a) (it1 k b (φ a) c)) →
    ∃ c', R c' ∧ forL k b (l.map φ) c = (match l.findSome? f with | none => .ok .nx c' | some v => .ok (.rt v) c') := by
  intro l
  induction l with
  | nil => intro c h _; exact ⟨c, h, rfl⟩
  | cons a l ih =>
    intro c h hs
    have s := hs a (List.mem_cons_self ..) c h
    rw [List.map_cons, forL_cons]
    cases e : it1 k b (φ a) c with
    | ok fl c2 =>
      rw [e] at s
      cases fl with
      | nx =>
        obtain ⟨h1, h2⟩ := s
        obtain ⟨c', h3, e3⟩ := ih c2 h2 fun a ha => hs a (List.mem_cons_of_mem _ ha)
        refine ⟨c', h3, ?_⟩
        rw [List.findSome?_cons, h1]
        simp only
        exact e3
      | rt v =>
        obtain ⟨h1, h2⟩ := s
        refine ⟨c2, h2, ?_⟩
        rw [List.findSome?_cons, h1]
      | _ => exact s.elim
    | err x c2 => rw [e] at s; exact s.elim
    | stuck => rw [e] at s; exact s.elim
end Pl

end
section
set_option Elab.async false
set_option linter.all false
set_option maxRecDepth 100000
set_option maxHeartbeats 0
/-! Pl15: sums over ranges; formulas of sums of squares: plain mathematics. -/
namespace Pl
def sm : Nat → (Nat → Int) → Int
  | 0, _ => 0
  | n + 1, g => sm n g + g n
theorem sm_list (n : Nat) (g : Nat → Int) : ((List.range n).map g).sum = sm n g := by
  induction n with
  | zero => rfl
  | succ n ih => rw [List.range_succ, List.map_append, List.sum_append, ih]; simp [sm]
theorem sm_congr {n : Nat} {f g : Nat → Int} (h : ∀ k, k < n → f k = g k) : sm n f = sm n g := by
  induction n with
  | zero => rfl
  | succ n ih => rw [sm, sm, ih fun k hk => h k (by omega), h n (by omega)]
theorem sm_add (n : Nat) (f g : Nat → Int) : sm n (fun k => f k + g k) = sm n f + sm n g := by
  induction n with
  | zero => rfl
  | succ n ih => rw [sm, sm, sm, ih]; omega
theorem sm_mul (n : Nat) (c : Int) (f : Nat → Int) : sm n (fun k => c * f k) = c * sm n f := by
  induction n with
  | zero => simp [sm]
  | succ n ih => rw [sm, sm, ih, Int.mul_add]
theorem sm_mulr (n : Nat) (c : Int) (f : Nat → Int) : sm n (fun k => f k * c) = sm n f * c := by
  rw [Int.mul_comm, ← sm_mul]; exact sm_congr fun k _ => Int.mul_comm ..
theorem sm_zero (n : Nat) : sm n (fun _ => 0) = 0 := by
  induction n with
  | zero => rfl
  | succ n ih => rw [sm, ih]; rfl
theorem sm_swap (n m : Nat) (f : Nat → Nat → Int) : sm n (fun i => sm m (fun j => f i j)) = sm m (fun j => sm n (fun i => f i j)) := by
  induction n with
  | zero => simp [sm, sm_zero]
  | succ n ih => rw [sm, ih, ← sm_add]; rfl
theorem sm_one {n : Nat} (i : Nat) (hi : i < n) (c : Nat → Int) : sm n (fun k => if k = i then c k else 0) = c i := by
  induction n with
  | zero => omega
  | succ n ih =>
    rw [sm]
    by_cases h : i = n
    · subst h
      rw [if_pos rfl, sm_congr (g := fun _ => 0) (fun k hk => if_neg (by omega)), sm_zero]; omega
    · rw [ih (by omega), if_neg (by omega)]; omega
theorem sm_app (n m : Nat) (g : Nat → Int) : sm (n + m) g = sm n g + sm m (fun k => g (n + k)) := by
  induction m with
  | zero => simp [sm]
  | succ m ih => rw [show n + (m + 1) = (n + m) + 1 from rfl, sm, ih, sm]; omega
abbrev Fm := Nat → Nat → Nat → Int
/-- what the document asks of a composing formula -/
def Comp (r n s : Nat) (f : Fm) : Prop := ∀ i, i < r → ∀ h, h < r → ∀ j, j < s → ∀ m, m < s → sm n (fun k => f i k j * f h k m + f h k j * f i k m) = if i = h ∧ j = m then 2 else 0
/-- as the program asks it -/
def CompP (r n s : Nat) (f : Fm) : Prop := ∀ i, i < r → (∀ j, j < s → ∀ m, m < s → sm n (fun k => f i k j * f i k m) = if j = m then 1 else 0) ∧ ∀ h, h < i → ∀ j, j < s → ∀ m, m < s → sm n (fun k => f i k j * f h k m) + sm n (fun k => f h k j * f i k m) = 0
theorem comp_iff (r n s : Nat) (f : Fm) : CompP r n s f ↔ Comp r n s f := by
  constructor
  · intro c i hi h hh j hj m hm
    rw [sm_add]
    rcases Nat.lt_trichotomy h i with hlt | rfl | hgt
    · rw [(c i hi).2 h hlt j hj m hm, if_neg (by omega)]
    · rw [(c h hi).1 j hj m hm]
      by_cases e : j = m
      · rw [if_pos e, if_pos ⟨rfl, e⟩]; rfl
      · rw [if_neg e, if_neg (fun z => e z.2)]; rfl
    · have := (c h hh).2 i hgt j hj m hm
      rw [if_neg (by omega)]; omega
  · intro c i hi
    refine ⟨fun j hj m hm => ?_, fun h hh j hj m hm => ?_⟩
    · have := c i hi i hi j hj m hm
      rw [sm_add] at this
      by_cases e : j = m
      · rw [if_pos ⟨rfl, e⟩] at this; rw [if_pos e]; omega
      · rw [if_neg (fun z => e z.2)] at this; rw [if_neg e]; omega
    · have := c i hi h (by omega) j hj m hm
      rw [sm_add, if_neg (by omega)] at this
      exact this
def toldF (r s : Nat) (f : Fm) (x y : Nat → Int) (k : Nat) : Int := sm r fun i => x i * sm s fun j => f i k j * y j
theorem toldF_eq (r s : Nat) (f : Fm) (x y : Nat → Int) (k : Nat) : sm r (fun i => sm s fun j => x i * y j * f i k j) = toldF r s f x y k := by
  unfold toldF
  refine sm_congr fun i _ => ?_
  rw [← sm_mul]
  refine sm_congr fun j _ => ?_
  rw [Int.mul_assoc, Int.mul_comm (y j)]
theorem sm_sq (r : Nat) (a : Nat → Int) : sm r a * sm r a = sm r fun i => sm r fun h => a i * a h := by
  rw [← sm_mulr]
  exact sm_congr fun i _ => (sm_mul r (a i) a).symm
/-- the sums of squares -/
theorem comp_norm {r n s : Nat} {f : Fm} (c : Comp r n s f) (x y : Nat → Int) : sm n (fun k => toldF r s f x y k * toldF r s f x y k) = sm r (fun i => x i * x i) * sm s (fun j => y j * y j) := by
  -- w i h j m = x i x h y j y m
  have key : ∀ k, toldF r s f x y k * toldF r s f x y k = sm r fun i => sm r fun h => sm s fun j => sm s fun m => (x i * x h * (y j * y m)) * (f i k j * f h k m) := fun k => by
    unfold toldF
    rw [sm_sq]
    refine sm_congr fun i _ => sm_congr fun h _ => ?_
    rw [show x i * sm s (fun j => f i k j * y j) * (x h * sm s fun j => f h k j * y j) = x i * x h * (sm s (fun j => f i k j * y j) * sm s fun j => f h k j * y j) by grind]
    rw [← sm_mulr, ← sm_mul]
    refine sm_congr fun j _ => ?_
    rw [← sm_mul, ← sm_mul]
    refine sm_congr fun m _ => ?_
    grind
  have l1 : sm n (fun k => toldF r s f x y k * toldF r s f x y k) = sm r fun i => sm r fun h => sm s fun j => sm s fun m => (x i * x h * (y j * y m)) * sm n fun k => f i k j * f h k m := by
    rw [sm_congr fun k _ => key k, sm_swap]
    refine sm_congr fun i _ => ?_
    rw [sm_swap]
    refine sm_congr fun h _ => ?_
    rw [sm_swap]
    refine sm_congr fun j _ => ?_
    rw [sm_swap]
    refine sm_congr fun m _ => ?_
    rw [sm_mul]
  have l2 : sm n (fun k => toldF r s f x y k * toldF r s f x y k) = sm r fun i => sm r fun h => sm s fun j => sm s fun m => (x i * x h * (y j * y m)) * sm n fun k => f h k j * f i k m := by
    rw [l1, sm_swap]
    refine sm_congr fun i _ => sm_congr fun h _ => sm_congr fun j _ => sm_congr fun m _ => ?_
    rw [Int.mul_comm (x h)]
  have two : 2 * sm n (fun k => toldF r s f x y k * toldF r s f x y k) = sm r fun i => sm r fun h => sm s fun j => sm s fun m => if h = i then (if m = j then 2 * (x i * x h * (y j * y m)) else 0) else 0 := by
    rw [Int.two_mul]
    conv => lhs; lhs; rw [l1]
    rw [l2, ← sm_add]
    refine sm_congr fun i hi => ?_
    rw [← sm_add]
    refine sm_congr fun h hh => ?_
    rw [← sm_add]
    refine sm_congr fun j hj => ?_
    rw [← sm_add]
    refine sm_congr fun m hm => ?_
    rw [← Int.mul_add, ← sm_add, c i hi h hh j hj m hm]
    by_cases e : h = i
    · by_cases e2 : m = j
      · rw [if_pos ⟨e.symm, e2.symm⟩, if_pos e, if_pos e2, Int.mul_comm]
      · rw [if_neg (fun z => e2 z.2.symm), if_pos e, if_neg e2, Int.mul_zero]
    · rw [if_neg (fun z => e z.1.symm), if_neg e, Int.mul_zero]
  have rhs : (sm r fun i => sm r fun h => sm s fun j => sm s fun m => if h = i then (if m = j then 2 * (x i * x h * (y j * y m)) else 0) else 0) = 2 * (sm r (fun i => x i * x i) * sm s (fun j => y j * y j)) := by
    rw [← sm_mulr, ← sm_mul]
    refine sm_congr fun i hi => ?_
    have e1 : (sm r fun h => sm s fun j => sm s fun m => if h = i then (if m = j then 2 * (x i * x h * (y j * y m)) else 0) else 0) = sm r fun h => if h = i then (sm s fun j => sm s fun m => if m = j then 2 * (x i * x h * (y j * y m)) else 0) else 0 := by
      refine sm_congr fun h _ => ?_
      by_cases e : h = i
      · simp only [if_pos e]
      · simp only [if_neg e, sm_zero]
    rw [e1, sm_one i hi (fun h => sm s fun j => sm s fun m => if m = j then 2 * (x i * x h * (y j * y m)) else 0), ← sm_mul, ← sm_mul]
    refine sm_congr fun j hj => ?_
    rw [sm_one j hj (fun m => 2 * (x i * x i * (y j * y m)))]
  have := two.trans rhs
  omega
def turnF (f : Fm) : Fm := fun j k i => f i k j
theorem comp_turn {r n s : Nat} {f : Fm} : Comp s n r (turnF f) ↔ Comp r n s f := by
  have key : ∀ {r n s : Nat} {f : Fm}, Comp r n s f → Comp s n r (turnF f) := fun {r n s f} c j hj m hm i hi h hh => by
    have := c i hi h hh j hj m hm
    unfold turnF
    rw [sm_congr (g := fun k => f i k j * f h k m + f h k j * f i k m) (fun k _ => by grind), this]
    by_cases e : i = h ∧ j = m
    · rw [if_pos e, if_pos ⟨e.2, e.1⟩]
    · rw [if_neg e, if_neg fun z => e ⟨z.2, z.1⟩]
  exact ⟨fun c => key (f := turnF f) c, key⟩
theorem told_turn (r s : Nat) (f : Fm) (x y : Nat → Int) (k : Nat) : toldF s r (turnF f) y x k = toldF r s f x y k := by
  rw [← toldF_eq, ← toldF_eq, sm_swap]
  refine sm_congr fun i _ => sm_congr fun j _ => ?_
  unfold turnF
  rw [Int.mul_comm (y j)]
def joinF (n s : Nat) (f g : Fm) : Fm := fun i k j => if k < n then (if j < s then f i k j else 0) else (if j < s then 0 else g i (k - n) (j - s))
theorem comp_join {r n s q p : Nat} {f g : Fm} : Comp r (n + q) (s + p) (joinF n s f g) ↔ Comp r n s f ∧ Comp r q p g := by
  have sum : ∀ i h j m, sm (n + q) (fun k => joinF n s f g i k j * joinF n s f g h k m + joinF n s f g h k j * joinF n s f g i k m) = (if j < s ∧ m < s then sm n (fun k => f i k j * f h k m + f h k j * f i k m) else 0) + (if ¬ j < s ∧ ¬ m < s then sm q (fun k => g i k (j - s) * g h k (m - s) + g h k (j - s) * g i k (m - s)) else 0) := by
    intro i h j m
    rw [sm_app]
    congr 1
    · by_cases hj : j < s
      · by_cases hm : m < s
        · rw [if_pos ⟨hj, hm⟩]
          refine sm_congr fun k hk => ?_
          unfold joinF
          simp only [if_pos hk, if_pos hj, if_pos hm]
        · rw [if_neg fun z => hm z.2]
          rw [sm_congr (g := fun _ => 0), sm_zero]
          intro k hk
          unfold joinF
          simp only [if_pos hk, if_neg hm, Int.mul_zero]; rfl
      · rw [if_neg fun z => hj z.1]
        rw [sm_congr (g := fun _ => 0), sm_zero]
        intro k hk
        unfold joinF
        simp only [if_pos hk, if_neg hj, Int.zero_mul]; rfl
    · have hk : ∀ k, ¬ n + k < n := fun k => by omega
      have hk2 : ∀ k, n + k - n = k := fun k => by omega
      by_cases hj : j < s
      · rw [if_neg fun z => z.1 hj]
        rw [sm_congr (g := fun _ => 0), sm_zero]
        intro k _
        unfold joinF
        simp only [if_neg (hk k), if_pos hj, Int.zero_mul]; rfl
      · by_cases hm : m < s
        · rw [if_neg fun z => z.2 hm]
          rw [sm_congr (g := fun _ => 0), sm_zero]
          intro k _
          unfold joinF
          simp only [if_neg (hk k), if_pos hm, Int.mul_zero]; rfl
        · rw [if_pos ⟨hj, hm⟩]
          refine sm_congr fun k _ => ?_
          unfold joinF
          simp only [if_neg (hk k), if_neg hj, if_neg hm, hk2]
  constructor
  · intro c
    refine ⟨fun i hi h hh j hj m hm => ?_, fun i hi h hh j hj m hm => ?_⟩
    · have := c i hi h hh j (by omega) m (by omega)
      rw [sum, if_pos ⟨hj, hm⟩, if_neg fun z => z.1 hj] at this
      rw [← this]; omega
    · have := c i hi h hh (s + j) (by omega) (s + m) (by omega)
      rw [sum, if_neg (by omega), if_pos (by omega), show s + j - s = j by omega, show s + m - s = m by omega] at this
      by_cases e : i = h ∧ j = m
      · rw [if_pos ⟨e.1, by omega⟩] at this
        rw [if_pos e]; omega
      · rw [if_neg (by omega)] at this
        rw [if_neg e]; omega
  · intro ⟨c1, c2⟩ i hi h hh j hj m hm
    rw [sum]
    by_cases h1 : j < s
    · by_cases h2 : m < s
      · rw [if_pos ⟨h1, h2⟩, if_neg fun z => z.1 h1, c1 i hi h hh j h1 m h2]; omega
      · rw [if_neg fun z => h2 z.2, if_neg fun z => z.1 h1, if_neg (by omega)]; rfl
    · by_cases h2 : m < s
      · rw [if_neg fun z => h1 z.1, if_neg fun z => z.2 h2, if_neg (by omega)]; rfl
      · rw [if_neg fun z => h1 z.1, if_pos ⟨h1, h2⟩, c2 i hi h hh (j - s) (by omega) (m - s) (by omega)]
        by_cases e : i = h ∧ j = m
        · rw [if_pos e, if_pos ⟨e.1, by omega⟩]; omega
        · rw [if_neg e, if_neg (by omega)]; omega
end Pl
namespace Pl
theorem told_join (r n s p : Nat) (f g : Fm) (x y : Nat → Int) (k : Nat) : toldF r (s + p) (joinF n s f g) x (fun j => if j < s then y j else 1) k = if k < n then toldF r s f x y k else toldF r p g x (fun _ => 1) (k - n) := by
  unfold toldF
  by_cases hk : k < n
  · rw [if_pos hk]
    refine sm_congr fun i _ => ?_
    rw [sm_app, sm_congr (n := p) (g := fun _ => 0), sm_zero, sm_congr (n := s) (g := fun j => f i k j * y j)]
    · rw [Int.add_zero]
    · intro j hj
      unfold joinF
      simp only [if_pos hk, if_pos hj]
    · intro j _
      unfold joinF
      simp only [if_pos hk, if_neg (show ¬ s + j < s by omega), Int.zero_mul]
  · rw [if_neg hk]
    refine sm_congr fun i _ => ?_
    rw [sm_app, sm_congr (n := s) (g := fun _ => 0), sm_zero, sm_congr (n := p) (g := fun j => g i (k - n) j * 1)]
    · rw [Int.zero_add]
    · intro j _
      unfold joinF
      simp only [if_neg hk, if_neg (show ¬ s + j < s by omega), show s + j - s = j by omega]
    · intro j hj
      unfold joinF
      simp only [if_neg hk, if_pos hj, Int.zero_mul]
end Pl

end
section
set_option Elab.async false
set_option linter.all false
set_option maxRecDepth 100000
set_option exponentiation.threshold 10000
/-! Pl16: tuples over ranges. -/
namespace Pl
open TL
theorem sz_le {k : Nat} (h : k ≤ 1000) : sizeOk k = true := decide_eq_true (by omega)
def rD (s : Nat) (x : Nat → Int) : D := .tup ((List.range s).map fun j => .int (x j))
def tD (n s : Nat) (t : Nat → Nat → Int) : D := .tup ((List.range n).map fun k => rD s (t k))
def fD (r n s : Nat) (f : Fm) : D := .tup ((List.range r).map fun i => tD n s (f i))
theorem at_rng {n k : Nat} (h : k < n) (φ : Nat → D) : L2.atI ((List.range n).map φ) (k : Int) = some (φ k) := by
  rw [atI_nat, List.getElem?_map, List.getElem?_range h]; rfl
theorem at_rng0 {n : Nat} (h : 0 < n) (φ : Nat → D) : L2.atI ((List.range n).map φ) 0 = some (φ 0) := at_rng h φ
theorem eqL_refl {f : D → D → Option Bool} : ∀ {xs : List D}, (∀ x ∈ xs, f x x = some true) → eqL f xs xs = some true
  | [], _ => rfl
  | x :: xs, h => by
    show (match f x x with | some true => eqL f xs xs | some false => some false | none => none) = _
    rw [h x (List.mem_cons_self ..)]
    exact eqL_refl fun y hy => h y (List.mem_cons_of_mem _ hy)
theorem eqD_tup {m : Nat} {xs : List D} (h : ∀ x ∈ xs, eqD m x x = some true) : eqD (m + 1) (.tup xs) (.tup xs) = some true := eqL_refl h
theorem eqD_ii (m : Nat) (i : Int) : eqD m (.int i) (.int i) = some true := by rw [eqD_int]; simp
theorem eqD_r (m s : Nat) (x : Nat → Int) : eqD (m + 1) (rD s x) (rD s x) = some true := eqD_tup fun d hd => by
  obtain ⟨j, _, rfl⟩ := List.mem_map.mp hd
  exact eqD_ii ..
theorem eqD_t (m n s : Nat) (t) : eqD (m + 2) (tD n s t) (tD n s t) = some true := eqD_tup fun d hd => by
  obtain ⟨j, _, rfl⟩ := List.mem_map.mp hd
  exact eqD_r ..
theorem eqD_f (m r n s : Nat) (f) : eqD (m + 3) (fD r n s f) (fD r n s f) = some true := eqD_tup fun d hd => by
  obtain ⟨j, _, rfl⟩ := List.mem_map.mp hd
  exact eqD_t ..
theorem rD_congr {s : Nat} {x y : Nat → Int} (h : ∀ j, j < s → x j = y j) : rD s x = rD s y := by
  unfold rD
  congr 1
  apply List.map_congr_left
  intro j hj
  rw [h j (by simpa using hj)]
theorem tD_congr {n s : Nat} {t u : Nat → Nat → Int} (h : ∀ k, k < n → ∀ j, j < s → t k j = u k j) : tD n s t = tD n s u := by
  unfold tD
  congr 1
  apply List.map_congr_left
  intro k hk
  exact rD_congr fun j hj => h k (by simpa using hk) j hj
theorem fD_congr {r n s : Nat} {f g : Fm} (h : ∀ i, i < r → ∀ k, k < n → ∀ j, j < s → f i k j = g i k j) : fD r n s f = fD r n s g := by
  unfold fD
  congr 1
  apply List.map_congr_left
  intro i hi
  exact tD_congr fun k hk j hj => h i (by simpa using hi) k hk j hj
theorem intL_map {α : Type} (l : List α) (x : α → Int) : intL (l.map fun j => D.int (x j)) = some (l.map x) := by
  induction l with
  | nil => rfl
  | cons a l ih => show (intL (l.map fun j => D.int (x j))).map (x a :: ·) = _; rw [ih]; rfl
theorem ap_sum {s : Nat} {x : Nat → Int} {c : Cfg} : sumK (.lst ((List.range s).map fun j => .int (x j))) c = .ok (.int (sm s x)) c := by
  show (match intL ((List.range s).map fun j => .int (x j)) with | some bs => M.ret (D.int bs.sum) | none => M.stk : M D) c = _
  rw [intL_map, ← sm_list]; exact id rfl
/-- a list, each member told by a function of its place -/
theorem all_fun {α : Type} [Inhabited α] {φ : α → D} {Q : α → Prop} : ∀ {ys : List D}, (∀ y ∈ ys, ∃ a, y = φ a ∧ Q a) → ∃ g : Nat → α, ys = (List.range ys.length).map (fun j => φ (g j)) ∧ ∀ j, j < ys.length → Q (g j) := by
  intro ys h
  have h' : ∀ j : Nat, ∃ a : α, ∀ hj : j < ys.length, ys[j] = φ a ∧ Q a := fun j => by
    by_cases hj : j < ys.length
    · obtain ⟨a, h1, h2⟩ := h ys[j] (List.getElem_mem hj)
      exact ⟨a, fun _ => ⟨h1, h2⟩⟩
    · exact ⟨default, fun z => absurd z hj⟩
  refine ⟨fun j => (h' j).choose, ?_, fun j hj => ((h' j).choose_spec hj).2⟩
  apply List.ext_getElem
  · simp
  · intro j h1 h2
    rw [List.getElem_map, List.getElem_range]
    exact ((h' j).choose_spec h1).1
theorem fLc_mi {vs k t e} {mi : M (List D)} {ds : List D} {c c' : Cfg} (h : mi c = .ok ds c') : fLc vs mi k t e c = fLc vs (M.ret ds) k t e c' := by
  unfold fLc
  rw [ap_bnd, ap_bnd, h]
  exact id rfl
def foF (k : TgF) (b : M Flow) (ds : List D) : Out Flow → Out Flow
  | .ok .nx c2 => forL k b ds c2
  | .ok .ct c2 => forL k b ds c2
  | .ok .bk c2 => .ok .nx c2
  | .ok (.rt r) c2 => .ok (.rt r) c2
  | .err x c2 => .err x c2
  | .stuck => .stuck
theorem fo_cons {k b d ds c} : forL k b (d :: ds) c = foF k b ds (it1 k b d c) := by
  rw [forL_cons]; unfold foF; cases it1 k b d c with
  | ok f c2 => cases f <;> rfl
  | _ => rfl
theorem fo_nil {k b c} : forL k b [] c = .ok .nx c := rfl
theorem fo_nx {k b ds c} : foF k b ds (.ok .nx c) = forL k b ds c := id rfl
theorem fo_rt {k b ds v c} : foF k b ds (.ok (.rt v) c) = .ok (.rt v) c := id rfl
theorem fo_err {k b ds x c} : foF k b ds (.err x c) = .err x c := id rfl
theorem len_rng (n : Nat) (φ : Nat → D) : ((List.range n).map φ).length = n := by simp
theorem take_rng {n k : Nat} (φ : Nat → D) (h : k ≤ n) : ((List.range n).map φ).take k = (List.range k).map φ := by
  rw [← List.map_take, List.take_range, Nat.min_eq_left h]
theorem app_rng (n m : Nat) (φ ψ : Nat → D) : (List.range n).map φ ++ (List.range m).map ψ = (List.range (n + m)).map fun j => if j < n then φ j else ψ (j - n) := by
  rw [List.range_add, List.map_append, List.map_map]
  congr 1
  · apply List.map_congr_left
    intro j hj
    rw [if_pos (by simpa using hj)]
  · apply List.map_congr_left
    intro j _
    simp only [Function.comp]
    rw [if_neg (by omega), show n + j - n = j by omega]
theorem rep_rng (k : Nat) (d : D) : rep (k : Int) [d] = (List.range k).map fun _ => d := by
  unfold rep
  rw [Int.toNat_natCast]
  induction k with
  | zero => rfl
  | succ k ih => rw [List.replicate_succ', List.flatten_concat, ih, List.range_succ, List.map_append]; rfl
end Pl

end
section
set_option Elab.async false
set_option linter.all false
set_option maxRecDepth 100000
set_option maxHeartbeats 0
set_option exponentiation.threshold 10000
/-! Pl17: texts by their signs. -/
namespace TL
open PySem L2
def tx (l : List Nat) : Str := ⟨l.toArray⟩
theorem tx_tl (x : Str) : tx (tl x) = x := mk_tl x
theorem tl_tx (l : List Nat) : tl (tx l) = l := rfl
theorem tx_len (l : List Nat) : (tx l).length = l.length := by rw [len_tl]; rfl
theorem tx_app (a b : List Nat) : tx a ++ tx b = tx (a ++ b) := ext_tl (by rw [tl_append]; rfl)
theorem tx_inj {a b : List Nat} : tx a = tx b ↔ a = b := ⟨fun h => congrArg tl h, fun h => by rw [h]⟩
theorem tx_of {x : Str} {l : List Nat} (h : tl x = l) : x = tx l := by rw [← h, tx_tl]
/-- str of an int -/
def strI (i : Int) : List Nat := if i < 0 then 45 :: numL i.natAbs else numL i.natAbs
theorem str_int (i : Int) : Str.ofString (toString i) = tx (strI i) := by
  refine tx_of ?_
  unfold strI
  by_cases h : i < 0
  · rw [if_pos h, PyProof.Rows.toString_neg h, tl_ofString, String.toList_append, List.map_append, ← tl_ofString (toString (0 - i)), show (0 - i) = ((i.natAbs : Nat) : Int) by omega, tl_num]
    rfl
  · rw [if_neg h, show i = ((i.natAbs : Nat) : Int) by omega, tl_num, Int.natAbs_natCast]
def digs (l : List Nat) : Bool := l.all fun c => decide (48 ≤ c) && decide (c ≤ 57)
theorem digs_all {l : List Nat} (h : digs l = true) : NumText.AllDigits l := fun c hc => by
  have := List.all_eq_true.mp h c hc
  simp at this
  omega
theorem digs_num (n : Nat) : digs (numL n) = true := List.all_eq_true.mpr fun c hc => by
  have := numL_digits n c hc
  simp
  omega
theorem int_tx {l : List Nat} (h : digs l = true) (h1 : l ≠ []) (h2 : l.length ≤ 4300) : intText? (tx l) = some ((NumText.digitsVal l : Nat) : Int) :=
  intText_digits (x := tx l) (digs_all h) h1 (by rw [tx_len]; exact h2)
def unN : List Nat → List Nat
  | [] => []
  | c :: r => if c = 45 then r else c :: r
def isN : List Nat → Bool
  | [] => false
  | c :: _ => decide (c = 45)
theorem sub0 (l : List Nat) : Builtin.Str.subAt (tx l) (Str.ofString "-") 0 = isN l := by
  rw [PySem.StrLaws.subAt_eq]
  have e : (Str.ofString "-").cps.toList = [45] := by decide
  have e1 : (Str.ofString "-").length = 1 := by rw [len_tl]; show ((Str.ofString "-").cps.toList).length = 1; rw [e]; rfl
  rw [e, e1]
  show ((l.drop 0).take 1 == [45]) = _
  cases l with
  | nil => rfl
  | cons c r =>
    show ([c] == [45]) = decide (c = 45)
    by_cases h : c = 45 <;> simp [h]
theorem rp_tx (l : List Nat) : Txt.removeprefix (tx l) (Str.ofString "-") = tx (unN l) := by
  rw [PySem.StrLaws.removeprefix_eq, sub0]
  have e1 : (Str.ofString "-").length = 1 := by decide
  rw [e1, tx_len]
  cases l with
  | nil => rfl
  | cons c r =>
    show (if (decide (0 + 1 ≤ (c :: r).length) && decide (c = 45)) = true then (⟨((((c :: r).drop 1).take ((c :: r).length - 1))).toArray⟩ : Str) else tx (c :: r)) = tx (if c = 45 then r else c :: r)
    by_cases h : c = 45
    · simp [h, tx]
    · simp [h]
theorem sw_tx (l : List Nat) : Txt.startswith (tx l) (Str.ofString "-") = isN l := by
  unfold Txt.startswith
  rw [sub0, tx_len]
  have e1 : (Str.ofString "-").length = 1 := by decide
  rw [e1]
  cases l with
  | nil => rfl
  | cons c r => simp [isN]
def parT (l : List Nat) : List Nat := match par [47] [] l with
  | some (a, _) => a
  | none => l
def parS (l : List Nat) : Bool := (par [47] [] l).isSome
def parL (l : List Nat) : List Nat := match par [47] [] l with
  | some (_, b) => b
  | none => []
theorem slash_tl : tl (Str.ofString "/") = [47] := by decide
theorem pt_tx (l : List Nat) : Txt.partition (tx l) (Str.ofString "/") = (tx (parT l), tx (if parS l then [47] else []), tx (parL l)) := by
  rw [partition_par _ _ (by rw [slash_tl]; simp), slash_tl]
  show (match par [47] [] l with | some (a, b) => ((⟨a.toArray⟩ : Str), Str.ofString "/", (⟨b.toArray⟩ : Str)) | none => (tx l, Str.empty, Str.empty)) = _
  unfold parT parS parL
  cases par [47] [] l with
  | none => rfl
  | some p => obtain ⟨a, b⟩ := p; rfl
/-- '0' <= c <= '9' -/
theorem lt_one (a b : Nat) : strLt ⟨#[a]⟩ ⟨#[b]⟩ = decide (a < b) := by
  unfold strLt
  show decide ([a] < [b]) = _
  simp [List.cons_lt_cons_iff]
theorem ge0 (c : Nat) : cmpP .le (.str (Str.ofString "0")) (.str ⟨#[c]⟩) = some (.bl (decide (48 ≤ c))) := by
  show some (D.bl (!strLt ⟨#[c]⟩ (Str.ofString "0"))) = _
  rw [show Str.ofString "0" = ⟨#[48]⟩ by decide, lt_one]
  by_cases h : 48 ≤ c
  · simp [h, show ¬ c < 48 by omega]
  · simp [h, show c < 48 by omega]
theorem le9 (c : Nat) : cmpP .le (.str ⟨#[c]⟩) (.str (Str.ofString "9")) = some (.bl (decide (c ≤ 57))) := by
  show some (D.bl (!strLt (Str.ofString "9") ⟨#[c]⟩)) = _
  rw [show Str.ofString "9" = ⟨#[57]⟩ by decide, lt_one]
  by_cases h : c ≤ 57
  · simp [h, show ¬ 57 < c by omega]
  · simp [h, show 57 < c by omega]
theorem signs_tx (l : List Nat) : signs (tx l) = l.map fun c => .str ⟨#[c]⟩ := rfl
/-- the text of a ratio -/
def strR (q : Rat) : List Nat := if q.den = 1 then strI q.num else strI q.num ++ 47 :: numL q.den
def rdR (l : List Nat) : Option Rat :=
  let top := parT (unN l)
  let low := if parS (unN l) then parL (unN l) else [49]
  if (!top.isEmpty && digs top) && (!low.isEmpty && digs low) then
    (if NumText.digitsVal low = 0 then none
    else
      let q := Rat.divInt (NumText.digitsVal top : Int) (NumText.digitsVal low : Int)
      let q := if isN l then -q else q
      if strR q = l then some q else none)
  else none
theorem numL_free47 (n : Nat) : 47 ∉ numL n := numL_free (by omega)
theorem numL_head (n : Nat) : ∃ c r, numL n = c :: r ∧ 48 ≤ c := by
  cases h : numL n with
  | nil => exact absurd h (numL_ne n)
  | cons c r => exact ⟨c, r, rfl, (numL_digits n c (by rw [h]; simp)).1⟩
theorem unN_strI (i : Int) (r : List Nat) : unN (strI i ++ r) = numL i.natAbs ++ r ∧ isN (strI i ++ r) = decide (i < 0) := by
  unfold strI
  by_cases h : i < 0
  · rw [if_pos h]
    simp [unN, isN, h]
  · rw [if_neg h]
    obtain ⟨c, r', e, hc⟩ := numL_head i.natAbs
    rw [e]
    have : ¬ c = 45 := by omega
    simp [unN, isN, h, this]
theorem rd_str (q : Rat) : rdR (strR q) = some q := by
  have hden : q.den ≠ 0 := q.den_nz
  have fin : ∀ (d : Nat), d = q.den → (if decide (q.num < 0) = true then -Rat.divInt (q.num.natAbs : Int) (d : Int) else Rat.divInt (q.num.natAbs : Int) (d : Int)) = q := by
    intro d hd
    subst hd
    by_cases h : q.num < 0
    · rw [if_pos (by simpa using h), Rat.neg_divInt, show -(q.num.natAbs : Int) = q.num by omega, Rat.num_divInt_den]
    · rw [if_neg (by simpa using h), show (q.num.natAbs : Int) = q.num by omega, Rat.num_divInt_den]
  by_cases h1 : q.den = 1
  · have e0 : strR q = strI q.num ++ [] := by unfold strR; rw [if_pos h1, List.append_nil]
    obtain ⟨u1, u2⟩ := unN_strI q.num []
    have p : par [47] [] (numL q.num.natAbs ++ []) = none := by rw [List.append_nil]; exact par_none1 (numL_free47 _)
    unfold rdR parT parS parL
    rw [e0, u1, u2, p]
    simp only [List.append_nil, Option.isSome_none, Bool.false_eq_true, if_false]
    rw [if_pos (by simp [digs_num, numL_ne]; decide), numL_val, show NumText.digitsVal [49] = 1 by decide]
    rw [if_neg (by decide)]
    have f := fin 1 h1.symm
    have f : (if decide (q.num < 0) = true then -Rat.divInt (q.num.natAbs : Int) ((1 : Nat) : Int) else Rat.divInt (q.num.natAbs : Int) ((1 : Nat) : Int)) = q := f
    rw [f]
    rw [if_pos (by rw [e0, List.append_nil])]
  · have e0 : strR q = strI q.num ++ 47 :: numL q.den := by unfold strR; rw [if_neg h1]
    obtain ⟨u1, u2⟩ := unN_strI q.num (47 :: numL q.den)
    have p : par [47] [] (numL q.num.natAbs ++ 47 :: numL q.den) = some (numL q.num.natAbs, numL q.den) := by
      have := par_part1 (S := []) (rest := numL q.den) (acc := []) (numL_free47 q.num.natAbs)
      simpa using this
    unfold rdR parT parS parL
    rw [e0, u1, u2, p]
    simp only [Option.isSome_some, if_true]
    rw [if_pos (by simp [digs_num, numL_ne]), numL_val, numL_val, if_neg hden]
    have f := fin q.den rfl
    rw [f]
    rw [if_pos e0]
def rdQ (l top low : List Nat) : Option Rat :=
  if NumText.digitsVal low = 0 then none
  else
    (if strR (if isN l then -Rat.divInt (NumText.digitsVal top : Int) (NumText.digitsVal low : Int) else Rat.divInt (NumText.digitsVal top : Int) (NumText.digitsVal low : Int)) = l then
      some (if isN l then -Rat.divInt (NumText.digitsVal top : Int) (NumText.digitsVal low : Int) else Rat.divInt (NumText.digitsVal top : Int) (NumText.digitsVal low : Int)) else none)
def lowL (l : List Nat) : List Nat := if parS l then parL l else [49]
theorem rdR_eq (l : List Nat) : rdR l = if ((!(parT (unN l)).isEmpty && digs (parT (unN l))) && (!(lowL (unN l)).isEmpty && digs (lowL (unN l)))) = true then rdQ l (parT (unN l)) (lowL (unN l)) else none := rfl
theorem rd_back {l : List Nat} {q : Rat} (h : rdR l = some q) : strR q = l := by
  rw [rdR_eq] at h
  by_cases h1 : ((!(parT (unN l)).isEmpty && digs (parT (unN l))) && (!(lowL (unN l)).isEmpty && digs (lowL (unN l)))) = true
  · rw [if_pos h1] at h
    generalize parT (unN l) = a at h
    generalize lowL (unN l) = b at h
    unfold rdQ at h
    by_cases h2 : NumText.digitsVal b = 0
    · rw [if_pos h2] at h; cases h
    · rw [if_neg h2] at h
      generalize (if isN l = true then -Rat.divInt (NumText.digitsVal a : Int) (NumText.digitsVal b : Int) else Rat.divInt (NumText.digitsVal a : Int) (NumText.digitsVal b : Int)) = z at h
      by_cases h3 : strR z = l
      · rw [if_pos h3] at h; cases h; exact h3
      · rw [if_neg h3] at h; cases h
  · rw [if_neg h1] at h; cases h

theorem foldl_digs (l : List Nat) : ∀ a : Nat, digs l = true → l.foldl (fun acc c => acc * 10 + (c - 48)) a < (a + 1) * 10 ^ l.length := by
  induction l with
  | nil => intro a _; simp
  | cons c r ih =>
    intro a h
    have hc : (decide (48 ≤ c) && decide (c ≤ 57)) = true := List.all_eq_true.mp h c (by simp)
    simp at hc
    have hr : digs r = true := List.all_eq_true.mpr fun x hx => List.all_eq_true.mp h x (by simp [hx])
    have := ih (a * 10 + (c - 48)) hr
    rw [List.foldl_cons, List.length_cons, Nat.pow_succ]
    refine Nat.lt_of_lt_of_le this ?_
    rw [Nat.mul_comm (10 ^ r.length) 10, ← Nat.mul_assoc]
    exact Nat.mul_le_mul_right _ (by omega)
theorem val_lt {l : List Nat} {k : Nat} (h : digs l = true) (hl : l.length ≤ k) : NumText.digitsVal l < 10 ^ k := by
  have := foldl_digs l 0 h
  unfold NumText.digitsVal
  rw [Nat.zero_add, Nat.one_mul] at this
  exact Nat.lt_of_lt_of_le this (Nat.pow_le_pow_right (by decide) hl)
theorem drop_len {S : List Nat} : ∀ {l acc a b : List Nat}, par S acc l = some (a, b) → a.length ≤ acc.length + l.length ∧ b.length ≤ l.length
  | [], acc, a, b, h => by cases h
  | c :: r, acc, a, b, h => by
    unfold par at h
    by_cases z : pre S (c :: r) = true
    · rw [if_pos z] at h
      cases h
      exact ⟨Nat.le_add_right _ _, by rw [List.length_drop]; exact Nat.sub_le _ _⟩
    · rw [if_neg z] at h
      have := drop_len h
      rw [List.length_append] at this
      simp at this ⊢
      omega
theorem unN_len (l : List Nat) : (unN l).length ≤ l.length := by
  cases l with
  | nil => exact Nat.le_refl _
  | cons c r =>
    show (if c = 45 then r else c :: r).length ≤ _
    by_cases h : c = 45 <;> simp [h]
theorem parT_len (l : List Nat) : (parT l).length ≤ l.length := by
  unfold parT
  split
  · rename_i a b h
    have := (drop_len h).1
    simpa using this
  · exact Nat.le_refl _
theorem parL_len (l : List Nat) : (parL l).length ≤ l.length := by
  unfold parL
  split
  · rename_i a b h
    exact (drop_len h).2
  · simp
theorem parL_no {l : List Nat} (h : parS l = false) : parL l = [] := by
  unfold parS at h
  unfold parL
  cases e : par [47] [] l with
  | none => rfl
  | some p => rw [e] at h; cases h
/-! num, den of a fraction -/
theorem frac_bd {a b : Int} {k : Nat} (hb : b ≠ 0) (ha : a.natAbs < k) (hb2 : b.natAbs < k) : (Rat.divInt a b).num.natAbs < k ∧ (Rat.divInt a b).den < k := by
  have h0 : 0 < k := by omega
  have key : ∀ (x : Int) (d : Nat), d ≠ 0 → x.natAbs < k → d < k → (Rat.divInt x (d : Int)).num.natAbs < k ∧ (Rat.divInt x (d : Int)).den < k := by
    intro x d hd hx hd2
    rw [Rat.divInt_ofNat, Rat.num_mkRat, Rat.den_mkRat, if_neg hd, if_neg hd]
    exact ⟨Nat.lt_of_le_of_lt (Int.natAbs_ediv_le_natAbs ..) hx, Nat.lt_of_le_of_lt (Nat.div_le_self ..) hd2⟩
  by_cases hs : b < 0
  · obtain ⟨d, rfl⟩ : ∃ d : Nat, b = -(d : Int) := ⟨b.natAbs, by omega⟩
    have e : Rat.divInt a (-(d : Int)) = Rat.divInt (-a) d := by rw [← Rat.neg_divInt_neg, Int.neg_neg]
    rw [e]
    exact key (-a) d (by omega) (by omega) (by omega)
  · obtain ⟨d, rfl⟩ : ∃ d : Nat, b = (d : Int) := ⟨b.natAbs, by omega⟩
    exact key a d (by omega) ha (by omega)
end TL
namespace Pl
open TL PySem
section
variable {Φ : Phi} {c : Cfg}
def riK (Ci fl : Nat) : List D → M TL.Flow := fun ds c => match ds with
  | [d] => .err ⟨Ci, [(fl, d)]⟩ c
  | _ => .stuck
theorem ap_riI {Ci fl : Nat} {ma : M (List D)} : TL.sRaiseI Ci fl ma c = M.bnd ma (riK Ci fl) c := id rfl
theorem ri_1 {Ci fl : Nat} {d : D} : riK Ci fl [d] c = .err ⟨Ci, [(fl, d)]⟩ c := id rfl
theorem fs_nil {acc : Str} : eFs [] acc c = .ok (.str acc) c := id rfl
theorem fs_cons {m : M D} {ms : List (M D)} {acc : Str} : eFs (m :: ms) acc c = M.bnd m (fsK (eFs ms) acc) c := id rfl
theorem fs_s {r : Str → M D} {acc y : Str} : fsK r acc (.str y) c = if sizeOk (acc ++ y).length = true then r (acc ++ y) c else .stuck := by
  unfold fsK; dsimp only; split <;> exact id rfl
theorem fm_i {i : Int} (h : i.natAbs.log2 < 1920) : fmtK (.int i) c = .ok (.str (tx (strI i))) c := by
  unfold fmtK; dsimp only; rw [if_pos h, str_int]; exact id rfl
theorem so_i {f : Nat} {i : Int} (h : i.natAbs.log2 < 1920) : strO Φ f (.int i) c = .ok (.str (tx (strI i))) c := by
  unfold strO; dsimp only; rw [if_pos h, str_int]; exact id rfl
theorem so_r {f : Nat} {a : Rat} : strO Φ f (.rat a) c = strBk c (Φ f [.rat a] c.ce) := id rfl
theorem sb_ok {z : Str} {ce} : strBk c (.ok (.v (.str z)) ce) = .ok (.str z) { c with ce := ce } := id rfl
def mtB (is : D → Bool) (f : D → List D → M D) (ma : M (List D)) (d : D) : M D := if is d then M.bnd ma fun ds => f d ds else M.stk
theorem ap_mth {is : D → Bool} {f : D → List D → M D} {mo : M D} {ma : M (List D)} : eMth is f mo ma c = M.bnd mo (mtB is f ma) c := id rfl
theorem mt_s {f : D → List D → M D} {ma : M (List D)} {z : Str} : mtB isStr f ma (.str z) c = M.bnd ma (f (.str z)) c := id rfl
theorem rp_s {a b : Str} (h : sizeOk a.length = true) : rpK (.str a) [.str b] c = .ok (.str (Txt.removeprefix a b)) c := by
  unfold rpK; dsimp only; rw [if_pos h]; exact id rfl
theorem sw_s {a b : Str} : swK (.str a) [.str b] c = .ok (.bl (Txt.startswith a b)) c := id rfl
theorem pt_s {a b : Str} (h : ((!(b.length == 0)) && sizeOk a.length) = true) : ptK (.str a) [.str b] c = .ok (.tup [.str (Txt.partition a b).1, .str (Txt.partition a b).2.1, .str (Txt.partition a b).2.2]) c := by
  unfold ptK; dsimp only; rw [if_pos h]; exact id rfl
theorem ik_s {z : Str} {n : Int} (h : intText? z = some n) (hl : z.length ≤ 640) : intK (.str z) c = .ok (.int n) c := by
  unfold intK; dsimp only; rw [h]; dsimp only; rw [if_pos hl]; exact id rfl
theorem ln_s {z : Str} (h : z.length ≤ 16777216) : lenK (.str z) c = .ok (.int z.length) c := by
  unfold lenK; dsimp only; rw [if_pos (show sizeOk z.length = true from decide_eq_true h)]
def chB (k' : D → D → M D) (md : M D) (y : D) : D → M D := fun r => match r with
  | .bl true => M.bnd md fun z => k' y z
  | .bl false => M.ret (.bl false)
  | _ => M.stk
theorem ap_chn {k k' : D → D → M D} {ma mb md : M D} : eChain k k' ma mb md c = M.bnd ma (fun x => M.bnd mb fun y => M.bnd (k x y) (chB k' md y)) c := id rfl
theorem ch_t {k' : D → D → M D} {md : M D} {y : D} : chB k' md y (.bl true) c = M.bnd md (k' y) c := id rfl
theorem ch_f {k' : D → D → M D} {md : M D} {y : D} : chB k' md y (.bl false) c = .ok (.bl false) c := id rfl
end
theorem log_lt {n : Nat} (h : n < 10 ^ 20) : n.log2 < 1920 := by
  by_cases h0 : n = 0
  · subst h0; decide
  · exact (Nat.log2_lt h0).mpr (Nat.lt_trans h (by decide))
end Pl

end
section
set_option Elab.async false
set_option linter.all false
set_option maxRecDepth 100000
set_option maxHeartbeats 0
namespace Lw
open PySem L2 TL
def top (i : Nat) : Stmt := PySem.Challenge.pw_doubleroads_k00_whole_ratios_of_numbers.main.body.getD i (.Pass ⟨0, 0, 0, 0⟩)
abbrev s_NoText___init__ : Stmt := inClass (top 4) 0
def d_NoText___init__ : He.DefD := ⟨("NoText", some "__init__"), "__init__", "NoText.__init__", defArgs s_NoText___init__, defBody s_NoText___init__, defScope s_NoText___init__, [], []⟩
abbrev s_is_integer : Stmt := top 6
def d_is_integer : He.DefD := ⟨("is_integer", none), "is_integer", "is_integer", defArgs s_is_integer, defBody s_is_integer, defScope s_is_integer, [], []⟩
abbrev s_common : Stmt := top 7
def d_common : He.DefD := ⟨("common", none), "common", "common", defArgs s_common, defBody s_common, defScope s_common, [], []⟩
abbrev s_Ratio___init__ : Stmt := inClass (top 10) 0
def d_Ratio___init__ : He.DefD := ⟨("Ratio", some "__init__"), "__init__", "Ratio.__init__", defArgs s_Ratio___init__, defBody s_Ratio___init__, defScope s_Ratio___init__, [.int 1], []⟩
abbrev s_Ratio___add__ : Stmt := inClass (top 10) 1
def d_Ratio___add__ : He.DefD := ⟨("Ratio", some "__add__"), "__add__", "Ratio.__add__", defArgs s_Ratio___add__, defBody s_Ratio___add__, defScope s_Ratio___add__, [], []⟩
abbrev s_Ratio___sub__ : Stmt := inClass (top 10) 2
def d_Ratio___sub__ : He.DefD := ⟨("Ratio", some "__sub__"), "__sub__", "Ratio.__sub__", defArgs s_Ratio___sub__, defBody s_Ratio___sub__, defScope s_Ratio___sub__, [], []⟩
abbrev s_Ratio___mul__ : Stmt := inClass (top 10) 3
def d_Ratio___mul__ : He.DefD := ⟨("Ratio", some "__mul__"), "__mul__", "Ratio.__mul__", defArgs s_Ratio___mul__, defBody s_Ratio___mul__, defScope s_Ratio___mul__, [], []⟩
abbrev s_Ratio___neg__ : Stmt := inClass (top 10) 4
def d_Ratio___neg__ : He.DefD := ⟨("Ratio", some "__neg__"), "__neg__", "Ratio.__neg__", defArgs s_Ratio___neg__, defBody s_Ratio___neg__, defScope s_Ratio___neg__, [], []⟩
abbrev s_Ratio___eq__ : Stmt := inClass (top 10) 5
def d_Ratio___eq__ : He.DefD := ⟨("Ratio", some "__eq__"), "__eq__", "Ratio.__eq__", defArgs s_Ratio___eq__, defBody s_Ratio___eq__, defScope s_Ratio___eq__, [], []⟩
abbrev s_Ratio___str__ : Stmt := inClass (top 10) 6
def d_Ratio___str__ : He.DefD := ⟨("Ratio", some "__str__"), "__str__", "Ratio.__str__", defArgs s_Ratio___str__, defBody s_Ratio___str__, defScope s_Ratio___str__, [], []⟩
abbrev s_Ratio_over : Stmt := inClass (top 10) 7
def d_Ratio_over : He.DefD := ⟨("Ratio", some "over"), "over", "Ratio.over", defArgs s_Ratio_over, defBody s_Ratio_over, defScope s_Ratio_over, [], []⟩
abbrev s_Ratio_sign : Stmt := inClass (top 10) 8
def d_Ratio_sign : He.DefD := ⟨("Ratio", some "sign"), "sign", "Ratio.sign", defArgs s_Ratio_sign, defBody s_Ratio_sign, defScope s_Ratio_sign, [], []⟩
abbrev s_Ratio_is_whole : Stmt := inClass (top 10) 9
def d_Ratio_is_whole : He.DefD := ⟨("Ratio", some "is_whole"), "is_whole", "Ratio.is_whole", defArgs s_Ratio_is_whole, defBody s_Ratio_is_whole, defScope s_Ratio_is_whole, [], []⟩
abbrev s_check_ratio : Stmt := top 11
def d_check_ratio : He.DefD := ⟨("check_ratio", none), "check_ratio", "check_ratio", defArgs s_check_ratio, defBody s_check_ratio, defScope s_check_ratio, [], []⟩
abbrev s_read_ratio : Stmt := top 12
def d_read_ratio : He.DefD := ⟨("read_ratio", none), "read_ratio", "read_ratio", defArgs s_read_ratio, defBody s_read_ratio, defScope s_read_ratio, [], []⟩
abbrev s__law_state : Stmt := top 14
def d__law_state : He.DefD := ⟨("_law_state", none), "_law_state", "_law_state", defArgs s__law_state, defBody s__law_state, defScope s__law_state, [], []⟩
abbrev s__law_take : Stmt := top 15
def d__law_take : He.DefD := ⟨("_law_take", none), "_law_take", "_law_take", defArgs s__law_take, defBody s__law_take, defScope s__law_take, [], []⟩
abbrev s__law_says : Stmt := top 16
def d__law_says : He.DefD := ⟨("_law_says", none), "_law_says", "_law_says", defArgs s__law_says, defBody s__law_says, defScope s__law_says, [], []⟩
abbrev s__law_is_whole : Stmt := top 17
def d__law_is_whole : He.DefD := ⟨("_law_is_whole", none), "_law_is_whole", "_law_is_whole", defArgs s__law_is_whole, defBody s__law_is_whole, defScope s__law_is_whole, [], []⟩
abbrev s__law_same : Stmt := top 18
def d__law_same : He.DefD := ⟨("_law_same", none), "_law_same", "_law_same", defArgs s__law_same, defBody s__law_same, defScope s__law_same, [], []⟩
abbrev s__law_common : Stmt := top 19
def d__law_common : He.DefD := ⟨("_law_common", none), "_law_common", "_law_common", defArgs s__law_common, defBody s__law_common, defScope s__law_common, [], []⟩
abbrev s__law_db_made : Stmt := top 20
def d__law_db_made : He.DefD := ⟨("_law_db_made", none), "_law_db_made", "_law_db_made", defArgs s__law_db_made, defBody s__law_db_made, defScope s__law_db_made, [], []⟩
abbrev s__law_db_over : Stmt := top 21
def d__law_db_over : He.DefD := ⟨("_law_db_over", none), "_law_db_over", "_law_db_over", defArgs s__law_db_over, defBody s__law_db_over, defScope s__law_db_over, [], []⟩
abbrev s__law_db_plus_of : Stmt := top 22
def d__law_db_plus_of : He.DefD := ⟨("_law_db_plus_of", none), "_law_db_plus_of", "_law_db_plus_of", defArgs s__law_db_plus_of, defBody s__law_db_plus_of, defScope s__law_db_plus_of, [], []⟩
abbrev s__law_db_told : Stmt := top 23
def d__law_db_told : He.DefD := ⟨("_law_db_told", none), "_law_db_told", "_law_db_told", defArgs s__law_db_told, defBody s__law_db_told, defScope s__law_db_told, [], []⟩
abbrev s_law : Stmt := top 24
def d_law : He.DefD := ⟨("law", none), "law", "law", defArgs s_law, defBody s_law, defScope s_law, [], []⟩
def fn : List He.DefD := ([d_NoText___init__, d_is_integer, d_common, d_Ratio___init__, d_Ratio___add__, d_Ratio___sub__, d_Ratio___mul__, d_Ratio___neg__, d_Ratio___eq__, d_Ratio___str__, d_Ratio_over, d_Ratio_sign, d_Ratio_is_whole, d_check_ratio, d_read_ratio, d__law_state, d__law_take, d__law_says, d__law_is_whole, d__law_same, d__law_common, d__law_db_made, d__law_db_over, d__law_db_plus_of, d__law_db_told, d_law] : List He.DefD)
def fa : List He.Fa := ([.free "isinstance", .free "bool", .free "int", .free "abs", .glo "common", .glo "ZeroDivisor", .glo "is_integer", .glo "Malformed", .glo "Ratio", .glo "check_ratio", .free "str", .glo "NoText", .free "all", .free "len", .int "MOST_DIGITS" 400, .glo "_law_is_whole", .free "tuple", .free "range", .glo "_law_same", .glo "_law_db_told", .glo "_law_db_over", .glo "_law_db_plus_of", .glo "_law_db_made", .glo "read_ratio", .glo "_law_says", .glo "_law_common", .glo "_law_take", .glo "_law_state", .glo "law", .glo "Fault"] : List He.Fa) ++ ([.cls "Ratio", .mkr "Ratio", .noat "Ratio" "n", .noat "Ratio" "d", .meth "Ratio" "over", .meth "Ratio" "sign", .meth "Ratio" "is_whole", .exc "ZeroDivisor", .exc "Malformed", .exm "Fault" "Malformed" false, .exm "Fault" "NoText" false, .exm "Fault" "ZeroDivisor" false, .exm "ZeroDivisor" "Malformed" false, .exm "ZeroDivisor" "NoText" false, .exm "ZeroDivisor" "ZeroDivisor" true, .exm "Malformed" "Malformed" true, .exm "Malformed" "NoText" false, .exm "Malformed" "ZeroDivisor" false, .exm "NoText" "Malformed" false, .exm "NoText" "NoText" true, .exm "NoText" "ZeroDivisor" false] : List He.Fa)
def fb : List Fb := ([.oex "NoText", .oin "NoText", .xf "NoText", .noat "NoText" "at", .cread "Fault", .cinit "Fault", .isp, .icl "Ratio", .bo "int" "Ratio", .ob "Ratio" "int", .bo "str" "Ratio", .ob "Ratio" "str", .bo "bool" "Ratio", .ob "Ratio" "bool", .bo "NoneType" "Ratio", .ob "Ratio" "NoneType", .bo "tuple" "Ratio", .ob "Ratio" "tuple", .bo "list" "Ratio", .ob "Ratio" "list", .oo "Ratio" "Ratio" true, .first "Ratio", .sub "Ratio" "object" true, .nsub "int" "Ratio", .nsub "str" "Ratio", .nsub "bool" "Ratio", .nsub "NoneType" "Ratio", .nsub "tuple" "Ratio", .nsub "list" "Ratio", .at_ "Ratio" "__add__" "__add__"] : List Fb) ++ ([.at_ "Ratio" "__sub__" "__sub__", .at_ "Ratio" "__mul__" "__mul__", .at_ "Ratio" "__neg__" "__neg__", .at_ "Ratio" "__eq__" "__eq__", .at_ "Ratio" "__str__" "__str__", .noat "Ratio" "__radd__", .noat "Ratio" "__rsub__", .noat "Ratio" "__rmul__", .bu "Ratio" "__ne__" "object.__ne__"] : List Fb)
def loose : List Str := (["Fault", "ZeroDivisor", "Malformed", "NoText", "is_integer", "common", "Ratio", "check_ratio", "read_ratio", "_law_state", "_law_take", "_law_says", "_law_is_whole", "_law_same", "_law_common", "_law_db_made", "_law_db_over", "_law_db_plus_of", "_law_db_told", "MOST_DIGITS"] : List Str)
def nms : List Str := ["n", "d", "at", "over", "sign", "is_whole"]
def clsN : Nat → Str
  | 0 => "Ratio"
  | 50 => "Fault"
  | 51 => "ZeroDivisor"
  | 52 => "Malformed"
  | 53 => "NoText"
  | _ => ""
def fatN : Nat → Str × Option Str
  | 0 => ("NoText", some "__init__")
  | 1 => ("is_integer", none)
  | 2 => ("common", none)
  | 3 => ("Ratio", some "__init__")
  | 4 => ("Ratio", some "__add__")
  | 5 => ("Ratio", some "__sub__")
  | 6 => ("Ratio", some "__mul__")
  | 7 => ("Ratio", some "__neg__")
  | 8 => ("Ratio", some "__eq__")
  | 9 => ("Ratio", some "__str__")
  | 10 => ("Ratio", some "over")
  | 11 => ("Ratio", some "sign")
  | 12 => ("Ratio", some "is_whole")
  | 13 => ("check_ratio", none)
  | 14 => ("read_ratio", none)
  | 15 => ("_law_state", none)
  | 16 => ("_law_take", none)
  | 17 => ("_law_says", none)
  | 18 => ("_law_is_whole", none)
  | 19 => ("_law_same", none)
  | 20 => ("_law_common", none)
  | 21 => ("_law_db_made", none)
  | 22 => ("_law_db_over", none)
  | 23 => ("_law_db_plus_of", none)
  | 24 => ("_law_db_told", none)
  | 25 => ("law", none)
  | _ => ("", none)
def dflN : Nat → List (List D)
  | 3 => [[], [.int 1]]
  | _ => [[]]
def tb (K : PySem.W.Frag) (mg : Str → Option Value) : TL.Tab := ⟨K, mg, fun i => He.ga K (clsN i), fun i => He.fAd K (fatN i), nmOf nms, nmOf_inj (by decide +kernel) (by decide +kernel), dflN⟩
def NF : Nat := 100000
structure Fx (K : PySem.W.Frag) (mg : Str → Option Value) : Prop where
  ex : ∃ h : Heap, K.In h ∧ h.Ns mainGlobals mg
  d : He.SaysD fa fn K
  x : exB fb K = true
section
variable {K : PySem.W.Frag} {mg : Str → Option Value}
theorem Fx.g (fx : Fx K mg) (i : Nat) {x : Str} (e : fa[i]? = some (.glo x) := by rfl) : mg x = some (.ref (He.ga K x)) := by
  obtain ⟨h, X, G⟩ := fx.ex
  exact He.glo_ok X G (fx.d.fact i e)
theorem Fx.f (fx : Fx K mg) (i : Nat) {x : Str} (e : fa[i]? = some (.free x) := by rfl) : mg x = none := by
  obtain ⟨h, X, G⟩ := fx.ex
  exact He.free_ok X G (fx.d.fact i e)
theorem Fx.i (fx : Fx K mg) (i : Nat) {x : Str} {n : Int} (e : fa[i]? = some (.int x n) := by rfl) : ∃ t, mg x = some (.int n t) := by
  obtain ⟨h, X, G⟩ := fx.ex
  exact He.int_ok X G (fx.d.fact i e)
theorem Fx.fq_n (fx : Fx K mg) : FldQ (tb K mg) [0] 0 := fun C h => by
  simp only [List.mem_cons, List.not_mem_nil, or_false] at h
  subst h; exact ⟨He.cls_ok (fx.d.fact 30 (f := .cls "Ratio") rfl), He.noat_ok (fx.d.fact 32 (f := .noat "Ratio" "n") rfl)⟩
theorem Fx.fq_d (fx : Fx K mg) : FldQ (tb K mg) [0] 1 := fun C h => by
  simp only [List.mem_cons, List.not_mem_nil, or_false] at h
  subst h; exact ⟨He.cls_ok (fx.d.fact 30 (f := .cls "Ratio") rfl), He.noat_ok (fx.d.fact 33 (f := .noat "Ratio" "d") rfl)⟩
theorem Fx.rz_ZeroDivisor (fx : Fx K mg) : Rz0 (tb K mg) 51 He.veBase "ValueError.__new__" := let h := He.exc_ok (fx.d.fact 37 (f := .exc "ZeroDivisor") rfl); ⟨h.1, h.2.1, h.2.2.1, h.2.2.2⟩
theorem Fx.rz_Malformed (fx : Fx K mg) : Rz0 (tb K mg) 52 He.veBase "ValueError.__new__" := let h := He.exc_ok (fx.d.fact 38 (f := .exc "Malformed") rfl); ⟨h.1, h.2.1, h.2.2.1, h.2.2.2⟩
theorem Fx.rz_NoText (fx : Fx K mg) : RzI (tb K mg) 53 2 0 := ⟨oexB_ok (exB_at fx.x 0 (f := .oex "NoText")), (oin_ok (exB_at fx.x 1 (f := .oin "NoText"))).1, (oin_ok (exB_at fx.x 1 (f := .oin "NoText"))).2, He.eqO_ok (exB_at fx.x 3 (f := .noat "NoText" "at"))⟩
theorem Fx.xf_NoText (fx : Fx K mg) : XfC (tb K mg).K ((tb K mg).cls 53) := xfB_ok (exB_at fx.x 2 (f := .xf "NoText"))
def XT : Nat → Nat → Option Bool
  | 50, 52 => some false
  | 50, 53 => some false
  | 50, 51 => some false
  | 51, 52 => some false
  | 51, 53 => some false
  | 51, 51 => some true
  | 52, 52 => some true
  | 52, 53 => some false
  | 52, 51 => some false
  | 53, 52 => some false
  | 53, 53 => some true
  | 53, 51 => some false
  | _, _ => none
theorem Fx.xt (fx : Fx K mg) : XtOk (tb K mg) XT := by
  intro i j b h
  unfold XT at h
  split at h
  · cases h; exact He.exm_ok (fx.d.fact 39 (f := .exm "Fault" "Malformed" false) rfl)
  · cases h; exact He.exm_ok (fx.d.fact 40 (f := .exm "Fault" "NoText" false) rfl)
  · cases h; exact He.exm_ok (fx.d.fact 41 (f := .exm "Fault" "ZeroDivisor" false) rfl)
  · cases h; exact He.exm_ok (fx.d.fact 42 (f := .exm "ZeroDivisor" "Malformed" false) rfl)
  · cases h; exact He.exm_ok (fx.d.fact 43 (f := .exm "ZeroDivisor" "NoText" false) rfl)
  · cases h; exact He.exm_ok (fx.d.fact 44 (f := .exm "ZeroDivisor" "ZeroDivisor" true) rfl)
  · cases h; exact He.exm_ok (fx.d.fact 45 (f := .exm "Malformed" "Malformed" true) rfl)
  · cases h; exact He.exm_ok (fx.d.fact 46 (f := .exm "Malformed" "NoText" false) rfl)
  · cases h; exact He.exm_ok (fx.d.fact 47 (f := .exm "Malformed" "ZeroDivisor" false) rfl)
  · cases h; exact He.exm_ok (fx.d.fact 48 (f := .exm "NoText" "Malformed" false) rfl)
  · cases h; exact He.exm_ok (fx.d.fact 49 (f := .exm "NoText" "NoText" true) rfl)
  · cases h; exact He.exm_ok (fx.d.fact 50 (f := .exm "NoText" "ZeroDivisor" false) rfl)
  · cases h
theorem Fx.isq (fx : Fx K mg) : IsQ (tb K mg) 1 := by
  refine ⟨fun n hn C hC => ?_, fun n hn C hC => ?_, fun C hC C2 hC2 => ?_, fun C hC => ?_, (isp_ok (exB_at fx.x 6)).1, (isp_ok (exB_at fx.x 6)).2⟩
  · have hn : n = "int" ∨ n = "str" ∨ n = "bool" ∨ n = "NoneType" ∨ n = "tuple" ∨ n = "list" := by simpa [tyNames] using hn
    rcases (show C = 0 by omega) with rfl
    all_goals rcases hn with rfl | rfl | rfl | rfl | rfl | rfl
    · exact of_decide_eq_true (exB_at fx.x 8 (f := .bo "int" "Ratio"))
    · exact of_decide_eq_true (exB_at fx.x 10 (f := .bo "str" "Ratio"))
    · exact of_decide_eq_true (exB_at fx.x 12 (f := .bo "bool" "Ratio"))
    · exact of_decide_eq_true (exB_at fx.x 14 (f := .bo "NoneType" "Ratio"))
    · exact of_decide_eq_true (exB_at fx.x 16 (f := .bo "tuple" "Ratio"))
    · exact of_decide_eq_true (exB_at fx.x 18 (f := .bo "list" "Ratio"))
  · have hn : n = "int" ∨ n = "str" ∨ n = "bool" ∨ n = "NoneType" ∨ n = "tuple" ∨ n = "list" := by simpa [tyNames] using hn
    rcases (show C = 0 by omega) with rfl
    all_goals rcases hn with rfl | rfl | rfl | rfl | rfl | rfl
    · exact of_decide_eq_true (exB_at fx.x 9 (f := .ob "Ratio" "int"))
    · exact of_decide_eq_true (exB_at fx.x 11 (f := .ob "Ratio" "str"))
    · exact of_decide_eq_true (exB_at fx.x 13 (f := .ob "Ratio" "bool"))
    · exact of_decide_eq_true (exB_at fx.x 15 (f := .ob "Ratio" "NoneType"))
    · exact of_decide_eq_true (exB_at fx.x 17 (f := .ob "Ratio" "tuple"))
    · exact of_decide_eq_true (exB_at fx.x 19 (f := .ob "Ratio" "list"))
  · rcases (show C = 0 by omega) with rfl
    all_goals rcases (show C2 = 0 by omega) with rfl
    · exact of_decide_eq_true (exB_at fx.x 20 (f := .oo "Ratio" "Ratio" true))
  · rcases (show C = 0 by omega) with rfl
    · exact ⟨He.cls_ok (fx.d.fact 30 (f := .cls "Ratio") rfl), (icl_ok (exB_at fx.x 7 (f := .icl "Ratio"))).1, (icl_ok (exB_at fx.x 7 (f := .icl "Ratio"))).2⟩
theorem Fx.nf (fx : Fx K mg) : ∀ n ∈ tyNames, PySem.W.subIn (tb K mg).K (.type n) (.ref ((tb K mg).cls 0)) = some false := by
  intro n hn
  have hn : n = "int" ∨ n = "str" ∨ n = "bool" ∨ n = "NoneType" ∨ n = "tuple" ∨ n = "list" := by simpa [tyNames] using hn
  rcases hn with rfl | rfl | rfl | rfl | rfl | rfl
  · exact of_decide_eq_true (exB_at fx.x 23 (f := .nsub "int" "Ratio"))
  · exact of_decide_eq_true (exB_at fx.x 24 (f := .nsub "str" "Ratio"))
  · exact of_decide_eq_true (exB_at fx.x 25 (f := .nsub "bool" "Ratio"))
  · exact of_decide_eq_true (exB_at fx.x 26 (f := .nsub "NoneType" "Ratio"))
  · exact of_decide_eq_true (exB_at fx.x 27 (f := .nsub "tuple" "Ratio"))
  · exact of_decide_eq_true (exB_at fx.x 28 (f := .nsub "list" "Ratio"))
theorem Fx.opq_Add (fx : Fx K mg) : OpQ (tb K mg) .Add 4 := ⟨(at_ok (exB_at fx.x 29 (f := .at_ "Ratio" "__add__" "__add__"))).1, (at_ok (exB_at fx.x 29 (f := .at_ "Ratio" "__add__" "__add__"))).2, exB_at fx.x 21 (f := .first "Ratio"), He.eqO_ok (exB_at fx.x 35 (f := .noat "Ratio" "__radd__")), fx.nf, List.Mem.head _⟩
theorem Fx.opq_Sub (fx : Fx K mg) : OpQ (tb K mg) .Sub 5 := ⟨(at_ok (exB_at fx.x 30 (f := .at_ "Ratio" "__sub__" "__sub__"))).1, (at_ok (exB_at fx.x 30 (f := .at_ "Ratio" "__sub__" "__sub__"))).2, exB_at fx.x 21 (f := .first "Ratio"), He.eqO_ok (exB_at fx.x 36 (f := .noat "Ratio" "__rsub__")), fx.nf, List.Mem.head _⟩
theorem Fx.opq_Mult (fx : Fx K mg) : OpQ (tb K mg) .Mult 6 := ⟨(at_ok (exB_at fx.x 31 (f := .at_ "Ratio" "__mul__" "__mul__"))).1, (at_ok (exB_at fx.x 31 (f := .at_ "Ratio" "__mul__" "__mul__"))).2, exB_at fx.x 21 (f := .first "Ratio"), He.eqO_ok (exB_at fx.x 37 (f := .noat "Ratio" "__rmul__")), fx.nf, List.Mem.head _⟩
theorem Fx.negq (fx : Fx K mg) : NegQ (tb K mg) 7 := ⟨(at_ok (exB_at fx.x 32 (f := .at_ "Ratio" "__neg__" "__neg__"))).1, (at_ok (exB_at fx.x 32 (f := .at_ "Ratio" "__neg__" "__neg__"))).2, List.Mem.head _⟩
theorem Fx.strq (fx : Fx K mg) : StrQ (tb K mg) 9 := ⟨(at_ok (exB_at fx.x 34 (f := .at_ "Ratio" "__str__" "__str__"))).1, (at_ok (exB_at fx.x 34 (f := .at_ "Ratio" "__str__" "__str__"))).2, List.Mem.head _⟩
def isFn : Nat → Bool
  | 1 => true
  | 2 => true
  | 4 => true
  | 5 => true
  | 6 => true
  | 7 => true
  | 8 => true
  | 9 => true
  | 10 => true
  | 11 => true
  | 12 => true
  | 13 => true
  | 14 => true
  | 15 => true
  | 16 => true
  | 17 => true
  | 18 => true
  | 19 => true
  | 20 => true
  | 21 => true
  | 22 => true
  | 23 => true
  | 24 => true
  | 25 => true
  | _ => false
def isMk : Nat → Nat → Bool
  | 0, 3 => true
  | _, _ => false
def fvs : List Nat := [14, 21, 22, 23]
structure Lv (K : PySem.W.Frag) (mg : Str → Option Value) (Φ : Phi) (P : Program) (w : World) (base : Heap) (k : Nat) : Prop where
  fn : ∀ f, isFn f = true → FnG (tb K mg) Φ P w base k f
  make : ∀ C f, isMk C f = true → InG (tb K mg) Φ P w base k C f
  xi_NoText : ∃ fd ps, FnOk P w (tb K mg).K (tb K mg).mg base (L2.CX P w) k ((tb K mg).fa 0) fd ps (spX ((tb K mg).cls 53) ((tb K mg).nm 2)) ∧ Binds (tb K mg).K fd ps []
  iw : FnW (tb K mg) P w base 18
  eq : ∃ Φ fe, RatQ (tb K mg) Φ fe ∧ FnG (tb K mg) Φ P w base k fe
theorem Lv.all {Φ : Phi} {P : Program} {w : World} {base : Heap} {k : Nat} (lv : Lv K mg Φ P w base k) : AllG (tb K mg) Φ P w base k fvs := fun f h => by
  simp only [fvs, List.mem_cons, List.not_mem_nil, or_false] at h
  rcases h with rfl | rfl | rfl | rfl <;> exact ⟨lv.fn _ rfl, List.Mem.head _⟩
theorem Fx.mq_over (fx : Fx K mg) {Φ : Phi} {X : Cx} {k : Nat} (lv : Lv K mg Φ X.prog X.w X.base k) : MethsQ (tb K mg) Φ X k [(0, 10)] 3 := fun C f h => by
  have hC : C = 0 ∧ f = 10 := by
    simp only [List.lookup] at h; split at h
    · rename_i e; exact ⟨by simpa using e, by cases h; rfl⟩
    · cases h
  obtain ⟨rfl, rfl⟩ := hC
  exact ⟨He.cls_ok (fx.d.fact 30 (f := .cls "Ratio") rfl), He.meth_ok (fx.d.fact 34 (f := .meth "Ratio" "over") rfl), lv.fn 10 rfl, List.Mem.head _⟩
theorem Fx.mq_sign (fx : Fx K mg) {Φ : Phi} {X : Cx} {k : Nat} (lv : Lv K mg Φ X.prog X.w X.base k) : MethsQ (tb K mg) Φ X k [(0, 11)] 4 := fun C f h => by
  have hC : C = 0 ∧ f = 11 := by
    simp only [List.lookup] at h; split at h
    · rename_i e; exact ⟨by simpa using e, by cases h; rfl⟩
    · cases h
  obtain ⟨rfl, rfl⟩ := hC
  exact ⟨He.cls_ok (fx.d.fact 30 (f := .cls "Ratio") rfl), He.meth_ok (fx.d.fact 35 (f := .meth "Ratio" "sign") rfl), lv.fn 11 rfl, List.Mem.head _⟩
theorem Fx.mq_is_whole (fx : Fx K mg) {Φ : Phi} {X : Cx} {k : Nat} (lv : Lv K mg Φ X.prog X.w X.base k) : MethsQ (tb K mg) Φ X k [(0, 12)] 5 := fun C f h => by
  have hC : C = 0 ∧ f = 12 := by
    simp only [List.lookup] at h; split at h
    · rename_i e; exact ⟨by simpa using e, by cases h; rfl⟩
    · cases h
  obtain ⟨rfl, rfl⟩ := hC
  exact ⟨He.cls_ok (fx.d.fact 30 (f := .cls "Ratio") rfl), He.meth_ok (fx.d.fact 36 (f := .meth "Ratio" "is_whole") rfl), lv.fn 12 rfl, List.Mem.head _⟩
end
def B_is_integer (Φ : Phi) : M TL.Flow :=
  sRet (eAnd (eIsi 1 (eNameB 0) (.ty "int")) (eNot (eIsi 1 (eNameB 0) (.ty "bool"))))
def B_common (Φ : Phi) : M TL.Flow :=
  sSeq (sPar 0 1 (aCons (M.bnd (eNameB 0) absK) (aCons (M.bnd (eNameB 1) absK) (aNil)))) (sSeq (whl (tOf (eOp (oEq 6 true) (eNameB 1) (eC (.int 0)))) (sPar 0 1 (aCons (eName 1) (aCons (eOp (oP .mod) (eNameB 0) (eNameB 1)) (aNil)))) NF) (sRetO 0))
def B_Ratio___add__ (Φ : Phi) : M TL.Flow :=
  sSeq (sDrop (eCall Φ 13 [] (aCons (eName 1) (aNil)))) (sRet (eMake Φ 3 [] (aCons (eOp (opR Φ 4 oAdd) (eOp (opR Φ 6 oMul) (eFld [0] 0 (eName 0)) (eFld [0] 1 (eName 1))) (eOp (opR Φ 6 oMul) (eFld [0] 0 (eName 1)) (eFld [0] 1 (eName 0)))) (aCons (eOp (opR Φ 6 oMul) (eFld [0] 1 (eName 0)) (eFld [0] 1 (eName 1))) (aNil)))))
def B_Ratio___sub__ (Φ : Phi) : M TL.Flow :=
  sSeq (sDrop (eCall Φ 13 [] (aCons (eName 1) (aNil)))) (sRet (eMake Φ 3 [] (aCons (eOp (opR Φ 5 (oP .sub)) (eOp (opR Φ 6 oMul) (eFld [0] 0 (eName 0)) (eFld [0] 1 (eName 1))) (eOp (opR Φ 6 oMul) (eFld [0] 0 (eName 1)) (eFld [0] 1 (eName 0)))) (aCons (eOp (opR Φ 6 oMul) (eFld [0] 1 (eName 0)) (eFld [0] 1 (eName 1))) (aNil)))))
def B_Ratio___mul__ (Φ : Phi) : M TL.Flow :=
  sSeq (sDrop (eCall Φ 13 [] (aCons (eName 1) (aNil)))) (sRet (eMake Φ 3 [] (aCons (eOp (opR Φ 6 oMul) (eFld [0] 0 (eName 0)) (eFld [0] 0 (eName 1))) (aCons (eOp (opR Φ 6 oMul) (eFld [0] 1 (eName 0)) (eFld [0] 1 (eName 1))) (aNil)))))
def B_Ratio___neg__ (Φ : Phi) : M TL.Flow :=
  sRet (eMake Φ 3 [] (aCons (M.bnd (eFld [0] 0 (eName 0)) (oNeg Φ 7)) (aCons (eFld [0] 1 (eName 0)) (aNil))))
def B_Ratio___eq__ (Φ : Phi) : M TL.Flow :=
  sRet (eAnd (eIsi 1 (eNameB 1) (.own 0)) (eAnd (eOp (oEqF false) (eFld [0] 0 (eName 0)) (eFld [0] 0 (eName 1))) (eOp (oEqF false) (eFld [0] 1 (eName 0)) (eFld [0] 1 (eName 1)))))
def B_Ratio___str__ (Φ : Phi) : M TL.Flow :=
  sSeq (sIf (tOf (eOp (oEq 6 false) (eFld [0] 1 (eName 0)) (eC (.int 1)))) (sRet (M.bnd (eFld [0] 0 (eName 0)) (strO Φ 9))) (nxt)) (sRet (eFs [M.bnd (eFld [0] 0 (eName 0)) fmtK, eC (.str "/"), M.bnd (eFld [0] 1 (eName 0)) fmtK] Str.empty))
def B_Ratio_over (Φ : Phi) : M TL.Flow :=
  sSeq (sDrop (eCall Φ 13 [] (aCons (eName 1) (aNil)))) (sRet (eMake Φ 3 [] (aCons (eOp (opR Φ 6 oMul) (eFld [0] 0 (eName 0)) (eFld [0] 1 (eName 1))) (aCons (eOp (opR Φ 6 oMul) (eFld [0] 1 (eName 0)) (eFld [0] 0 (eName 1))) (aNil)))))
def B_Ratio_sign (Φ : Phi) : M TL.Flow :=
  sRet (eIf (tOf (eOp (oC .gt) (eFld [0] 0 (eName 0)) (eC (.int 0)))) (eC (.int 1)) (eIf (tOf (eOp (oC .lt) (eFld [0] 0 (eName 0)) (eC (.int 0)))) (M.bnd (eC (.int 1)) oNegI) (eC (.int 0))))
def B_Ratio_is_whole (Φ : Phi) : M TL.Flow :=
  sRet (eOp (oEq 6 false) (eFld [0] 1 (eName 0)) (eC (.int 1)))
def B_check_ratio (Φ : Phi) : M TL.Flow :=
  sIf (bNot (tOf (eIsi 1 (eNameB 0) (.own 0)))) (sRaise0 52) (nxt)
def B_read_ratio (Φ : Phi) : M TL.Flow :=
  sSeq (sIf (bOr (bNot (tOf (eIsi 1 (eNameB 0) (.ty "str")))) (tOf (eOp (oC .gt) (M.bnd (eNameB 0) lenK) (eC (.int 400))))) (sRaiseI 53 2 (aCons (eC (.int 0)) (aNil))) (nxt)) (sSeq (sAsg (gT 3 (gsCons (gN 3) (gsCons (gN 4) (gsCons (gN 5) (gsNil))))) (eMth isStr ptK (eMth isStr rpK (eName 0) (aCons (eC (.str "-")) (aNil))) (aCons (eC (.str "/")) (aNil)))) (sSeq (sFor (wV (eTup (aCons (eName 3) (aCons (eIf (tOf (eOp (oEq 6 false) (eNameB 4) (eC (.str "/")))) (eName 5) (eC (.str "1"))) (aNil))))) (gN 1) (sIf (bOr (tOf (eOp (oEq 6 false) (eNameB 1) (eC (.str "")))) (bNot (tOf (M.bnd (eL (fLc [6] (wV (eName 1)) (gN 6) (M.ret true) (eChain (oC .le) (oC .le) (eC (.str "0")) (eNameB 6) (eC (.str "9"))))) (blsK fun bs => bs.all id))))) (sRaiseI 53 2 (aCons (eC (.int 0)) (aNil))) (nxt))) (sSeq (sIf (bAnd (tOf (eOp (oEq 6 false) (eNameB 4) (eC (.str "/")))) (tOf (eOp (oEq 6 false) (M.bnd (eNameB 5) intK) (eC (.int 0))))) (sRaiseI 53 2 (aCons (eC (.int 0)) (aNil))) (nxt)) (sSeq (sAsg (gN 2) (eMake Φ 3 [] (aCons (M.bnd (eNameB 3) intK) (aCons (eIf (tOf (eOp (oEq 6 false) (eNameB 4) (eC (.str "/")))) (M.bnd (eNameB 5) intK) (eC (.int 1))) (aNil))))) (sSeq (sAsg (gN 2) (eIf (tOf (eMth isStr swK (eName 0) (aCons (eC (.str "-")) (aNil)))) (M.bnd (eName 2) (oNeg Φ 7)) (eName 2))) (sSeq (sIf (tOf (eOp (oEq 6 true) (M.bnd (eName 2) (strO Φ 9)) (eNameB 0))) (sRaiseI 53 2 (aCons (eC (.int 0)) (aNil))) (nxt)) (sRetO 2)))))))
def B__law_state (Φ : Phi) : M TL.Flow :=
  sSeq (sAsg (gN 1) (eC (.int 0))) (sSeq (sAsg (gN 2) (eC (.int 1))) (sSeq (sFor (wV (eSl (eNameB 0) (oNone) (oSome (eC (.int 63))))) (gN 3) (sSeq (sAsg (gN 1) (eOp (opR Φ 4 oAdd) (eOp (opR Φ 6 oMul) (eNameB 1) (eC (.int 1000003))) (M.bnd (eNameB 3) absK))) (sAsg (gN 2) (eOp (oP .mod) (M.bnd (eOp (opR Φ 4 oAdd) (eOp (opR Φ 6 oMul) (eNameB 2) (eC (.int 48271))) (eNameB 3)) intK) (eC (.int 2147483647)))))) (sRetF (fLst (aCons (eName 1) (aCons (eIf (tOf (eOp (oEq 6 true) (eNameB 2) (eC (.int 1973665155)))) (eName 2) (eC (.int 7))) (aNil)))))))
def B__law_take (Φ : Phi) : M TL.Flow :=
  sSeq (sIf (tOf (eOp (oC .gt) (eIx (eNameB 0) (eC (.int 0))) (eC (.int 0)))) (sSeq (sAsg (gN 2) (eOp (oP .mod) (M.bnd (eIx (eNameB 0) (eC (.int 0))) intK) (eNameB 1))) (sSeq (sSet 0 (eOp (oP .fdiv) (eIx (eNameB 0) (eC (.int 0))) (eNameB 1)) (eC (.int 0))) (sRetO 2))) (nxt)) (sSeq (sSet 0 (eOp (oP .mod) (M.bnd (eOp (opR Φ 4 oAdd) (eOp (opR Φ 6 oMul) (eIx (eNameB 0) (eC (.int 1))) (eC (.int 48271))) (eC (.int 11))) intK) (eC (.int 2147483647))) (eC (.int 1))) (sRet (eOp (oP .mod) (M.bnd (eOp (oP .fdiv) (eIx (eNameB 0) (eC (.int 1))) (eC (.int 7))) intK) (eNameB 1))))
def B__law_says (Φ : Phi) : M TL.Flow :=
  sRet (eAnd (eIsi 1 (eNameB 0) (.ty "bool")) (eOp (oEq 6 false) (eNameB 0) (eNameB 1)))
def B__law_is_whole (Φ : Phi) : M TL.Flow :=
  sRet (eAnd (eIsi 1 (eNameB 0) (.ty "int")) (eNot (eIsi 1 (eNameB 0) (.ty "bool"))))
def B__law_same (Φ : Phi) : M TL.Flow :=
  sSeq (sIf (tOf (eIsi 1 (eNameB 1) (.ty "tuple"))) (sRet (eAnd (eIsi 1 (eNameB 0) (.ty "tuple")) (eAnd (eOp (oEq 6 false) (M.bnd (eNameB 0) lenK) (M.bnd (eNameB 1) lenK)) (M.bnd (eL (fLc [2] (M.bnd (aCons (M.bnd (eNameB 1) lenK) (aNil)) fun ds => M.opt (rngP1 ds)) (gN 2) (M.ret true) (eCall Φ 19 [] (aCons (eIx (eNameB 0) (eName 2)) (aCons (eIx (eNameB 1) (eName 2)) (aNil)))))) (blsK fun bs => bs.all id))))) (nxt)) (sSeq (sIf (tOf (eIsi 1 (eNameB 1) (.ty "str"))) (sRet (eAnd (eIsi 1 (eNameB 0) (.ty "str")) (eOp (oEq 6 false) (eNameB 0) (eNameB 1)))) (nxt)) (sSeq (sIf (tOf (eOp (oIs false) (eNameB 1) (eC .non))) (sRet (eOp (oIs false) (eNameB 0) (eC .non))) (nxt)) (sRet (eAnd (eCall Φ 18 [] (aCons (eName 0) (aNil))) (eOp (oEq 6 false) (eNameB 0) (eNameB 1))))))
def B__law_common (Φ : Phi) : M TL.Flow :=
  sSeq (whl (tOf (eOp (oEq 6 true) (eNameB 1) (eC (.int 0)))) (sPar 0 1 (aCons (eName 1) (aCons (eOp (oP .mod) (M.bnd (eNameB 0) intK) (eNameB 1)) (aNil)))) NF) (sRet (M.bnd (eNameB 0) absK))
def B__law_db_made (Φ : Phi) : M TL.Flow :=
  sRet (eMake Φ 3 [] (aCons (eName 0) (aCons (eName 1) (aNil))))
def B__law_db_over (Φ : Phi) : M TL.Flow :=
  sRet (eMeth Φ [(0, 10)] 3 (eName 0) (aCons (eName 1) (aNil)))
def B__law_db_plus_of (Φ : Phi) : M TL.Flow :=
  sRet (eOp (opR Φ 4 oAdd) (eNameB 0) (eNameB 1))
def B__law_db_told (Φ : Phi) : M TL.Flow :=
  sTry XT (sRet (eTup (aCons (eC (.str "told")) (aCons (eIf (tOf (eOp (oEq 6 false) (M.bnd (eNameB 1) lenK) (eC (.int 2)))) (eCallN Φ fvs 0 (aCons (eIx (eNameB 1) (eC (.int 0))) (aCons (eIx (eNameB 1) (eC (.int 1))) (aNil)))) (eCallN Φ fvs 0 (aCons (eIx (eNameB 1) (eC (.int 0))) (aNil)))) (aNil))))) [(51, none, fun _ => sRet (eTup (aCons (eC (.str "zero")) (aCons (eC .non) (aNil))))), (52, none, fun _ => sRet (eTup (aCons (eC (.str "malformed")) (aCons (eC .non) (aNil))))), (53, some 2, fun x c => if fldW 53 2 2 x c then .ok (.rt (.v (.tup [.str "text", .bl true]))) c else .stuck)]
def B_law (Φ : Phi) : M TL.Flow :=
  sSeq (sCell 1 (fCall Φ 15 [] (aCons (eName 0) (aNil)))) (sSeq (sPar 7 8 (aCons (eOp (opR Φ 5 (oP .sub)) (eCall Φ 16 [] (aCons (eName 1) (aCons (eC (.int 2001)) (aNil)))) (eC (.int 1000))) (aCons (eOp (opR Φ 4 oAdd) (eC (.int 1)) (eCall Φ 16 [] (aCons (eName 1) (aCons (eC (.int 60)) (aNil))))) (aNil)))) (sSeq (sPar 9 10 (aCons (eOp (opR Φ 5 (oP .sub)) (eCall Φ 16 [] (aCons (eName 1) (aCons (eC (.int 2001)) (aNil)))) (eC (.int 1000))) (aCons (eOp (opR Φ 5 (oP .sub)) (M.bnd (eC (.int 1)) oNegI) (eCall Φ 16 [] (aCons (eName 1) (aCons (eC (.int 60)) (aNil))))) (aNil)))) (sSeq (sPar 11 12 (aCons (eMake Φ 3 [] (aCons (eName 7) (aCons (eName 8) (aNil)))) (aCons (eMake Φ 3 [] (aCons (eName 9) (aCons (eName 10) (aNil)))) (aNil)))) (sSeq (sIf (bOr (tOf (eOp (oEq 6 true) (eOp (opR Φ 6 oMul) (eFld [0] 0 (eName 11)) (eNameB 8)) (eOp (opR Φ 6 oMul) (eNameB 7) (eFld [0] 1 (eName 11))))) (bOr (tOf (eOp (oEq 6 true) (eOp (opR Φ 6 oMul) (eFld [0] 0 (eName 12)) (eNameB 10)) (eOp (opR Φ 6 oMul) (eNameB 9) (eFld [0] 1 (eName 12))))) (bOr (tOf (eOp (oC .le) (eFld [0] 1 (eName 11)) (eC (.int 0)))) (bOr (tOf (eOp (oC .le) (eFld [0] 1 (eName 12)) (eC (.int 0)))) (bOr (tOf (eOp (oEq 6 true) (eCall Φ 20 [] (aCons (eFld [0] 0 (eName 11)) (aCons (eFld [0] 1 (eName 11)) (aNil)))) (eC (.int 1)))) (tOf (eOp (oEq 6 true) (eCall Φ 20 [] (aCons (eFld [0] 0 (eName 12)) (aCons (eFld [0] 1 (eName 12)) (aNil)))) (eC (.int 1))))))))) (sRet (eC (.bl false))) (nxt)) (sSeq (sIf (bOr (tOf (eOp (oEq 6 true) (eOp (opR Φ 4 oAdd) (eNameB 11) (eNameB 12)) (eMake Φ 3 [] (aCons (eOp (opR Φ 4 oAdd) (eOp (opR Φ 6 oMul) (eNameB 7) (eNameB 10)) (eOp (opR Φ 6 oMul) (eNameB 9) (eNameB 8))) (aCons (eOp (opR Φ 6 oMul) (eNameB 8) (eNameB 10)) (aNil)))))) (bOr (tOf (eOp (oEq 6 true) (eOp (opR Φ 5 (oP .sub)) (eNameB 11) (eNameB 12)) (eMake Φ 3 [] (aCons (eOp (opR Φ 5 (oP .sub)) (eOp (opR Φ 6 oMul) (eNameB 7) (eNameB 10)) (eOp (opR Φ 6 oMul) (eNameB 9) (eNameB 8))) (aCons (eOp (opR Φ 6 oMul) (eNameB 8) (eNameB 10)) (aNil)))))) (bOr (tOf (eOp (oEq 6 true) (eOp (opR Φ 6 oMul) (eNameB 11) (eNameB 12)) (eMake Φ 3 [] (aCons (eOp (opR Φ 6 oMul) (eNameB 7) (eNameB 9)) (aCons (eOp (opR Φ 6 oMul) (eNameB 8) (eNameB 10)) (aNil)))))) (tOf (eOp (oEq 6 true) (M.bnd (eName 11) (oNeg Φ 7)) (eMake Φ 3 [] (aCons (M.bnd (eName 7) (oNeg Φ 7)) (aCons (eName 8) (aNil))))))))) (sRet (eC (.bl false))) (nxt)) (sSeq (sAsg (gN 2) (eCall Φ 24 [] (aCons (eC (.fn 22)) (aCons (eTup (aCons (eName 11) (aCons (eName 12) (aNil)))) (aNil))))) (sSeq (sIf (tOf (eOp (oEq 6 true) (eNameB 2) (eIf (tOf (eOp (oEq 6 false) (eNameB 9) (eC (.int 0)))) (eTup (aCons (eC (.str "zero")) (aCons (eC .non) (aNil)))) (eTup (aCons (eC (.str "told")) (aCons (eMake Φ 3 [] (aCons (eOp (opR Φ 6 oMul) (eNameB 7) (eNameB 10)) (aCons (eOp (opR Φ 6 oMul) (eNameB 8) (eNameB 9)) (aNil)))) (aNil))))))) (sRet (eC (.bl false))) (nxt)) (sSeq (sIf (bOr (bNot (tOf (eCall Φ 19 [] (aCons (eMeth Φ [(0, 11)] 4 (eName 11) aNil) (aCons (eIf (tOf (eOp (oC .gt) (eNameB 7) (eC (.int 0)))) (eC (.int 1)) (eIf (tOf (eOp (oC .lt) (eNameB 7) (eC (.int 0)))) (M.bnd (eC (.int 1)) oNegI) (eC (.int 0)))) (aNil)))))) (bOr (bNot (tOf (eCall Φ 17 [] (aCons (eMeth Φ [(0, 12)] 5 (eName 11) aNil) (aCons (eOp (oEq 6 false) (eOp (oP .mod) (eNameB 7) (eNameB 8)) (eC (.int 0))) (aNil)))))) (bNot (tOf (eCall Φ 17 [] (aCons (eOp (oEq 6 false) (eNameB 11) (eNameB 12)) (aCons (eOp (oEq 6 false) (eOp (opR Φ 6 oMul) (eNameB 7) (eNameB 10)) (eOp (opR Φ 6 oMul) (eNameB 9) (eNameB 8))) (aNil)))))))) (sRet (eC (.bl false))) (nxt)) (sSeq (sAsg (gN 3) (eIf (tOf (eOp (oEq 6 false) (eFld [0] 1 (eName 11)) (eC (.int 1)))) (M.bnd (eFld [0] 0 (eName 11)) (strO Φ 9)) (eOp (opR Φ 4 oAdd) (eOp (opR Φ 4 oAdd) (M.bnd (eFld [0] 0 (eName 11)) (strO Φ 9)) (eC (.str "/"))) (M.bnd (eFld [0] 1 (eName 11)) (strO Φ 9))))) (sSeq (sIf (bOr (tOf (eOp (oEq 6 true) (M.bnd (eName 11) (strO Φ 9)) (eNameB 3))) (bOr (tOf (eOp (oEq 6 true) (eCall Φ 14 [] (aCons (eName 3) (aNil))) (eNameB 11))) (bOr (tOf (eOp (oEq 6 false) (eNameB 11) (eNameB 7))) (bOr (tOf (eOp (oEq 6 false) (eNameB 11) (eNameB 3))) (bNot (tOf (eOp (oEq 6 false) (eNameB 11) (eMake Φ 3 [] (aCons (eOp (opR Φ 6 oMul) (eC (.int 3)) (eNameB 7)) (aCons (eOp (opR Φ 6 oMul) (eC (.int 3)) (eNameB 8)) (aNil))))))))))) (sRet (eC (.bl false))) (nxt)) (sSeq (sFor (wV (eTup (aCons (eC (.str "")) (aCons (eC (.str "1/")) (aCons (eC (.str "/2")) (aCons (eC (.str "2/4")) (aCons (eC (.str "+1")) (aCons (eC (.str "01")) (aCons (eC (.str "1/1")) (aCons (eC (.str "-0")) (aCons (eC (.str "1/0")) (aCons (eC (.str " 1")) (aCons (eC (.str "1.5")) (aCons (eC .non) (aCons (eC (.int 5)) (aCons (eC (.str "1/-2")) (aCons (eC (.str "--1")) (aCons (eOp (opR Φ 6 oMul) (eC (.str "1")) (eC (.int 401))) (aNil))))))))))))))))))) (gN 4) (sIf (tOf (eOp (oEq 6 true) (eCall Φ 24 [] (aCons (eC (.fn 14)) (aCons (eTup (aCons (eName 4) (aNil))) (aNil)))) (eTup (aCons (eC (.str "text")) (aCons (eC (.bl true)) (aNil)))))) (sRet (eC (.bl false))) (nxt))) (sSeq (sAsg (gN 5) (eIf (bAnd (tOf (eOp (oC .gt) (eFld [0] 1 (eName 11)) (eC (.int 1)))) (tOf (eOp (oEq 6 false) (eOp (oP .mod) (eFld [0] 0 (eName 11)) (eC (.int 2))) (eC (.int 0))))) (eOp (opR Φ 4 oAdd) (eNameB 3) (eC (.str "0"))) (eOp (opR Φ 4 oAdd) (eNameB 3) (eC (.str "/1"))))) (sSeq (sIf (bAnd (tOf (eOp (oEq 6 false) (eIx (eCall Φ 24 [] (aCons (eC (.fn 14)) (aCons (eTup (aCons (eName 5) (aNil))) (aNil)))) (eC (.int 0))) (eC (.str "told")))) (tOf (eOp (oEq 6 true) (M.bnd (eCall Φ 14 [] (aCons (eName 5) (aNil))) (strO Φ 9)) (eNameB 5)))) (sRet (eC (.bl false))) (nxt)) (sSeq (sIf (tOf (eOp (oEq 6 true) (eL (fLc [13] (wV (eTup (aCons (eTup (aCons (eC (.int 1)) (aCons (eC (.int 0)) (aNil)))) (aCons (eTup (aCons (eC (.int 0)) (aCons (eC (.int 0)) (aNil)))) (aNil))))) (gN 13) (M.ret true) (eCall Φ 24 [] (aCons (eC (.fn 21)) (aCons (eName 13) (aNil)))))) (eL (fOp fMulK (eL (fLst (aCons (eTup (aCons (eC (.str "zero")) (aCons (eC .non) (aNil)))) (aNil)))) (eC (.int 2)))))) (sRet (eC (.bl false))) (nxt)) (sSeq (sOwn 6 (fLst (aCons (eTup (aCons (eC (.int 1)) (aCons (eC .non) (aNil)))) (aCons (eTup (aCons (eC .non) (aCons (eC (.int 1)) (aNil)))) (aCons (eTup (aCons (eC (.bl true)) (aCons (eC (.int 2)) (aNil)))) (aCons (eTup (aCons (eC (.str "1")) (aCons (eC (.int 1)) (aNil)))) (aCons (eTup (aCons (eC (.int 1)) (aCons (eC (.bl true)) (aNil)))) (aCons (eTup (aCons (eTup (aCons (eC (.int 1)) (aNil))) (aCons (eC (.int 1)) (aNil)))) (aNil))))))))) (sSeq (sIf (tOf (eOp (oEq 6 true) (eL (fLc [13] (wV (eName 6)) (gN 13) (M.ret true) (eIx (eCall Φ 24 [] (aCons (eC (.fn 21)) (aCons (eName 13) (aNil)))) (eC (.int 0))))) (eL (fOp fMulK (eL (fLst (aCons (eC (.str "malformed")) (aNil)))) (eC (.int 6)))))) (sRet (eC (.bl false))) (nxt)) (sSeq (sFor (wV (eTup (aCons (eC .non) (aCons (eC (.int 1)) (aCons (eC (.str "1")) (aCons (eTup (aCons (eName 11) (aNil))) (aNil))))))) (gN 4) (sIf (bOr (tOf (eOp (oEq 6 true) (eIx (eCall Φ 24 [] (aCons (eC (.fn 23)) (aCons (eTup (aCons (eName 11) (aCons (eName 4) (aNil)))) (aNil)))) (eC (.int 0))) (eC (.str "malformed")))) (tOf (eOp (oEq 6 true) (eIx (eCall Φ 24 [] (aCons (eC (.fn 22)) (aCons (eTup (aCons (eName 11) (aCons (eName 4) (aNil)))) (aNil)))) (eC (.int 0))) (eC (.str "malformed"))))) (sRet (eC (.bl false))) (nxt))) (sRet (eC (.bl true))))))))))))))))))))
def B_Ratio___init__ (Φ : Phi) : M TL.Flow :=
  sSeq (sIf (bOr (bNot (tOf (eCall Φ 1 [] (aCons (eName 1) (aNil))))) (bNot (tOf (eCall Φ 1 [] (aCons (eName 2) (aNil)))))) (sRaise0 52) (nxt)) (sSeq (sIf (tOf (eOp (oEq 6 false) (eNameB 2) (eC (.int 0)))) (sRaise0 51) (nxt)) (sSeq (sIf (tOf (eOp (oC .lt) (eNameB 2) (eC (.int 0)))) (sPar 1 2 (aCons (M.bnd (eName 1) (oNeg Φ 7)) (aCons (M.bnd (eName 2) (oNeg Φ 7)) (aNil)))) (nxt)) (sSeq (sAsg (gN 3) (eCall Φ 2 [] (aCons (eName 1) (aCons (eName 2) (aNil))))) (sSeq (sSelf [0] 0 (eOp (oP .fdiv) (eNameB 1) (eNameB 3))) (sSelf [0] 1 (eOp (oP .fdiv) (eNameB 2) (eNameB 3)))))))
def stp (Φ : Phi) : Phi
  | 1 => arity 1 (runF 1 (B_is_integer Φ))
  | 2 => arity 2 (runF 2 (B_common Φ))
  | 4 => arity 2 (runF 2 (B_Ratio___add__ Φ))
  | 5 => arity 2 (runF 2 (B_Ratio___sub__ Φ))
  | 6 => arity 2 (runF 2 (B_Ratio___mul__ Φ))
  | 7 => arity 1 (runF 1 (B_Ratio___neg__ Φ))
  | 8 => arity 2 (runF 2 (B_Ratio___eq__ Φ))
  | 9 => arity 1 (runF 1 (B_Ratio___str__ Φ))
  | 10 => arity 2 (runF 2 (B_Ratio_over Φ))
  | 11 => arity 1 (runF 1 (B_Ratio_sign Φ))
  | 12 => arity 1 (runF 1 (B_Ratio_is_whole Φ))
  | 13 => arity 1 (runF 1 (B_check_ratio Φ))
  | 14 => arity 1 (runF 7 (B_read_ratio Φ))
  | 15 => arity 1 (runF 4 (B__law_state Φ))
  | 16 => arity 2 (runF 3 (B__law_take Φ))
  | 17 => arity 2 (runF 2 (B__law_says Φ))
  | 18 => arity 1 (runF 1 (B__law_is_whole Φ))
  | 19 => arity 2 (runF 3 (B__law_same Φ))
  | 20 => arity 2 (runF 2 (B__law_common Φ))
  | 21 => arity 2 (runF 2 (B__law_db_made Φ))
  | 22 => arity 2 (runF 2 (B__law_db_over Φ))
  | 23 => arity 2 (runF 2 (B__law_db_plus_of Φ))
  | 24 => arity 2 (runF 3 (B__law_db_told Φ))
  | 25 => arity 1 (runF 14 (B_law Φ))
  | 3 => arity 2 (runI 0 4 (B_Ratio___init__ Φ))
  | _ => fun _ _ => .stuck
def Ph : Nat → Phi
  | 0 => fun _ _ _ => .stuck
  | n + 1 => stp (Ph n)
end Lw

end
section
set_option Elab.async false
set_option linter.all false
set_option maxRecDepth 100000
set_option maxHeartbeats 0
set_option exponentiation.threshold 10000
namespace Lw
open TL Pl
theorem e_is_integer (n : Nat) (ds : List D) (ce) : Ph (n + 1) 1 ds ce = arity 1 (runF 1 (B_is_integer (Ph n))) ds ce := rfl
theorem e_common (n : Nat) (ds : List D) (ce) : Ph (n + 1) 2 ds ce = arity 2 (runF 2 (B_common (Ph n))) ds ce := rfl
theorem e_Ratio___init__ (n : Nat) (ds : List D) (ce) : Ph (n + 1) 3 ds ce = arity 2 (runI 0 4 (B_Ratio___init__ (Ph n))) ds ce := rfl
theorem e_Ratio___add__ (n : Nat) (ds : List D) (ce) : Ph (n + 1) 4 ds ce = arity 2 (runF 2 (B_Ratio___add__ (Ph n))) ds ce := rfl
theorem e_Ratio___sub__ (n : Nat) (ds : List D) (ce) : Ph (n + 1) 5 ds ce = arity 2 (runF 2 (B_Ratio___sub__ (Ph n))) ds ce := rfl
theorem e_Ratio___mul__ (n : Nat) (ds : List D) (ce) : Ph (n + 1) 6 ds ce = arity 2 (runF 2 (B_Ratio___mul__ (Ph n))) ds ce := rfl
theorem e_Ratio___neg__ (n : Nat) (ds : List D) (ce) : Ph (n + 1) 7 ds ce = arity 1 (runF 1 (B_Ratio___neg__ (Ph n))) ds ce := rfl
theorem e_Ratio___eq__ (n : Nat) (ds : List D) (ce) : Ph (n + 1) 8 ds ce = arity 2 (runF 2 (B_Ratio___eq__ (Ph n))) ds ce := rfl
theorem e_Ratio___str__ (n : Nat) (ds : List D) (ce) : Ph (n + 1) 9 ds ce = arity 1 (runF 1 (B_Ratio___str__ (Ph n))) ds ce := rfl
theorem e_Ratio_over (n : Nat) (ds : List D) (ce) : Ph (n + 1) 10 ds ce = arity 2 (runF 2 (B_Ratio_over (Ph n))) ds ce := rfl
theorem e_Ratio_sign (n : Nat) (ds : List D) (ce) : Ph (n + 1) 11 ds ce = arity 1 (runF 1 (B_Ratio_sign (Ph n))) ds ce := rfl
theorem e_Ratio_is_whole (n : Nat) (ds : List D) (ce) : Ph (n + 1) 12 ds ce = arity 1 (runF 1 (B_Ratio_is_whole (Ph n))) ds ce := rfl
theorem e_check_ratio (n : Nat) (ds : List D) (ce) : Ph (n + 1) 13 ds ce = arity 1 (runF 1 (B_check_ratio (Ph n))) ds ce := rfl
theorem e_read_ratio (n : Nat) (ds : List D) (ce) : Ph (n + 1) 14 ds ce = arity 1 (runF 7 (B_read_ratio (Ph n))) ds ce := rfl
theorem e__law_state (n : Nat) (ds : List D) (ce) : Ph (n + 1) 15 ds ce = arity 1 (runF 4 (B__law_state (Ph n))) ds ce := rfl
theorem e__law_take (n : Nat) (ds : List D) (ce) : Ph (n + 1) 16 ds ce = arity 2 (runF 3 (B__law_take (Ph n))) ds ce := rfl
theorem e__law_says (n : Nat) (ds : List D) (ce) : Ph (n + 1) 17 ds ce = arity 2 (runF 2 (B__law_says (Ph n))) ds ce := rfl
theorem e__law_is_whole (n : Nat) (ds : List D) (ce) : Ph (n + 1) 18 ds ce = arity 1 (runF 1 (B__law_is_whole (Ph n))) ds ce := rfl
theorem e__law_same (n : Nat) (ds : List D) (ce) : Ph (n + 1) 19 ds ce = arity 2 (runF 3 (B__law_same (Ph n))) ds ce := rfl
theorem e__law_common (n : Nat) (ds : List D) (ce) : Ph (n + 1) 20 ds ce = arity 2 (runF 2 (B__law_common (Ph n))) ds ce := rfl
theorem e__law_db_made (n : Nat) (ds : List D) (ce) : Ph (n + 1) 21 ds ce = arity 2 (runF 2 (B__law_db_made (Ph n))) ds ce := rfl
theorem e__law_db_over (n : Nat) (ds : List D) (ce) : Ph (n + 1) 22 ds ce = arity 2 (runF 2 (B__law_db_over (Ph n))) ds ce := rfl
theorem e__law_db_plus_of (n : Nat) (ds : List D) (ce) : Ph (n + 1) 23 ds ce = arity 2 (runF 2 (B__law_db_plus_of (Ph n))) ds ce := rfl
theorem e__law_db_told (n : Nat) (ds : List D) (ce) : Ph (n + 1) 24 ds ce = arity 2 (runF 3 (B__law_db_told (Ph n))) ds ce := rfl
theorem e_law (n : Nat) (ds : List D) (ce) : Ph (n + 1) 25 ds ce = arity 1 (runF 14 (B_law (Ph n))) ds ce := rfl
/-! ### whole numbers and ratios -/
def Ev (F : FnS) (ds : List D) (r : D) : Prop := ∀ ce, F ds ce = .ok (.v r) ce
theorem v_isInt (n : Nat) (i : Int) (ce) : Ph (n + 1) 1 [.int i] ce = .ok (.v (.bl true)) ce := by
  rw [e_is_integer]
  unfold B_is_integer
  simp [cv_v, cv_f, cv_err, cl_f, cl_err, cm_v, cm_err, nt_b, nt_err, st_own, st_cell, ap_stF, it1_some, lcC_ok, lcB_f, lcB_t, lcB_b, lcA_some, ap_bnd, bd_ok, bd_err, bd_st, ad_t, ad_f, ad_err, ad_b, sq_nx, sq_rt, sq_err, sq_st, ap_ret, ap_some, ap_eC, ap_name, ap_nameB, ap_nil, ap_cons, ap_op, ap_oP, ap_oC, ap_oEq, ap_oEqF, ap_asB, ap_tOf, ap_bAnd, ap_bOr, ap_bNot, ap_ite, ap_eAnd, ap_eNot, ap_eIf, ap_chain, ap_isi, ap_isis, ap_fld, ap_ix, ap_tup, ap_fLst, ap_eL, ap_tupK, ap_tupK', ap_lenK, ap_lenK', ap_absK, ap_intK, ap_intK', ap_call, ap_callR, ap_fCall, ap_make, ap_callN, ap_meth, ap_opR, ap_opRi, ap_opRt, ap_opRl, ap_opRs, ap_neg, ap_negi, ap_negI, ap_oAddi, ap_oAddt, ap_oAdds, ap_oAddl, ap_oMuli, ap_sl, ap_oNone, ap_oSome, ap_seq, ap_if, ap_sRet, ap_sRetF, ap_sRetN, ap_sRetO, ap_drop, ap_nxt, ap_asg, ap_own, ap_cell, ap_par, ap_par3, ap_raise0, ap_self, ap_for, ap_wV, ap_set, ap_gN, ap_gT, ap_gT', ap_gsNil, ap_gsCons, ap_blsK, b_add, b_sub, b_mul, b_fdiv, b_mod, b_addt, c_lt, c_le, c_gt, c_ge, ap_runF, fin_rt, fin_nx, fin_err, ap_runI, fni_nx, fni_rt, fni_err, finC, ap_arity, setS, isD, isDs, tyB, tyNames, fldD, fget, itemP, putD, eqD_int, eqD_bl, eqD_rat, mget, hasF, List.lookup]
theorem v_common (n : Nat) (a b : Int) (hb : b.natAbs < 2 ^ 8100) (ce) : Ph (n + 1) 2 [.int a, .int b] ce = .ok (.v (.int (a.natAbs.gcd b.natAbs : Nat))) ce := by
  rw [e_common]
  have h := Pl.eucl_ok ce 8100 a.natAbs b.natAbs 100000 hb (by decide)
  unfold B_common NF
  simp [cv_v, cv_f, cv_err, cl_f, cl_err, cm_v, cm_err, nt_b, nt_err, st_own, st_cell, ap_stF, it1_some, lcC_ok, lcB_f, lcB_t, lcB_b, lcA_some, ap_bnd, bd_ok, bd_err, bd_st, ad_t, ad_f, ad_err, ad_b, sq_nx, sq_rt, sq_err, sq_st, ap_ret, ap_some, ap_eC, ap_name, ap_nameB, ap_nil, ap_cons, ap_op, ap_oP, ap_oC, ap_oEq, ap_oEqF, ap_asB, ap_tOf, ap_bAnd, ap_bOr, ap_bNot, ap_ite, ap_eAnd, ap_eNot, ap_eIf, ap_chain, ap_isi, ap_isis, ap_fld, ap_ix, ap_tup, ap_fLst, ap_eL, ap_tupK, ap_tupK', ap_lenK, ap_lenK', ap_absK, ap_intK, ap_intK', ap_call, ap_callR, ap_fCall, ap_make, ap_callN, ap_meth, ap_opR, ap_opRi, ap_opRt, ap_opRl, ap_opRs, ap_neg, ap_negi, ap_negI, ap_oAddi, ap_oAddt, ap_oAdds, ap_oAddl, ap_oMuli, ap_sl, ap_oNone, ap_oSome, ap_seq, ap_if, ap_sRet, ap_sRetF, ap_sRetN, ap_sRetO, ap_drop, ap_nxt, ap_asg, ap_own, ap_cell, ap_par, ap_par3, ap_raise0, ap_self, ap_for, ap_wV, ap_set, ap_gN, ap_gT, ap_gT', ap_gsNil, ap_gsCons, ap_blsK, b_add, b_sub, b_mul, b_fdiv, b_mod, b_addt, c_lt, c_le, c_gt, c_ge, ap_runF, fin_rt, fin_nx, fin_err, ap_runI, fni_nx, fni_rt, fni_err, finC, ap_arity, setS, isD, isDs, tyB, tyNames, fldD, fget, itemP, putD, eqD_int, eqD_bl, eqD_rat, mget, hasF, List.lookup, abs_int, h]
theorem v_make (n : Nat) (a b : Int) (hb0 : b ≠ 0) (hb : b.natAbs < 2 ^ 8100) (ce) : Ph (n + 2) 3 [.int a, .int b] ce = .ok (.v (.rat (Rat.divInt a b))) ce := by
  rw [e_Ratio___init__]
  unfold B_Ratio___init__
  have hg : 0 < a.natAbs.gcd b.natAbs := Nat.gcd_pos_of_pos_right _ (by omega)
  have hle : a.natAbs.gcd b.natAbs ≤ b.natAbs := Nat.gcd_le_right _ (by omega)
  have hl : (a.natAbs.gcd b.natAbs).log2 < 9000 := (Nat.log2_lt (by omega)).mpr (Nat.lt_of_le_of_lt hle (Nat.lt_trans hb (Nat.pow_lt_pow_right (by decide) (by decide))))
  by_cases hs : b < 0
  · obtain ⟨d, rfl⟩ : ∃ d : Nat, b = -(d : Int) := ⟨b.natAbs, by omega⟩
    have hm := mkI_rat (-a) d (by omega)
    rw [Int.natAbs_neg] at hm
    have e : Rat.divInt a (-(d : Int)) = mkRat (-a) d := by
      rw [← Rat.neg_divInt_neg, Int.neg_neg, Rat.divInt_ofNat]
    rw [e]
    rw [Int.natAbs_neg, Int.natAbs_natCast] at *
    simp [cv_v, cv_f, cv_err, cl_f, cl_err, cm_v, cm_err, nt_b, nt_err, st_own, st_cell, ap_stF, it1_some, lcC_ok, lcB_f, lcB_t, lcB_b, lcA_some, ap_bnd, bd_ok, bd_err, bd_st, ad_t, ad_f, ad_err, ad_b, sq_nx, sq_rt, sq_err, sq_st, ap_ret, ap_some, ap_eC, ap_name, ap_nameB, ap_nil, ap_cons, ap_op, ap_oP, ap_oC, ap_oEq, ap_oEqF, ap_asB, ap_tOf, ap_bAnd, ap_bOr, ap_bNot, ap_ite, ap_eAnd, ap_eNot, ap_eIf, ap_chain, ap_isi, ap_isis, ap_fld, ap_ix, ap_tup, ap_fLst, ap_eL, ap_tupK, ap_tupK', ap_lenK, ap_lenK', ap_absK, ap_intK, ap_intK', ap_call, ap_callR, ap_fCall, ap_make, ap_callN, ap_meth, ap_opR, ap_opRi, ap_opRt, ap_opRl, ap_opRs, ap_neg, ap_negi, ap_negI, ap_oAddi, ap_oAddt, ap_oAdds, ap_oAddl, ap_oMuli, ap_sl, ap_oNone, ap_oSome, ap_seq, ap_if, ap_sRet, ap_sRetF, ap_sRetN, ap_sRetO, ap_drop, ap_nxt, ap_asg, ap_own, ap_cell, ap_par, ap_par3, ap_raise0, ap_self, ap_for, ap_wV, ap_set, ap_gN, ap_gT, ap_gT', ap_gsNil, ap_gsCons, ap_blsK, b_add, b_sub, b_mul, b_fdiv, b_mod, b_addt, c_lt, c_le, c_gt, c_ge, ap_runF, fin_rt, fin_nx, fin_err, ap_runI, fni_nx, fni_rt, fni_err, finC, ap_arity, setS, isD, isDs, tyB, tyNames, fldD, fget, itemP, putD, eqD_int, eqD_bl, eqD_rat, mget, hasF, List.lookup, v_isInt, v_common, hs, hb, divOk, hl, hm, show a.natAbs.gcd d ≠ 0 by omega, show 0 < d by omega, show ¬ d = 0 by omega]
  · obtain ⟨d, rfl⟩ : ∃ d : Nat, b = (d : Int) := ⟨b.natAbs, by omega⟩
    have hm := mkI_rat a d (by omega)
    rw [Rat.divInt_ofNat]
    rw [Int.natAbs_natCast] at *
    simp [cv_v, cv_f, cv_err, cl_f, cl_err, cm_v, cm_err, nt_b, nt_err, st_own, st_cell, ap_stF, it1_some, lcC_ok, lcB_f, lcB_t, lcB_b, lcA_some, ap_bnd, bd_ok, bd_err, bd_st, ad_t, ad_f, ad_err, ad_b, sq_nx, sq_rt, sq_err, sq_st, ap_ret, ap_some, ap_eC, ap_name, ap_nameB, ap_nil, ap_cons, ap_op, ap_oP, ap_oC, ap_oEq, ap_oEqF, ap_asB, ap_tOf, ap_bAnd, ap_bOr, ap_bNot, ap_ite, ap_eAnd, ap_eNot, ap_eIf, ap_chain, ap_isi, ap_isis, ap_fld, ap_ix, ap_tup, ap_fLst, ap_eL, ap_tupK, ap_tupK', ap_lenK, ap_lenK', ap_absK, ap_intK, ap_intK', ap_call, ap_callR, ap_fCall, ap_make, ap_callN, ap_meth, ap_opR, ap_opRi, ap_opRt, ap_opRl, ap_opRs, ap_neg, ap_negi, ap_negI, ap_oAddi, ap_oAddt, ap_oAdds, ap_oAddl, ap_oMuli, ap_sl, ap_oNone, ap_oSome, ap_seq, ap_if, ap_sRet, ap_sRetF, ap_sRetN, ap_sRetO, ap_drop, ap_nxt, ap_asg, ap_own, ap_cell, ap_par, ap_par3, ap_raise0, ap_self, ap_for, ap_wV, ap_set, ap_gN, ap_gT, ap_gT', ap_gsNil, ap_gsCons, ap_blsK, b_add, b_sub, b_mul, b_fdiv, b_mod, b_addt, c_lt, c_le, c_gt, c_ge, ap_runF, fin_rt, fin_nx, fin_err, ap_runI, fni_nx, fni_rt, fni_err, finC, ap_arity, setS, isD, isDs, tyB, tyNames, fldD, fget, itemP, putD, eqD_int, eqD_bl, eqD_rat, mget, hasF, List.lookup, v_isInt, v_common, hs, hb, divOk, hl, hm, show a.natAbs.gcd d ≠ 0 by omega, show ¬ d = 0 by omega]
theorem v_check_ratio (n : Nat) (p : Rat) (ce) : Ph (n + 1) 13 [.rat p] ce = .ok (.v .non) ce := by
  rw [e_check_ratio]
  unfold B_check_ratio
  simp [cv_v, cv_f, cv_err, cl_f, cl_err, cm_v, cm_err, nt_b, nt_err, st_own, st_cell, ap_stF, it1_some, lcC_ok, lcB_f, lcB_t, lcB_b, lcA_some, ap_bnd, bd_ok, bd_err, bd_st, ad_t, ad_f, ad_err, ad_b, sq_nx, sq_rt, sq_err, sq_st, ap_ret, ap_some, ap_eC, ap_name, ap_nameB, ap_nil, ap_cons, ap_op, ap_oP, ap_oC, ap_oEq, ap_oEqF, ap_asB, ap_tOf, ap_bAnd, ap_bOr, ap_bNot, ap_ite, ap_eAnd, ap_eNot, ap_eIf, ap_chain, ap_isi, ap_isis, ap_fld, ap_ix, ap_tup, ap_fLst, ap_eL, ap_tupK, ap_tupK', ap_lenK, ap_lenK', ap_absK, ap_intK, ap_intK', ap_call, ap_callR, ap_fCall, ap_make, ap_callN, ap_meth, ap_opR, ap_opRi, ap_opRt, ap_opRl, ap_opRs, ap_neg, ap_negi, ap_negI, ap_oAddi, ap_oAddt, ap_oAdds, ap_oAddl, ap_oMuli, ap_sl, ap_oNone, ap_oSome, ap_seq, ap_if, ap_sRet, ap_sRetF, ap_sRetN, ap_sRetO, ap_drop, ap_nxt, ap_asg, ap_own, ap_cell, ap_par, ap_par3, ap_raise0, ap_self, ap_for, ap_wV, ap_set, ap_gN, ap_gT, ap_gT', ap_gsNil, ap_gsCons, ap_blsK, b_add, b_sub, b_mul, b_fdiv, b_mod, b_addt, c_lt, c_le, c_gt, c_ge, ap_runF, fin_rt, fin_nx, fin_err, ap_runI, fni_nx, fni_rt, fni_err, finC, ap_arity, setS, isD, isDs, tyB, tyNames, fldD, fget, itemP, putD, eqD_int, eqD_bl, eqD_rat, mget, hasF, List.lookup]
theorem v_add (n : Nat) {p q : Rat} (hp : Sm p) (hq : Sm q) (ce) : Ph (n + 3) 4 [.rat p, .rat q] ce = .ok (.v (.rat (p + q))) ce := by
  rw [e_Ratio___add__]
  unfold B_Ratio___add__
  have m := v_make n (p.num * q.den + q.num * p.den) (p.den * q.den) (den_mul_ne p q) (hp.dd hq) ce
  rw [show Rat.divInt (p.num * q.den + q.num * p.den) (p.den * q.den) = p + q by rw [← Int.natCast_mul, Rat.divInt_ofNat, ← Rat.add_def']] at m
  simp [cv_v, cv_f, cv_err, cl_f, cl_err, cm_v, cm_err, nt_b, nt_err, st_own, st_cell, ap_stF, it1_some, lcC_ok, lcB_f, lcB_t, lcB_b, lcA_some, ap_bnd, bd_ok, bd_err, bd_st, ad_t, ad_f, ad_err, ad_b, sq_nx, sq_rt, sq_err, sq_st, ap_ret, ap_some, ap_eC, ap_name, ap_nameB, ap_nil, ap_cons, ap_op, ap_oP, ap_oC, ap_oEq, ap_oEqF, ap_asB, ap_tOf, ap_bAnd, ap_bOr, ap_bNot, ap_ite, ap_eAnd, ap_eNot, ap_eIf, ap_chain, ap_isi, ap_isis, ap_fld, ap_ix, ap_tup, ap_fLst, ap_eL, ap_tupK, ap_tupK', ap_lenK, ap_lenK', ap_absK, ap_intK, ap_intK', ap_call, ap_callR, ap_fCall, ap_make, ap_callN, ap_meth, ap_opR, ap_opRi, ap_opRt, ap_opRl, ap_opRs, ap_neg, ap_negi, ap_negI, ap_oAddi, ap_oAddt, ap_oAdds, ap_oAddl, ap_oMuli, ap_sl, ap_oNone, ap_oSome, ap_seq, ap_if, ap_sRet, ap_sRetF, ap_sRetN, ap_sRetO, ap_drop, ap_nxt, ap_asg, ap_own, ap_cell, ap_par, ap_par3, ap_raise0, ap_self, ap_for, ap_wV, ap_set, ap_gN, ap_gT, ap_gT', ap_gsNil, ap_gsCons, ap_blsK, b_add, b_sub, b_mul, b_fdiv, b_mod, b_addt, c_lt, c_le, c_gt, c_ge, ap_runF, fin_rt, fin_nx, fin_err, ap_runI, fni_nx, fni_rt, fni_err, finC, ap_arity, setS, isD, isDs, tyB, tyNames, fldD, fget, itemP, putD, eqD_int, eqD_bl, eqD_rat, mget, hasF, List.lookup, v_check_ratio, mulOk_of hp.n hq.d, mulOk_of hq.n hp.d, mulOk_of hp.d hq.d, m]
theorem v_sub (n : Nat) {p q : Rat} (hp : Sm p) (hq : Sm q) (ce) : Ph (n + 3) 5 [.rat p, .rat q] ce = .ok (.v (.rat (p - q))) ce := by
  rw [e_Ratio___sub__]
  unfold B_Ratio___sub__
  have m := v_make n (p.num * q.den - q.num * p.den) (p.den * q.den) (den_mul_ne p q) (hp.dd hq) ce
  rw [show Rat.divInt (p.num * q.den - q.num * p.den) (p.den * q.den) = p - q by rw [← Int.natCast_mul, Rat.divInt_ofNat, ← Rat.sub_def']] at m
  simp [cv_v, cv_f, cv_err, cl_f, cl_err, cm_v, cm_err, nt_b, nt_err, st_own, st_cell, ap_stF, it1_some, lcC_ok, lcB_f, lcB_t, lcB_b, lcA_some, ap_bnd, bd_ok, bd_err, bd_st, ad_t, ad_f, ad_err, ad_b, sq_nx, sq_rt, sq_err, sq_st, ap_ret, ap_some, ap_eC, ap_name, ap_nameB, ap_nil, ap_cons, ap_op, ap_oP, ap_oC, ap_oEq, ap_oEqF, ap_asB, ap_tOf, ap_bAnd, ap_bOr, ap_bNot, ap_ite, ap_eAnd, ap_eNot, ap_eIf, ap_chain, ap_isi, ap_isis, ap_fld, ap_ix, ap_tup, ap_fLst, ap_eL, ap_tupK, ap_tupK', ap_lenK, ap_lenK', ap_absK, ap_intK, ap_intK', ap_call, ap_callR, ap_fCall, ap_make, ap_callN, ap_meth, ap_opR, ap_opRi, ap_opRt, ap_opRl, ap_opRs, ap_neg, ap_negi, ap_negI, ap_oAddi, ap_oAddt, ap_oAdds, ap_oAddl, ap_oMuli, ap_sl, ap_oNone, ap_oSome, ap_seq, ap_if, ap_sRet, ap_sRetF, ap_sRetN, ap_sRetO, ap_drop, ap_nxt, ap_asg, ap_own, ap_cell, ap_par, ap_par3, ap_raise0, ap_self, ap_for, ap_wV, ap_set, ap_gN, ap_gT, ap_gT', ap_gsNil, ap_gsCons, ap_blsK, b_add, b_sub, b_mul, b_fdiv, b_mod, b_addt, c_lt, c_le, c_gt, c_ge, ap_runF, fin_rt, fin_nx, fin_err, ap_runI, fni_nx, fni_rt, fni_err, finC, ap_arity, setS, isD, isDs, tyB, tyNames, fldD, fget, itemP, putD, eqD_int, eqD_bl, eqD_rat, mget, hasF, List.lookup, v_check_ratio, mulOk_of hp.n hq.d, mulOk_of hq.n hp.d, mulOk_of hp.d hq.d, m]
theorem v_mul (n : Nat) {p q : Rat} (hp : Sm p) (hq : Sm q) (ce) : Ph (n + 3) 6 [.rat p, .rat q] ce = .ok (.v (.rat (p * q))) ce := by
  rw [e_Ratio___mul__]
  unfold B_Ratio___mul__
  have m := v_make n (p.num * q.num) (p.den * q.den) (den_mul_ne p q) (hp.dd hq) ce
  rw [show Rat.divInt (p.num * q.num) (p.den * q.den) = p * q by rw [← Int.natCast_mul, Rat.divInt_ofNat, ← Rat.mul_def']] at m
  simp [cv_v, cv_f, cv_err, cl_f, cl_err, cm_v, cm_err, nt_b, nt_err, st_own, st_cell, ap_stF, it1_some, lcC_ok, lcB_f, lcB_t, lcB_b, lcA_some, ap_bnd, bd_ok, bd_err, bd_st, ad_t, ad_f, ad_err, ad_b, sq_nx, sq_rt, sq_err, sq_st, ap_ret, ap_some, ap_eC, ap_name, ap_nameB, ap_nil, ap_cons, ap_op, ap_oP, ap_oC, ap_oEq, ap_oEqF, ap_asB, ap_tOf, ap_bAnd, ap_bOr, ap_bNot, ap_ite, ap_eAnd, ap_eNot, ap_eIf, ap_chain, ap_isi, ap_isis, ap_fld, ap_ix, ap_tup, ap_fLst, ap_eL, ap_tupK, ap_tupK', ap_lenK, ap_lenK', ap_absK, ap_intK, ap_intK', ap_call, ap_callR, ap_fCall, ap_make, ap_callN, ap_meth, ap_opR, ap_opRi, ap_opRt, ap_opRl, ap_opRs, ap_neg, ap_negi, ap_negI, ap_oAddi, ap_oAddt, ap_oAdds, ap_oAddl, ap_oMuli, ap_sl, ap_oNone, ap_oSome, ap_seq, ap_if, ap_sRet, ap_sRetF, ap_sRetN, ap_sRetO, ap_drop, ap_nxt, ap_asg, ap_own, ap_cell, ap_par, ap_par3, ap_raise0, ap_self, ap_for, ap_wV, ap_set, ap_gN, ap_gT, ap_gT', ap_gsNil, ap_gsCons, ap_blsK, b_add, b_sub, b_mul, b_fdiv, b_mod, b_addt, c_lt, c_le, c_gt, c_ge, ap_runF, fin_rt, fin_nx, fin_err, ap_runI, fni_nx, fni_rt, fni_err, finC, ap_arity, setS, isD, isDs, tyB, tyNames, fldD, fget, itemP, putD, eqD_int, eqD_bl, eqD_rat, mget, hasF, List.lookup, v_check_ratio, mulOk_of hp.n hq.n, mulOk_of hp.d hq.d, m]
theorem v_neg (n : Nat) {p : Rat} (hp : Sm p) (ce) : Ph (n + 3) 7 [.rat p] ce = .ok (.v (.rat (-p))) ce := by
  rw [e_Ratio___neg__]
  unfold B_Ratio___neg__
  have m := v_make n (-p.num) p.den (by have := p.den_nz; omega) (Nat.lt_trans hp.2 (Nat.pow_lt_pow_right (by decide) (by decide))) ce
  rw [show Rat.divInt (-p.num) p.den = -p by rw [← Rat.neg_divInt, Rat.num_divInt_den]] at m
  simp [cv_v, cv_f, cv_err, cl_f, cl_err, cm_v, cm_err, nt_b, nt_err, st_own, st_cell, ap_stF, it1_some, lcC_ok, lcB_f, lcB_t, lcB_b, lcA_some, ap_bnd, bd_ok, bd_err, bd_st, ad_t, ad_f, ad_err, ad_b, sq_nx, sq_rt, sq_err, sq_st, ap_ret, ap_some, ap_eC, ap_name, ap_nameB, ap_nil, ap_cons, ap_op, ap_oP, ap_oC, ap_oEq, ap_oEqF, ap_asB, ap_tOf, ap_bAnd, ap_bOr, ap_bNot, ap_ite, ap_eAnd, ap_eNot, ap_eIf, ap_chain, ap_isi, ap_isis, ap_fld, ap_ix, ap_tup, ap_fLst, ap_eL, ap_tupK, ap_tupK', ap_lenK, ap_lenK', ap_absK, ap_intK, ap_intK', ap_call, ap_callR, ap_fCall, ap_make, ap_callN, ap_meth, ap_opR, ap_opRi, ap_opRt, ap_opRl, ap_opRs, ap_neg, ap_negi, ap_negI, ap_oAddi, ap_oAddt, ap_oAdds, ap_oAddl, ap_oMuli, ap_sl, ap_oNone, ap_oSome, ap_seq, ap_if, ap_sRet, ap_sRetF, ap_sRetN, ap_sRetO, ap_drop, ap_nxt, ap_asg, ap_own, ap_cell, ap_par, ap_par3, ap_raise0, ap_self, ap_for, ap_wV, ap_set, ap_gN, ap_gT, ap_gT', ap_gsNil, ap_gsCons, ap_blsK, b_add, b_sub, b_mul, b_fdiv, b_mod, b_addt, c_lt, c_le, c_gt, c_ge, ap_runF, fin_rt, fin_nx, fin_err, ap_runI, fni_nx, fni_rt, fni_err, finC, ap_arity, setS, isD, isDs, tyB, tyNames, fldD, fget, itemP, putD, eqD_int, eqD_bl, eqD_rat, mget, hasF, List.lookup, m]
theorem v_sign (n : Nat) {p : Rat} (ce) : Ph (n + 1) 11 [.rat p] ce = .ok (.v (.int (sgn p))) ce := by
  rw [e_Ratio_sign]
  unfold B_Ratio_sign sgn
  by_cases h1 : 0 < p.num
  · simp [cv_v, cv_f, cv_err, cl_f, cl_err, cm_v, cm_err, nt_b, nt_err, st_own, st_cell, ap_stF, it1_some, lcC_ok, lcB_f, lcB_t, lcB_b, lcA_some, ap_bnd, bd_ok, bd_err, bd_st, ad_t, ad_f, ad_err, ad_b, sq_nx, sq_rt, sq_err, sq_st, ap_ret, ap_some, ap_eC, ap_name, ap_nameB, ap_nil, ap_cons, ap_op, ap_oP, ap_oC, ap_oEq, ap_oEqF, ap_asB, ap_tOf, ap_bAnd, ap_bOr, ap_bNot, ap_ite, ap_eAnd, ap_eNot, ap_eIf, ap_chain, ap_isi, ap_isis, ap_fld, ap_ix, ap_tup, ap_fLst, ap_eL, ap_tupK, ap_tupK', ap_lenK, ap_lenK', ap_absK, ap_intK, ap_intK', ap_call, ap_callR, ap_fCall, ap_make, ap_callN, ap_meth, ap_opR, ap_opRi, ap_opRt, ap_opRl, ap_opRs, ap_neg, ap_negi, ap_negI, ap_oAddi, ap_oAddt, ap_oAdds, ap_oAddl, ap_oMuli, ap_sl, ap_oNone, ap_oSome, ap_seq, ap_if, ap_sRet, ap_sRetF, ap_sRetN, ap_sRetO, ap_drop, ap_nxt, ap_asg, ap_own, ap_cell, ap_par, ap_par3, ap_raise0, ap_self, ap_for, ap_wV, ap_set, ap_gN, ap_gT, ap_gT', ap_gsNil, ap_gsCons, ap_blsK, b_add, b_sub, b_mul, b_fdiv, b_mod, b_addt, c_lt, c_le, c_gt, c_ge, ap_runF, fin_rt, fin_nx, fin_err, ap_runI, fni_nx, fni_rt, fni_err, finC, ap_arity, setS, isD, isDs, tyB, tyNames, fldD, fget, itemP, putD, eqD_int, eqD_bl, eqD_rat, mget, hasF, List.lookup, h1]
  · by_cases h2 : p.num < 0
    · simp [cv_v, cv_f, cv_err, cl_f, cl_err, cm_v, cm_err, nt_b, nt_err, st_own, st_cell, ap_stF, it1_some, lcC_ok, lcB_f, lcB_t, lcB_b, lcA_some, ap_bnd, bd_ok, bd_err, bd_st, ad_t, ad_f, ad_err, ad_b, sq_nx, sq_rt, sq_err, sq_st, ap_ret, ap_some, ap_eC, ap_name, ap_nameB, ap_nil, ap_cons, ap_op, ap_oP, ap_oC, ap_oEq, ap_oEqF, ap_asB, ap_tOf, ap_bAnd, ap_bOr, ap_bNot, ap_ite, ap_eAnd, ap_eNot, ap_eIf, ap_chain, ap_isi, ap_isis, ap_fld, ap_ix, ap_tup, ap_fLst, ap_eL, ap_tupK, ap_tupK', ap_lenK, ap_lenK', ap_absK, ap_intK, ap_intK', ap_call, ap_callR, ap_fCall, ap_make, ap_callN, ap_meth, ap_opR, ap_opRi, ap_opRt, ap_opRl, ap_opRs, ap_neg, ap_negi, ap_negI, ap_oAddi, ap_oAddt, ap_oAdds, ap_oAddl, ap_oMuli, ap_sl, ap_oNone, ap_oSome, ap_seq, ap_if, ap_sRet, ap_sRetF, ap_sRetN, ap_sRetO, ap_drop, ap_nxt, ap_asg, ap_own, ap_cell, ap_par, ap_par3, ap_raise0, ap_self, ap_for, ap_wV, ap_set, ap_gN, ap_gT, ap_gT', ap_gsNil, ap_gsCons, ap_blsK, b_add, b_sub, b_mul, b_fdiv, b_mod, b_addt, c_lt, c_le, c_gt, c_ge, ap_runF, fin_rt, fin_nx, fin_err, ap_runI, fni_nx, fni_rt, fni_err, finC, ap_arity, setS, isD, isDs, tyB, tyNames, fldD, fget, itemP, putD, eqD_int, eqD_bl, eqD_rat, mget, hasF, List.lookup, h1, h2]
    · simp [cv_v, cv_f, cv_err, cl_f, cl_err, cm_v, cm_err, nt_b, nt_err, st_own, st_cell, ap_stF, it1_some, lcC_ok, lcB_f, lcB_t, lcB_b, lcA_some, ap_bnd, bd_ok, bd_err, bd_st, ad_t, ad_f, ad_err, ad_b, sq_nx, sq_rt, sq_err, sq_st, ap_ret, ap_some, ap_eC, ap_name, ap_nameB, ap_nil, ap_cons, ap_op, ap_oP, ap_oC, ap_oEq, ap_oEqF, ap_asB, ap_tOf, ap_bAnd, ap_bOr, ap_bNot, ap_ite, ap_eAnd, ap_eNot, ap_eIf, ap_chain, ap_isi, ap_isis, ap_fld, ap_ix, ap_tup, ap_fLst, ap_eL, ap_tupK, ap_tupK', ap_lenK, ap_lenK', ap_absK, ap_intK, ap_intK', ap_call, ap_callR, ap_fCall, ap_make, ap_callN, ap_meth, ap_opR, ap_opRi, ap_opRt, ap_opRl, ap_opRs, ap_neg, ap_negi, ap_negI, ap_oAddi, ap_oAddt, ap_oAdds, ap_oAddl, ap_oMuli, ap_sl, ap_oNone, ap_oSome, ap_seq, ap_if, ap_sRet, ap_sRetF, ap_sRetN, ap_sRetO, ap_drop, ap_nxt, ap_asg, ap_own, ap_cell, ap_par, ap_par3, ap_raise0, ap_self, ap_for, ap_wV, ap_set, ap_gN, ap_gT, ap_gT', ap_gsNil, ap_gsCons, ap_blsK, b_add, b_sub, b_mul, b_fdiv, b_mod, b_addt, c_lt, c_le, c_gt, c_ge, ap_runF, fin_rt, fin_nx, fin_err, ap_runI, fni_nx, fni_rt, fni_err, finC, ap_arity, setS, isD, isDs, tyB, tyNames, fldD, fget, itemP, putD, eqD_int, eqD_bl, eqD_rat, mget, hasF, List.lookup, h1, h2]

end Lw

end
section
set_option Elab.async false
set_option linter.all false
set_option maxRecDepth 100000
set_option maxHeartbeats 0
set_option exponentiation.threshold 10000
namespace Lw
open TL Pl
theorem sm_of {q : Rat} (h : q.num.natAbs < 10 ^ 20) (h2 : q.den < 10 ^ 20) : Sm q := ⟨Nat.lt_trans h (Nat.lt_trans (show 10 ^ 20 < 2 ^ 67 by decide) (Nat.pow_lt_pow_right (by decide) (by decide))), Nat.lt_trans h2 (Nat.lt_trans (show 10 ^ 20 < 2 ^ 67 by decide) (Nat.pow_lt_pow_right (by decide) (by decide)))⟩
theorem strI_len {i : Int} {k : Nat} (hk : 0 < k) (h : i.natAbs < 10 ^ k) : (strI i).length ≤ k + 1 := by
  have := numL_len hk h
  unfold strI
  split <;> simp <;> omega
theorem sz_tx {l : List Nat} (h : l.length ≤ 1000) : sizeOk (tx l).length = true := decide_eq_true (by rw [tx_len]; omega)
theorem v_str (n : Nat) {q : Rat} (h1 : q.num.natAbs < 10 ^ 20) (h2 : q.den < 10 ^ 20) (ce) : Ph (n + 1) 9 [.rat q] ce = .ok (.v (.str (tx (strR q)))) ce := by
  rw [e_Ratio___str__]
  unfold B_Ratio___str__
  have l1 := log_lt h1
  have l2 : (q.den : Int).natAbs.log2 < 1920 := by rw [Int.natAbs_natCast]; exact log_lt h2
  have a1 := strI_len (k := 20) (by decide) h1
  have a2 : (numL q.den).length ≤ 20 := numL_len (by decide) h2
  have e0 : strI (q.den : Int) = numL q.den := by unfold strI; rw [if_neg (by omega), Int.natAbs_natCast]
  have s1 : sizeOk (PySem.Str.empty ++ tx (strI q.num)).length = true := by rw [show PySem.Str.empty = tx [] by rfl, tx_app]; exact sz_tx (by simp; omega)
  have s2 : sizeOk (PySem.Str.empty ++ tx (strI q.num) ++ PySem.Str.ofString "/").length = true := by rw [show PySem.Str.empty = tx [] by rfl, show PySem.Str.ofString "/" = tx [47] by decide, tx_app, tx_app]; exact sz_tx (by simp; omega)
  have s3 : sizeOk (PySem.Str.empty ++ tx (strI q.num) ++ PySem.Str.ofString "/" ++ tx (numL q.den)).length = true := by rw [show PySem.Str.empty = tx [] by rfl, show PySem.Str.ofString "/" = tx [47] by decide, tx_app, tx_app, tx_app]; exact sz_tx (by simp; omega)
  have eT : PySem.Str.empty ++ tx (strI q.num) ++ PySem.Str.ofString "/" ++ tx (numL q.den) = tx (strI q.num ++ 47 :: numL q.den) := by rw [show PySem.Str.empty = tx [] by rfl, show PySem.Str.ofString "/" = tx [47] by decide, tx_app, tx_app, tx_app]; simp
  have s4 : sizeOk (tx (strI q.num ++ 47 :: numL q.den)).length = true := sz_tx (by simp; omega)
  have f2 := fm_i l2 (c := ⟨[.v (.rat q)], ce⟩)
  rw [e0] at f2
  by_cases hd : q.den = 1
  · simp [cv_v, cv_f, cv_err, cl_f, cl_err, cm_v, cm_err, nt_b, nt_err, st_own, st_cell, ap_stF, it1_some, lcC_ok, lcB_f, lcB_t, lcB_b, lcA_some, ap_bnd, bd_ok, bd_err, bd_st, ad_t, ad_f, ad_err, ad_b, sq_nx, sq_rt, sq_err, sq_st, ap_ret, ap_some, ap_eC, ap_name, ap_nameB, ap_nil, ap_cons, ap_op, ap_oP, ap_oC, ap_oEq, ap_oEqF, ap_asB, ap_tOf, ap_bAnd, ap_bOr, ap_bNot, ap_ite, ap_eAnd, ap_eNot, ap_eIf, ap_chain, ap_isi, ap_isis, ap_fld, ap_ix, ap_tup, ap_fLst, ap_eL, ap_tupK, ap_tupK', ap_lenK, ap_lenK', ap_absK, ap_intK, ap_intK', ap_call, ap_callR, ap_fCall, ap_make, ap_callN, ap_meth, ap_opR, ap_opRi, ap_opRt, ap_opRl, ap_opRs, ap_neg, ap_negi, ap_negI, ap_oAddi, ap_oAddt, ap_oAdds, ap_oAddl, ap_oMuli, ap_sl, ap_oNone, ap_oSome, ap_seq, ap_if, ap_sRet, ap_sRetF, ap_sRetN, ap_sRetO, ap_drop, ap_nxt, ap_asg, ap_own, ap_cell, ap_par, ap_par3, ap_raise0, ap_self, ap_for, ap_wV, ap_set, ap_gN, ap_gT, ap_gT', ap_gsNil, ap_gsCons, ap_blsK, b_add, b_sub, b_mul, b_fdiv, b_mod, b_addt, c_lt, c_le, c_gt, c_ge, ap_runF, fin_rt, fin_nx, fin_err, ap_runI, fni_nx, fni_rt, fni_err, finC, ap_arity, setS, isD, isDs, tyB, tyNames, fldD, fget, itemP, putD, eqD_int, eqD_bl, eqD_rat, mget, hasF, List.lookup, hd, so_i l1, strR]
  · have hd' : ¬ ((q.den : Int) = 1) := by omega
    simp [cv_v, cv_f, cv_err, cl_f, cl_err, cm_v, cm_err, nt_b, nt_err, st_own, st_cell, ap_stF, it1_some, lcC_ok, lcB_f, lcB_t, lcB_b, lcA_some, ap_bnd, bd_ok, bd_err, bd_st, ad_t, ad_f, ad_err, ad_b, sq_nx, sq_rt, sq_err, sq_st, ap_ret, ap_some, ap_eC, ap_name, ap_nameB, ap_nil, ap_cons, ap_op, ap_oP, ap_oC, ap_oEq, ap_oEqF, ap_asB, ap_tOf, ap_bAnd, ap_bOr, ap_bNot, ap_ite, ap_eAnd, ap_eNot, ap_eIf, ap_chain, ap_isi, ap_isis, ap_fld, ap_ix, ap_tup, ap_fLst, ap_eL, ap_tupK, ap_tupK', ap_lenK, ap_lenK', ap_absK, ap_intK, ap_intK', ap_call, ap_callR, ap_fCall, ap_make, ap_callN, ap_meth, ap_opR, ap_opRi, ap_opRt, ap_opRl, ap_opRs, ap_neg, ap_negi, ap_negI, ap_oAddi, ap_oAddt, ap_oAdds, ap_oAddl, ap_oMuli, ap_sl, ap_oNone, ap_oSome, ap_seq, ap_if, ap_sRet, ap_sRetF, ap_sRetN, ap_sRetO, ap_drop, ap_nxt, ap_asg, ap_own, ap_cell, ap_par, ap_par3, ap_raise0, ap_self, ap_for, ap_wV, ap_set, ap_gN, ap_gT, ap_gT', ap_gsNil, ap_gsCons, ap_blsK, b_add, b_sub, b_mul, b_fdiv, b_mod, b_addt, c_lt, c_le, c_gt, c_ge, ap_runF, fin_rt, fin_nx, fin_err, ap_runI, fni_nx, fni_rt, fni_err, finC, ap_arity, setS, isD, isDs, tyB, tyNames, fldD, fget, itemP, putD, eqD_int, eqD_bl, eqD_rat, mget, hasF, List.lookup, hd, hd', fm_i l1, f2, fs_cons, fs_nil, fs_s, s1, s2, s3, s4, eT, strR]
theorem v_neg0 (n : Nat) {p : Rat} (h1 : p.num.natAbs < 10 ^ 20) (h2 : p.den < 10 ^ 20) (ce) : Ph (n + 3) 7 [.rat p] ce = .ok (.v (.rat (-p))) ce := v_neg n (sm_of h1 h2) ce
def rdO : Option Rat → List (List D) → FOut
  | some q, ce => .ok (.v (.rat q)) ce
  | none, ce => .err ⟨53, [(2, .int 0)]⟩ ce
def okP (a : List Nat) : Bool := !a.isEmpty && digs a
theorem bls_map' {α : Type} (l : List α) (f : α → Bool) : bls (l.map fun a => D.bl (f a)) = some (l.map f) := by
  induction l with
  | nil => rfl
  | cons a l ih => show (bls (l.map fun a => D.bl (f a))).map (f a :: ·) = _; rw [ih]; rfl
theorem v_piece (n : Nat) (a : List Nat) (hl : a.length ≤ 1000) (t0 t2 t3 t4 t5 : Sl) (ce) : ((sIf (bOr (tOf (eOp (oEq 6 false) (eNameB 1) (eC (.str "")))) (bNot (tOf (M.bnd (eL (fLc [6] (wV (eName 1)) (gN 6) (M.ret true) (eChain (oC .le) (oC .le) (eC (.str "0")) (eNameB 6) (eC (.str "9"))))) (blsK fun bs => bs.all id))))) (sRaiseI 53 2 (aCons (eC (.int 0)) (aNil))) (nxt)) : M TL.Flow) ⟨[t0, .v (.str (tx a)), t2, t3, t4, t5, .no], ce⟩ = if okP a = true then .ok .nx ⟨[t0, .v (.str (tx a)), t2, t3, t4, t5, .no], ce⟩ else .err ⟨53, [(2, .int 0)]⟩ ⟨[t0, .v (.str (tx a)), t2, t3, t4, t5, .no], ce⟩ := by
  have lc := lc_map (vs := [6]) (k := gN 6) (t := M.ret true) (e := eChain (oC .le) (oC .le) (eC (.str (PySem.Str.ofString "0"))) (eNameB 6) (eC (.str (PySem.Str.ofString "9")))) (mi := wV (eName 1)) (c := ⟨[t0, .v (.str (tx a)), t2, t3, t4, t5, .no], ce⟩) a (fun c => .str ⟨#[c]⟩) (fun c => .bl (decide (48 ≤ c) && decide (c ≤ 57))) (by simp [cv_v, cv_f, cv_err, cl_f, cl_err, cm_v, cm_err, nt_b, nt_err, st_own, st_cell, ap_stF, it1_some, lcC_ok, lcB_f, lcB_t, lcB_b, lcA_some, ap_bnd, bd_ok, bd_err, bd_st, ad_t, ad_f, ad_err, ad_b, sq_nx, sq_rt, sq_err, sq_st, ap_ret, ap_some, ap_eC, ap_name, ap_nameB, ap_nil, ap_cons, ap_op, ap_oP, ap_oC, ap_oEq, ap_oEqF, ap_asB, ap_tOf, ap_bAnd, ap_bOr, ap_bNot, ap_ite, ap_eAnd, ap_eNot, ap_eIf, ap_chain, ap_isi, ap_isis, ap_fld, ap_ix, ap_tup, ap_fLst, ap_eL, ap_tupK, ap_tupK', ap_lenK, ap_lenK', ap_absK, ap_intK, ap_intK', ap_call, ap_callR, ap_fCall, ap_make, ap_callN, ap_meth, ap_opR, ap_opRi, ap_opRt, ap_opRl, ap_opRs, ap_neg, ap_negi, ap_negI, ap_oAddi, ap_oAddt, ap_oAdds, ap_oAddl, ap_oMuli, ap_sl, ap_oNone, ap_oSome, ap_seq, ap_if, ap_sRet, ap_sRetF, ap_sRetN, ap_sRetO, ap_drop, ap_nxt, ap_asg, ap_own, ap_cell, ap_par, ap_par3, ap_raise0, ap_self, ap_for, ap_wV, ap_set, ap_gN, ap_gT, ap_gT', ap_gsNil, ap_gsCons, ap_blsK, b_add, b_sub, b_mul, b_fdiv, b_mod, b_addt, c_lt, c_le, c_gt, c_ge, ap_runF, fin_rt, fin_nx, fin_err, ap_runI, fni_nx, fni_rt, fni_err, finC, ap_arity, setS, isD, isDs, tyB, tyNames, fldD, fget, itemP, putD, eqD_int, eqD_bl, eqD_rat, mget, hasF, List.lookup, wOf, signs_tx]) (by omega) (fun x hx => by
    by_cases h : 48 ≤ x
    · simp [cv_v, cv_f, cv_err, cl_f, cl_err, cm_v, cm_err, nt_b, nt_err, st_own, st_cell, ap_stF, it1_some, lcC_ok, lcB_f, lcB_t, lcB_b, lcA_some, ap_bnd, bd_ok, bd_err, bd_st, ad_t, ad_f, ad_err, ad_b, sq_nx, sq_rt, sq_err, sq_st, ap_ret, ap_some, ap_eC, ap_name, ap_nameB, ap_nil, ap_cons, ap_op, ap_oP, ap_oC, ap_oEq, ap_oEqF, ap_asB, ap_tOf, ap_bAnd, ap_bOr, ap_bNot, ap_ite, ap_eAnd, ap_eNot, ap_eIf, ap_chain, ap_isi, ap_isis, ap_fld, ap_ix, ap_tup, ap_fLst, ap_eL, ap_tupK, ap_tupK', ap_lenK, ap_lenK', ap_absK, ap_intK, ap_intK', ap_call, ap_callR, ap_fCall, ap_make, ap_callN, ap_meth, ap_opR, ap_opRi, ap_opRt, ap_opRl, ap_opRs, ap_neg, ap_negi, ap_negI, ap_oAddi, ap_oAddt, ap_oAdds, ap_oAddl, ap_oMuli, ap_sl, ap_oNone, ap_oSome, ap_seq, ap_if, ap_sRet, ap_sRetF, ap_sRetN, ap_sRetO, ap_drop, ap_nxt, ap_asg, ap_own, ap_cell, ap_par, ap_par3, ap_raise0, ap_self, ap_for, ap_wV, ap_set, ap_gN, ap_gT, ap_gT', ap_gsNil, ap_gsCons, ap_blsK, b_add, b_sub, b_mul, b_fdiv, b_mod, b_addt, c_lt, c_le, c_gt, c_ge, ap_runF, fin_rt, fin_nx, fin_err, ap_runI, fni_nx, fni_rt, fni_err, finC, ap_arity, setS, isD, isDs, tyB, tyNames, fldD, fget, itemP, putD, eqD_int, eqD_bl, eqD_rat, mget, hasF, List.lookup, lc1, hs_ok, wipeL, ap_chn, ge0, le9, ch_t, ch_f, h]
    · simp [cv_v, cv_f, cv_err, cl_f, cl_err, cm_v, cm_err, nt_b, nt_err, st_own, st_cell, ap_stF, it1_some, lcC_ok, lcB_f, lcB_t, lcB_b, lcA_some, ap_bnd, bd_ok, bd_err, bd_st, ad_t, ad_f, ad_err, ad_b, sq_nx, sq_rt, sq_err, sq_st, ap_ret, ap_some, ap_eC, ap_name, ap_nameB, ap_nil, ap_cons, ap_op, ap_oP, ap_oC, ap_oEq, ap_oEqF, ap_asB, ap_tOf, ap_bAnd, ap_bOr, ap_bNot, ap_ite, ap_eAnd, ap_eNot, ap_eIf, ap_chain, ap_isi, ap_isis, ap_fld, ap_ix, ap_tup, ap_fLst, ap_eL, ap_tupK, ap_tupK', ap_lenK, ap_lenK', ap_absK, ap_intK, ap_intK', ap_call, ap_callR, ap_fCall, ap_make, ap_callN, ap_meth, ap_opR, ap_opRi, ap_opRt, ap_opRl, ap_opRs, ap_neg, ap_negi, ap_negI, ap_oAddi, ap_oAddt, ap_oAdds, ap_oAddl, ap_oMuli, ap_sl, ap_oNone, ap_oSome, ap_seq, ap_if, ap_sRet, ap_sRetF, ap_sRetN, ap_sRetO, ap_drop, ap_nxt, ap_asg, ap_own, ap_cell, ap_par, ap_par3, ap_raise0, ap_self, ap_for, ap_wV, ap_set, ap_gN, ap_gT, ap_gT', ap_gsNil, ap_gsCons, ap_blsK, b_add, b_sub, b_mul, b_fdiv, b_mod, b_addt, c_lt, c_le, c_gt, c_ge, ap_runF, fin_rt, fin_nx, fin_err, ap_runI, fni_nx, fni_rt, fni_err, finC, ap_arity, setS, isD, isDs, tyB, tyNames, fldD, fget, itemP, putD, eqD_int, eqD_bl, eqD_rat, mget, hasF, List.lookup, lc1, hs_ok, wipeL, ap_chn, ge0, le9, ch_t, ch_f, h])
  have ee : (tx a == PySem.Str.ofString "") = a.isEmpty := by
    rw [show PySem.Str.ofString "" = tx [] by decide]
    cases a with
    | nil => rfl
    | cons x r => exact beq_eq_false_iff_ne.mpr fun z => by have := tx_inj.mp z; cases this
  cases h1 : a.isEmpty with
  | true => simp [cv_v, cv_f, cv_err, cl_f, cl_err, cm_v, cm_err, nt_b, nt_err, st_own, st_cell, ap_stF, it1_some, lcC_ok, lcB_f, lcB_t, lcB_b, lcA_some, ap_bnd, bd_ok, bd_err, bd_st, ad_t, ad_f, ad_err, ad_b, sq_nx, sq_rt, sq_err, sq_st, ap_ret, ap_some, ap_eC, ap_name, ap_nameB, ap_nil, ap_cons, ap_op, ap_oP, ap_oC, ap_oEq, ap_oEqF, ap_asB, ap_tOf, ap_bAnd, ap_bOr, ap_bNot, ap_ite, ap_eAnd, ap_eNot, ap_eIf, ap_chain, ap_isi, ap_isis, ap_fld, ap_ix, ap_tup, ap_fLst, ap_eL, ap_tupK, ap_tupK', ap_lenK, ap_lenK', ap_absK, ap_intK, ap_intK', ap_call, ap_callR, ap_fCall, ap_make, ap_callN, ap_meth, ap_opR, ap_opRi, ap_opRt, ap_opRl, ap_opRs, ap_neg, ap_negi, ap_negI, ap_oAddi, ap_oAddt, ap_oAdds, ap_oAddl, ap_oMuli, ap_sl, ap_oNone, ap_oSome, ap_seq, ap_if, ap_sRet, ap_sRetF, ap_sRetN, ap_sRetO, ap_drop, ap_nxt, ap_asg, ap_own, ap_cell, ap_par, ap_par3, ap_raise0, ap_self, ap_for, ap_wV, ap_set, ap_gN, ap_gT, ap_gT', ap_gsNil, ap_gsCons, ap_blsK, b_add, b_sub, b_mul, b_fdiv, b_mod, b_addt, c_lt, c_le, c_gt, c_ge, ap_runF, fin_rt, fin_nx, fin_err, ap_runI, fni_nx, fni_rt, fni_err, finC, ap_arity, setS, isD, isDs, tyB, tyNames, fldD, fget, itemP, putD, eqD_int, eqD_bl, eqD_rat, mget, hasF, List.lookup, eqD_strs, ee, h1, okP, ap_riI, ri_1]
  | false =>
    have hb := bls_map' a (fun c => decide (48 ≤ c) && decide (c ≤ 57))
    have hd : (a.map fun c => decide (48 ≤ c) && decide (c ≤ 57)).all id = digs a := by unfold digs; rw [List.all_map]; rfl
    cases h2 : digs a with
    | true => simp [cv_v, cv_f, cv_err, cl_f, cl_err, cm_v, cm_err, nt_b, nt_err, st_own, st_cell, ap_stF, it1_some, lcC_ok, lcB_f, lcB_t, lcB_b, lcA_some, ap_bnd, bd_ok, bd_err, bd_st, ad_t, ad_f, ad_err, ad_b, sq_nx, sq_rt, sq_err, sq_st, ap_ret, ap_some, ap_eC, ap_name, ap_nameB, ap_nil, ap_cons, ap_op, ap_oP, ap_oC, ap_oEq, ap_oEqF, ap_asB, ap_tOf, ap_bAnd, ap_bOr, ap_bNot, ap_ite, ap_eAnd, ap_eNot, ap_eIf, ap_chain, ap_isi, ap_isis, ap_fld, ap_ix, ap_tup, ap_fLst, ap_eL, ap_tupK, ap_tupK', ap_lenK, ap_lenK', ap_absK, ap_intK, ap_intK', ap_call, ap_callR, ap_fCall, ap_make, ap_callN, ap_meth, ap_opR, ap_opRi, ap_opRt, ap_opRl, ap_opRs, ap_neg, ap_negi, ap_negI, ap_oAddi, ap_oAddt, ap_oAdds, ap_oAddl, ap_oMuli, ap_sl, ap_oNone, ap_oSome, ap_seq, ap_if, ap_sRet, ap_sRetF, ap_sRetN, ap_sRetO, ap_drop, ap_nxt, ap_asg, ap_own, ap_cell, ap_par, ap_par3, ap_raise0, ap_self, ap_for, ap_wV, ap_set, ap_gN, ap_gT, ap_gT', ap_gsNil, ap_gsCons, ap_blsK, b_add, b_sub, b_mul, b_fdiv, b_mod, b_addt, c_lt, c_le, c_gt, c_ge, ap_runF, fin_rt, fin_nx, fin_err, ap_runI, fni_nx, fni_rt, fni_err, finC, ap_arity, setS, isD, isDs, tyB, tyNames, fldD, fget, itemP, putD, eqD_int, eqD_bl, eqD_rat, mget, hasF, List.lookup, eqD_strs, ee, h1, lc, hb, hd, h2, okP, restL, ap_riI, ri_1]
    | false => simp [cv_v, cv_f, cv_err, cl_f, cl_err, cm_v, cm_err, nt_b, nt_err, st_own, st_cell, ap_stF, it1_some, lcC_ok, lcB_f, lcB_t, lcB_b, lcA_some, ap_bnd, bd_ok, bd_err, bd_st, ad_t, ad_f, ad_err, ad_b, sq_nx, sq_rt, sq_err, sq_st, ap_ret, ap_some, ap_eC, ap_name, ap_nameB, ap_nil, ap_cons, ap_op, ap_oP, ap_oC, ap_oEq, ap_oEqF, ap_asB, ap_tOf, ap_bAnd, ap_bOr, ap_bNot, ap_ite, ap_eAnd, ap_eNot, ap_eIf, ap_chain, ap_isi, ap_isis, ap_fld, ap_ix, ap_tup, ap_fLst, ap_eL, ap_tupK, ap_tupK', ap_lenK, ap_lenK', ap_absK, ap_intK, ap_intK', ap_call, ap_callR, ap_fCall, ap_make, ap_callN, ap_meth, ap_opR, ap_opRi, ap_opRt, ap_opRl, ap_opRs, ap_neg, ap_negi, ap_negI, ap_oAddi, ap_oAddt, ap_oAdds, ap_oAddl, ap_oMuli, ap_sl, ap_oNone, ap_oSome, ap_seq, ap_if, ap_sRet, ap_sRetF, ap_sRetN, ap_sRetO, ap_drop, ap_nxt, ap_asg, ap_own, ap_cell, ap_par, ap_par3, ap_raise0, ap_self, ap_for, ap_wV, ap_set, ap_gN, ap_gT, ap_gT', ap_gsNil, ap_gsCons, ap_blsK, b_add, b_sub, b_mul, b_fdiv, b_mod, b_addt, c_lt, c_le, c_gt, c_ge, ap_runF, fin_rt, fin_nx, fin_err, ap_runI, fni_nx, fni_rt, fni_err, finC, ap_arity, setS, isD, isDs, tyB, tyNames, fldD, fget, itemP, putD, eqD_int, eqD_bl, eqD_rat, mget, hasF, List.lookup, eqD_strs, ee, h1, lc, hb, hd, h2, okP, restL, ap_riI, ri_1]

end Lw

end
section
set_option Elab.async false
set_option linter.all false
set_option maxRecDepth 100000
set_option maxHeartbeats 0
set_option exponentiation.threshold 10000
namespace Lw
open TL Pl
theorem sl_eq : PySem.Str.ofString "/" = tx [47] := by decide
theorem e_sl : (tx [47] == tx [47]) = true := beq_self_eq_true _
theorem e_ns : (tx [] == tx [47]) = false := by decide
theorem txb (a b : List Nat) : (tx a == tx b) = decide (a = b) := by
  by_cases h : a = b
  · subst h; simp
  · rw [decide_eq_false h]; exact beq_eq_false_iff_ne.mpr fun z => h (tx_inj.mp z)
theorem one_tx : PySem.Str.ofString "1" = tx [49] := by decide
theorem okP_t {a : List Nat} (h : okP a = true) : digs a = true ∧ a ≠ [] := by
  unfold okP at h
  obtain ⟨h1, h2⟩ := Bool.and_eq_true_iff.mp h
  exact ⟨h2, fun z => by subst z; cases h1⟩
theorem rd_no {l : List Nat} (h : (okP (parT (unN l)) && okP (lowL (unN l))) = false) : rdR l = none := by
  rw [rdR_eq, if_neg]
  unfold okP at h
  rw [h]; decide
theorem rd_yes {l : List Nat} (h1 : okP (parT (unN l)) = true) (h2 : okP (lowL (unN l)) = true) : rdR l = rdQ l (parT (unN l)) (lowL (unN l)) := by
  rw [rdR_eq, if_pos]
  unfold okP at h1 h2
  rw [h1, h2]; rfl
theorem v_read (n : Nat) {l : List Nat} (hl : l.length ≤ 12) (ce) : Ph (n + 4) 14 [.str (tx l)] ce = rdO (rdR l) ce := by
  have hu := Nat.le_trans (unN_len l) hl
  have lT := Nat.le_trans (parT_len (unN l)) hu
  have lL := Nat.le_trans (parL_len (unN l)) hu
  have z0 : sizeOk (tx l).length = true := sz_tx (by omega)
  have z1 : sizeOk (tx (unN l)).length = true := sz_tx (by omega)
  have l0 : (tx l).length = l.length := tx_len l
  have c400 : ¬ (400 < (l.length : Int)) := by omega
  have p1 := rp_tx l
  have p2 := pt_tx (unN l)
  have p3 := sw_tx l
  have zs : ((!((PySem.Str.ofString "/").length == 0)) && sizeOk (tx (unN l)).length) = true := by rw [z1]; decide
  have ll : (tx l).length ≤ 16777216 := by rw [tx_len]; omega
  have pcT := v_piece (n + 3) (parT (unN l)) (by omega)
  have pcL := v_piece (n + 3) (lowL (unN l)) (by unfold lowL; split; omega; decide)
  have hT0 : (tx (parT (unN l))).length ≤ 640 := by rw [tx_len]; omega
  have rd0 : (okP (parT (unN l)) && okP (lowL (unN l))) = false → rdR l = none := rd_no
  have rd1 : okP (parT (unN l)) = true → okP (lowL (unN l)) = true → rdR l = rdQ l (parT (unN l)) (lowL (unN l)) := rd_yes
  have hlw : lowL (unN l) = if parS (unN l) = true then parL (unN l) else [49] := rfl
  rw [sl_eq] at p2 zs
  rw [e_read_ratio]
  unfold B_read_ratio
  generalize parT (unN l) = tp at *
  generalize parL (unN l) = lw at *
  generalize lowL (unN l) = lo at *
  generalize parS (unN l) = S at *
  generalize hB : ((sIf (bOr (tOf (eOp (oEq 6 false) (eNameB 1) (eC (.str "")))) (bNot (tOf (M.bnd (eL (fLc [6] (wV (eName 1)) (gN 6) (M.ret true) (eChain (oC .le) (oC .le) (eC (.str "0")) (eNameB 6) (eC (.str "9"))))) (blsK fun bs => bs.all id))))) (sRaiseI 53 2 (aCons (eC (.int 0)) (aNil))) (nxt)) : M TL.Flow) = body at pcT pcL ⊢
  have e0 : PySem.Str.ofString "/" = tx [47] := sl_eq
  have e1 : PySem.Str.ofString "1" = tx [49] := one_tx
  cases hT : okP tp with
  | false =>
    rw [hT] at pcT
    rw [rd0 (by rw [hT]; rfl)]
    cases S with
    | false =>
      simp [cv_v, cv_f, cv_err, cl_f, cl_err, cm_v, cm_err, nt_b, nt_err, st_own, st_cell, ap_stF, it1_some, lcC_ok, lcB_f, lcB_t, lcB_b, lcA_some, ap_bnd, bd_ok, bd_err, bd_st, ad_t, ad_f, ad_err, ad_b, sq_nx, sq_rt, sq_err, sq_st, ap_ret, ap_some, ap_eC, ap_name, ap_nameB, ap_nil, ap_cons, ap_op, ap_oP, ap_oC, ap_oEq, ap_oEqF, ap_asB, ap_tOf, ap_bAnd, ap_bOr, ap_bNot, ap_ite, ap_eAnd, ap_eNot, ap_eIf, ap_chain, ap_isi, ap_isis, ap_fld, ap_ix, ap_tup, ap_fLst, ap_eL, ap_tupK, ap_tupK', ap_lenK, ap_lenK', ap_absK, ap_intK, ap_intK', ap_call, ap_callR, ap_fCall, ap_make, ap_callN, ap_meth, ap_opR, ap_opRi, ap_opRt, ap_opRl, ap_opRs, ap_neg, ap_negi, ap_negI, ap_oAddi, ap_oAddt, ap_oAdds, ap_oAddl, ap_oMuli, ap_sl, ap_oNone, ap_oSome, ap_seq, ap_if, ap_sRet, ap_sRetF, ap_sRetN, ap_sRetO, ap_drop, ap_nxt, ap_asg, ap_own, ap_cell, ap_par, ap_par3, ap_raise0, ap_self, ap_for, ap_wV, ap_set, ap_gN, ap_gT, ap_gT', ap_gsNil, ap_gsCons, ap_blsK, b_add, b_sub, b_mul, b_fdiv, b_mod, b_addt, c_lt, c_le, c_gt, c_ge, ap_runF, fin_rt, fin_nx, fin_err, ap_runI, fni_nx, fni_rt, fni_err, finC, ap_arity, setS, isD, isDs, tyB, tyNames, fldD, fget, itemP, putD, eqD_int, eqD_bl, eqD_rat, mget, hasF, List.lookup, l0, ln_s ll, c400, ap_mth, mt_s, rp_s z0, pt_s zs, p1, p2, z0, z1, eqD_strs, txb, e0, e1, wOf, sz_le, fo_cons, fo_nil, fo_nx, fo_err, it1, pcT, rdO]
    | true =>
      simp [cv_v, cv_f, cv_err, cl_f, cl_err, cm_v, cm_err, nt_b, nt_err, st_own, st_cell, ap_stF, it1_some, lcC_ok, lcB_f, lcB_t, lcB_b, lcA_some, ap_bnd, bd_ok, bd_err, bd_st, ad_t, ad_f, ad_err, ad_b, sq_nx, sq_rt, sq_err, sq_st, ap_ret, ap_some, ap_eC, ap_name, ap_nameB, ap_nil, ap_cons, ap_op, ap_oP, ap_oC, ap_oEq, ap_oEqF, ap_asB, ap_tOf, ap_bAnd, ap_bOr, ap_bNot, ap_ite, ap_eAnd, ap_eNot, ap_eIf, ap_chain, ap_isi, ap_isis, ap_fld, ap_ix, ap_tup, ap_fLst, ap_eL, ap_tupK, ap_tupK', ap_lenK, ap_lenK', ap_absK, ap_intK, ap_intK', ap_call, ap_callR, ap_fCall, ap_make, ap_callN, ap_meth, ap_opR, ap_opRi, ap_opRt, ap_opRl, ap_opRs, ap_neg, ap_negi, ap_negI, ap_oAddi, ap_oAddt, ap_oAdds, ap_oAddl, ap_oMuli, ap_sl, ap_oNone, ap_oSome, ap_seq, ap_if, ap_sRet, ap_sRetF, ap_sRetN, ap_sRetO, ap_drop, ap_nxt, ap_asg, ap_own, ap_cell, ap_par, ap_par3, ap_raise0, ap_self, ap_for, ap_wV, ap_set, ap_gN, ap_gT, ap_gT', ap_gsNil, ap_gsCons, ap_blsK, b_add, b_sub, b_mul, b_fdiv, b_mod, b_addt, c_lt, c_le, c_gt, c_ge, ap_runF, fin_rt, fin_nx, fin_err, ap_runI, fni_nx, fni_rt, fni_err, finC, ap_arity, setS, isD, isDs, tyB, tyNames, fldD, fget, itemP, putD, eqD_int, eqD_bl, eqD_rat, mget, hasF, List.lookup, l0, ln_s ll, c400, ap_mth, mt_s, rp_s z0, pt_s zs, p1, p2, z0, z1, eqD_strs, txb, e0, e1, wOf, sz_le, fo_cons, fo_nil, fo_nx, fo_err, it1, pcT, rdO]
  | true => 
    rw [hT] at pcT
    cases hL : okP lo with
    | false =>
      rw [hL] at pcL
      rw [rd0 (by rw [hL]; simp)]
      cases S with
      | false =>
        have hlw : lo = [49] := hlw
        subst hlw
        simp [cv_v, cv_f, cv_err, cl_f, cl_err, cm_v, cm_err, nt_b, nt_err, st_own, st_cell, ap_stF, it1_some, lcC_ok, lcB_f, lcB_t, lcB_b, lcA_some, ap_bnd, bd_ok, bd_err, bd_st, ad_t, ad_f, ad_err, ad_b, sq_nx, sq_rt, sq_err, sq_st, ap_ret, ap_some, ap_eC, ap_name, ap_nameB, ap_nil, ap_cons, ap_op, ap_oP, ap_oC, ap_oEq, ap_oEqF, ap_asB, ap_tOf, ap_bAnd, ap_bOr, ap_bNot, ap_ite, ap_eAnd, ap_eNot, ap_eIf, ap_chain, ap_isi, ap_isis, ap_fld, ap_ix, ap_tup, ap_fLst, ap_eL, ap_tupK, ap_tupK', ap_lenK, ap_lenK', ap_absK, ap_intK, ap_intK', ap_call, ap_callR, ap_fCall, ap_make, ap_callN, ap_meth, ap_opR, ap_opRi, ap_opRt, ap_opRl, ap_opRs, ap_neg, ap_negi, ap_negI, ap_oAddi, ap_oAddt, ap_oAdds, ap_oAddl, ap_oMuli, ap_sl, ap_oNone, ap_oSome, ap_seq, ap_if, ap_sRet, ap_sRetF, ap_sRetN, ap_sRetO, ap_drop, ap_nxt, ap_asg, ap_own, ap_cell, ap_par, ap_par3, ap_raise0, ap_self, ap_for, ap_wV, ap_set, ap_gN, ap_gT, ap_gT', ap_gsNil, ap_gsCons, ap_blsK, b_add, b_sub, b_mul, b_fdiv, b_mod, b_addt, c_lt, c_le, c_gt, c_ge, ap_runF, fin_rt, fin_nx, fin_err, ap_runI, fni_nx, fni_rt, fni_err, finC, ap_arity, setS, isD, isDs, tyB, tyNames, fldD, fget, itemP, putD, eqD_int, eqD_bl, eqD_rat, mget, hasF, List.lookup, l0, ln_s ll, c400, ap_mth, mt_s, rp_s z0, pt_s zs, p1, p2, z0, z1, eqD_strs, txb, e0, e1, wOf, sz_le, fo_cons, fo_nil, fo_nx, fo_err, it1, pcT, pcL, rdO]
      | true =>
        have hlw : lo = lw := hlw
        subst hlw
        simp [cv_v, cv_f, cv_err, cl_f, cl_err, cm_v, cm_err, nt_b, nt_err, st_own, st_cell, ap_stF, it1_some, lcC_ok, lcB_f, lcB_t, lcB_b, lcA_some, ap_bnd, bd_ok, bd_err, bd_st, ad_t, ad_f, ad_err, ad_b, sq_nx, sq_rt, sq_err, sq_st, ap_ret, ap_some, ap_eC, ap_name, ap_nameB, ap_nil, ap_cons, ap_op, ap_oP, ap_oC, ap_oEq, ap_oEqF, ap_asB, ap_tOf, ap_bAnd, ap_bOr, ap_bNot, ap_ite, ap_eAnd, ap_eNot, ap_eIf, ap_chain, ap_isi, ap_isis, ap_fld, ap_ix, ap_tup, ap_fLst, ap_eL, ap_tupK, ap_tupK', ap_lenK, ap_lenK', ap_absK, ap_intK, ap_intK', ap_call, ap_callR, ap_fCall, ap_make, ap_callN, ap_meth, ap_opR, ap_opRi, ap_opRt, ap_opRl, ap_opRs, ap_neg, ap_negi, ap_negI, ap_oAddi, ap_oAddt, ap_oAdds, ap_oAddl, ap_oMuli, ap_sl, ap_oNone, ap_oSome, ap_seq, ap_if, ap_sRet, ap_sRetF, ap_sRetN, ap_sRetO, ap_drop, ap_nxt, ap_asg, ap_own, ap_cell, ap_par, ap_par3, ap_raise0, ap_self, ap_for, ap_wV, ap_set, ap_gN, ap_gT, ap_gT', ap_gsNil, ap_gsCons, ap_blsK, b_add, b_sub, b_mul, b_fdiv, b_mod, b_addt, c_lt, c_le, c_gt, c_ge, ap_runF, fin_rt, fin_nx, fin_err, ap_runI, fni_nx, fni_rt, fni_err, finC, ap_arity, setS, isD, isDs, tyB, tyNames, fldD, fget, itemP, putD, eqD_int, eqD_bl, eqD_rat, mget, hasF, List.lookup, l0, ln_s ll, c400, ap_mth, mt_s, rp_s z0, pt_s zs, p1, p2, z0, z1, eqD_strs, txb, e0, e1, wOf, sz_le, fo_cons, fo_nil, fo_nx, fo_err, it1, pcT, pcL, rdO]
    | true =>
      rw [hL] at pcL
      rw [rd1 hT hL]
      obtain ⟨dT, nT⟩ := okP_t hT
      obtain ⟨dL, nL⟩ := okP_t hL
      have lo12 : lo.length ≤ 12 := by rw [hlw]; split; exact lL; decide
      have vT := val_lt (k := 12) dT lT
      have vL := val_lt (k := 12) dL lo12
      have iT := fun c => ik_s (c := c) (int_tx dT nT (by omega)) hT0
      have iL := fun c => ik_s (c := c) (int_tx dL nL (by omega)) (show (tx lo).length ≤ 640 by rw [tx_len]; omega)
      have mk := fun h => v_make (n + 1) (PySem.NumText.digitsVal tp : Int) (PySem.NumText.digitsVal lo : Int) h (Nat.lt_trans (show (PySem.NumText.digitsVal lo : Int).natAbs < 2 ^ 64 by rw [Int.natAbs_natCast]; omega) (Nat.pow_lt_pow_right (by decide) (by decide))) ce
      have bd := fun h => frac_bd (a := (PySem.NumText.digitsVal tp : Int)) (b := (PySem.NumText.digitsVal lo : Int)) (k := 10 ^ 20) h (by rw [Int.natAbs_natCast]; omega) (by rw [Int.natAbs_natCast]; omega)
      unfold rdQ
      have v1 : PySem.NumText.digitsVal [49] = 1 := by decide
      generalize hA : PySem.NumText.digitsVal tp = A at *
      generalize hC : PySem.NumText.digitsVal lo = Bv at *
      by_cases h0 : Bv = 0
      · rw [if_pos h0]
        cases S with
        | false =>
          exfalso
          have hlw : lo = [49] := hlw
          subst hlw
          have : PySem.NumText.digitsVal [49] = Bv := hC
          omega
        | true =>
          have hlw : lo = lw := hlw
          subst hlw
          have h0' : (Bv : Int) = 0 := by omega
          have iL : ∀ c, intK (D.str (tx lo)) c = .ok (.int 0) c := fun c => by rw [← h0']; exact iL c
          simp [cv_v, cv_f, cv_err, cl_f, cl_err, cm_v, cm_err, nt_b, nt_err, st_own, st_cell, ap_stF, it1_some, lcC_ok, lcB_f, lcB_t, lcB_b, lcA_some, ap_bnd, bd_ok, bd_err, bd_st, ad_t, ad_f, ad_err, ad_b, sq_nx, sq_rt, sq_err, sq_st, ap_ret, ap_some, ap_eC, ap_name, ap_nameB, ap_nil, ap_cons, ap_op, ap_oP, ap_oC, ap_oEq, ap_oEqF, ap_asB, ap_tOf, ap_bAnd, ap_bOr, ap_bNot, ap_ite, ap_eAnd, ap_eNot, ap_eIf, ap_chain, ap_isi, ap_isis, ap_fld, ap_ix, ap_tup, ap_fLst, ap_eL, ap_tupK, ap_tupK', ap_lenK, ap_lenK', ap_absK, ap_intK, ap_intK', ap_call, ap_callR, ap_fCall, ap_make, ap_callN, ap_meth, ap_opR, ap_opRi, ap_opRt, ap_opRl, ap_opRs, ap_neg, ap_negi, ap_negI, ap_oAddi, ap_oAddt, ap_oAdds, ap_oAddl, ap_oMuli, ap_sl, ap_oNone, ap_oSome, ap_seq, ap_if, ap_sRet, ap_sRetF, ap_sRetN, ap_sRetO, ap_drop, ap_nxt, ap_asg, ap_own, ap_cell, ap_par, ap_par3, ap_raise0, ap_self, ap_for, ap_wV, ap_set, ap_gN, ap_gT, ap_gT', ap_gsNil, ap_gsCons, ap_blsK, b_add, b_sub, b_mul, b_fdiv, b_mod, b_addt, c_lt, c_le, c_gt, c_ge, ap_runF, fin_rt, fin_nx, fin_err, ap_runI, fni_nx, fni_rt, fni_err, finC, ap_arity, setS, isD, isDs, tyB, tyNames, fldD, fget, itemP, putD, eqD_int, eqD_bl, eqD_rat, mget, hasF, List.lookup, l0, ln_s ll, c400, ap_mth, mt_s, rp_s z0, pt_s zs, p1, p2, z0, z1, eqD_strs, txb, e0, e1, wOf, sz_le, fo_cons, fo_nil, fo_nx, fo_err, it1, pcT, pcL, iL, ap_riI, ri_1, rdO]
      · rw [if_neg h0]
        have h0' : ¬ ((Bv : Int) = 0) := by omega
        have mk := mk h0'
        have bd := bd h0'
        generalize hQ : Rat.divInt (A : Int) (Bv : Int) = q at *
        have ng := v_neg0 n bd.1 bd.2 ce
        have s1 := v_str (n + 2) bd.1 bd.2 ce
        have s2 := v_str (n + 2) (q := -q) (by rw [Rat.neg_num, Int.natAbs_neg]; exact bd.1) (by rw [Rat.neg_den]; exact bd.2) ce
        have fin : ∀ (z : Rat), Ph (n + 3) 9 [.rat z] ce = .ok (.v (.str (tx (strR z)))) ce → True := fun _ _ => trivial
        cases S with
        | false =>
          have hlw : lo = [49] := hlw
          subst hlw
          have hb1 : (Bv : Int) = 1 := by have : PySem.NumText.digitsVal [49] = Bv := hC; omega
          rw [hb1] at mk
          cases hN : isN l with
          | false =>
            rw [hN] at p3
            by_cases hs : strR q = l
            · simp [cv_v, cv_f, cv_err, cl_f, cl_err, cm_v, cm_err, nt_b, nt_err, st_own, st_cell, ap_stF, it1_some, lcC_ok, lcB_f, lcB_t, lcB_b, lcA_some, ap_bnd, bd_ok, bd_err, bd_st, ad_t, ad_f, ad_err, ad_b, sq_nx, sq_rt, sq_err, sq_st, ap_ret, ap_some, ap_eC, ap_name, ap_nameB, ap_nil, ap_cons, ap_op, ap_oP, ap_oC, ap_oEq, ap_oEqF, ap_asB, ap_tOf, ap_bAnd, ap_bOr, ap_bNot, ap_ite, ap_eAnd, ap_eNot, ap_eIf, ap_chain, ap_isi, ap_isis, ap_fld, ap_ix, ap_tup, ap_fLst, ap_eL, ap_tupK, ap_tupK', ap_lenK, ap_lenK', ap_absK, ap_intK, ap_intK', ap_call, ap_callR, ap_fCall, ap_make, ap_callN, ap_meth, ap_opR, ap_opRi, ap_opRt, ap_opRl, ap_opRs, ap_neg, ap_negi, ap_negI, ap_oAddi, ap_oAddt, ap_oAdds, ap_oAddl, ap_oMuli, ap_sl, ap_oNone, ap_oSome, ap_seq, ap_if, ap_sRet, ap_sRetF, ap_sRetN, ap_sRetO, ap_drop, ap_nxt, ap_asg, ap_own, ap_cell, ap_par, ap_par3, ap_raise0, ap_self, ap_for, ap_wV, ap_set, ap_gN, ap_gT, ap_gT', ap_gsNil, ap_gsCons, ap_blsK, b_add, b_sub, b_mul, b_fdiv, b_mod, b_addt, c_lt, c_le, c_gt, c_ge, ap_runF, fin_rt, fin_nx, fin_err, ap_runI, fni_nx, fni_rt, fni_err, finC, ap_arity, setS, isD, isDs, tyB, tyNames, fldD, fget, itemP, putD, eqD_int, eqD_bl, eqD_rat, mget, hasF, List.lookup, l0, ln_s ll, c400, ap_mth, mt_s, rp_s z0, pt_s zs, p1, p2, p3, sw_s, z0, z1, eqD_strs, txb, e0, e1, wOf, sz_le, fo_cons, fo_nil, fo_nx, fo_err, it1, pcT, pcL, iT, mk, so_r, s1, sb_ok, hs, ap_riI, ri_1, rdO]
            · simp [cv_v, cv_f, cv_err, cl_f, cl_err, cm_v, cm_err, nt_b, nt_err, st_own, st_cell, ap_stF, it1_some, lcC_ok, lcB_f, lcB_t, lcB_b, lcA_some, ap_bnd, bd_ok, bd_err, bd_st, ad_t, ad_f, ad_err, ad_b, sq_nx, sq_rt, sq_err, sq_st, ap_ret, ap_some, ap_eC, ap_name, ap_nameB, ap_nil, ap_cons, ap_op, ap_oP, ap_oC, ap_oEq, ap_oEqF, ap_asB, ap_tOf, ap_bAnd, ap_bOr, ap_bNot, ap_ite, ap_eAnd, ap_eNot, ap_eIf, ap_chain, ap_isi, ap_isis, ap_fld, ap_ix, ap_tup, ap_fLst, ap_eL, ap_tupK, ap_tupK', ap_lenK, ap_lenK', ap_absK, ap_intK, ap_intK', ap_call, ap_callR, ap_fCall, ap_make, ap_callN, ap_meth, ap_opR, ap_opRi, ap_opRt, ap_opRl, ap_opRs, ap_neg, ap_negi, ap_negI, ap_oAddi, ap_oAddt, ap_oAdds, ap_oAddl, ap_oMuli, ap_sl, ap_oNone, ap_oSome, ap_seq, ap_if, ap_sRet, ap_sRetF, ap_sRetN, ap_sRetO, ap_drop, ap_nxt, ap_asg, ap_own, ap_cell, ap_par, ap_par3, ap_raise0, ap_self, ap_for, ap_wV, ap_set, ap_gN, ap_gT, ap_gT', ap_gsNil, ap_gsCons, ap_blsK, b_add, b_sub, b_mul, b_fdiv, b_mod, b_addt, c_lt, c_le, c_gt, c_ge, ap_runF, fin_rt, fin_nx, fin_err, ap_runI, fni_nx, fni_rt, fni_err, finC, ap_arity, setS, isD, isDs, tyB, tyNames, fldD, fget, itemP, putD, eqD_int, eqD_bl, eqD_rat, mget, hasF, List.lookup, l0, ln_s ll, c400, ap_mth, mt_s, rp_s z0, pt_s zs, p1, p2, p3, sw_s, z0, z1, eqD_strs, txb, e0, e1, wOf, sz_le, fo_cons, fo_nil, fo_nx, fo_err, it1, pcT, pcL, iT, mk, so_r, s1, sb_ok, hs, ap_riI, ri_1, rdO]
          | true =>
            rw [hN] at p3
            by_cases hs : strR (-q) = l
            · simp [cv_v, cv_f, cv_err, cl_f, cl_err, cm_v, cm_err, nt_b, nt_err, st_own, st_cell, ap_stF, it1_some, lcC_ok, lcB_f, lcB_t, lcB_b, lcA_some, ap_bnd, bd_ok, bd_err, bd_st, ad_t, ad_f, ad_err, ad_b, sq_nx, sq_rt, sq_err, sq_st, ap_ret, ap_some, ap_eC, ap_name, ap_nameB, ap_nil, ap_cons, ap_op, ap_oP, ap_oC, ap_oEq, ap_oEqF, ap_asB, ap_tOf, ap_bAnd, ap_bOr, ap_bNot, ap_ite, ap_eAnd, ap_eNot, ap_eIf, ap_chain, ap_isi, ap_isis, ap_fld, ap_ix, ap_tup, ap_fLst, ap_eL, ap_tupK, ap_tupK', ap_lenK, ap_lenK', ap_absK, ap_intK, ap_intK', ap_call, ap_callR, ap_fCall, ap_make, ap_callN, ap_meth, ap_opR, ap_opRi, ap_opRt, ap_opRl, ap_opRs, ap_neg, ap_negi, ap_negI, ap_oAddi, ap_oAddt, ap_oAdds, ap_oAddl, ap_oMuli, ap_sl, ap_oNone, ap_oSome, ap_seq, ap_if, ap_sRet, ap_sRetF, ap_sRetN, ap_sRetO, ap_drop, ap_nxt, ap_asg, ap_own, ap_cell, ap_par, ap_par3, ap_raise0, ap_self, ap_for, ap_wV, ap_set, ap_gN, ap_gT, ap_gT', ap_gsNil, ap_gsCons, ap_blsK, b_add, b_sub, b_mul, b_fdiv, b_mod, b_addt, c_lt, c_le, c_gt, c_ge, ap_runF, fin_rt, fin_nx, fin_err, ap_runI, fni_nx, fni_rt, fni_err, finC, ap_arity, setS, isD, isDs, tyB, tyNames, fldD, fget, itemP, putD, eqD_int, eqD_bl, eqD_rat, mget, hasF, List.lookup, l0, ln_s ll, c400, ap_mth, mt_s, rp_s z0, pt_s zs, p1, p2, p3, sw_s, z0, z1, eqD_strs, txb, e0, e1, wOf, sz_le, fo_cons, fo_nil, fo_nx, fo_err, it1, pcT, pcL, iT, mk, ng, so_r, s2, sb_ok, hs, ap_riI, ri_1, rdO]
            · simp [cv_v, cv_f, cv_err, cl_f, cl_err, cm_v, cm_err, nt_b, nt_err, st_own, st_cell, ap_stF, it1_some, lcC_ok, lcB_f, lcB_t, lcB_b, lcA_some, ap_bnd, bd_ok, bd_err, bd_st, ad_t, ad_f, ad_err, ad_b, sq_nx, sq_rt, sq_err, sq_st, ap_ret, ap_some, ap_eC, ap_name, ap_nameB, ap_nil, ap_cons, ap_op, ap_oP, ap_oC, ap_oEq, ap_oEqF, ap_asB, ap_tOf, ap_bAnd, ap_bOr, ap_bNot, ap_ite, ap_eAnd, ap_eNot, ap_eIf, ap_chain, ap_isi, ap_isis, ap_fld, ap_ix, ap_tup, ap_fLst, ap_eL, ap_tupK, ap_tupK', ap_lenK, ap_lenK', ap_absK, ap_intK, ap_intK', ap_call, ap_callR, ap_fCall, ap_make, ap_callN, ap_meth, ap_opR, ap_opRi, ap_opRt, ap_opRl, ap_opRs, ap_neg, ap_negi, ap_negI, ap_oAddi, ap_oAddt, ap_oAdds, ap_oAddl, ap_oMuli, ap_sl, ap_oNone, ap_oSome, ap_seq, ap_if, ap_sRet, ap_sRetF, ap_sRetN, ap_sRetO, ap_drop, ap_nxt, ap_asg, ap_own, ap_cell, ap_par, ap_par3, ap_raise0, ap_self, ap_for, ap_wV, ap_set, ap_gN, ap_gT, ap_gT', ap_gsNil, ap_gsCons, ap_blsK, b_add, b_sub, b_mul, b_fdiv, b_mod, b_addt, c_lt, c_le, c_gt, c_ge, ap_runF, fin_rt, fin_nx, fin_err, ap_runI, fni_nx, fni_rt, fni_err, finC, ap_arity, setS, isD, isDs, tyB, tyNames, fldD, fget, itemP, putD, eqD_int, eqD_bl, eqD_rat, mget, hasF, List.lookup, l0, ln_s ll, c400, ap_mth, mt_s, rp_s z0, pt_s zs, p1, p2, p3, sw_s, z0, z1, eqD_strs, txb, e0, e1, wOf, sz_le, fo_cons, fo_nil, fo_nx, fo_err, it1, pcT, pcL, iT, mk, ng, so_r, s2, sb_ok, hs, ap_riI, ri_1, rdO]
        | true =>
          have hlw : lo = lw := hlw
          subst hlw
          cases hN : isN l with
          | false =>
            rw [hN] at p3
            by_cases hs : strR q = l
            · simp [cv_v, cv_f, cv_err, cl_f, cl_err, cm_v, cm_err, nt_b, nt_err, st_own, st_cell, ap_stF, it1_some, lcC_ok, lcB_f, lcB_t, lcB_b, lcA_some, ap_bnd, bd_ok, bd_err, bd_st, ad_t, ad_f, ad_err, ad_b, sq_nx, sq_rt, sq_err, sq_st, ap_ret, ap_some, ap_eC, ap_name, ap_nameB, ap_nil, ap_cons, ap_op, ap_oP, ap_oC, ap_oEq, ap_oEqF, ap_asB, ap_tOf, ap_bAnd, ap_bOr, ap_bNot, ap_ite, ap_eAnd, ap_eNot, ap_eIf, ap_chain, ap_isi, ap_isis, ap_fld, ap_ix, ap_tup, ap_fLst, ap_eL, ap_tupK, ap_tupK', ap_lenK, ap_lenK', ap_absK, ap_intK, ap_intK', ap_call, ap_callR, ap_fCall, ap_make, ap_callN, ap_meth, ap_opR, ap_opRi, ap_opRt, ap_opRl, ap_opRs, ap_neg, ap_negi, ap_negI, ap_oAddi, ap_oAddt, ap_oAdds, ap_oAddl, ap_oMuli, ap_sl, ap_oNone, ap_oSome, ap_seq, ap_if, ap_sRet, ap_sRetF, ap_sRetN, ap_sRetO, ap_drop, ap_nxt, ap_asg, ap_own, ap_cell, ap_par, ap_par3, ap_raise0, ap_self, ap_for, ap_wV, ap_set, ap_gN, ap_gT, ap_gT', ap_gsNil, ap_gsCons, ap_blsK, b_add, b_sub, b_mul, b_fdiv, b_mod, b_addt, c_lt, c_le, c_gt, c_ge, ap_runF, fin_rt, fin_nx, fin_err, ap_runI, fni_nx, fni_rt, fni_err, finC, ap_arity, setS, isD, isDs, tyB, tyNames, fldD, fget, itemP, putD, eqD_int, eqD_bl, eqD_rat, mget, hasF, List.lookup, l0, ln_s ll, c400, ap_mth, mt_s, rp_s z0, pt_s zs, p1, p2, p3, sw_s, z0, z1, eqD_strs, txb, e0, e1, wOf, sz_le, fo_cons, fo_nil, fo_nx, fo_err, it1, pcT, pcL, iT, iL, h0, h0', mk, so_r, s1, sb_ok, hs, ap_riI, ri_1, rdO]
            · simp [cv_v, cv_f, cv_err, cl_f, cl_err, cm_v, cm_err, nt_b, nt_err, st_own, st_cell, ap_stF, it1_some, lcC_ok, lcB_f, lcB_t, lcB_b, lcA_some, ap_bnd, bd_ok, bd_err, bd_st, ad_t, ad_f, ad_err, ad_b, sq_nx, sq_rt, sq_err, sq_st, ap_ret, ap_some, ap_eC, ap_name, ap_nameB, ap_nil, ap_cons, ap_op, ap_oP, ap_oC, ap_oEq, ap_oEqF, ap_asB, ap_tOf, ap_bAnd, ap_bOr, ap_bNot, ap_ite, ap_eAnd, ap_eNot, ap_eIf, ap_chain, ap_isi, ap_isis, ap_fld, ap_ix, ap_tup, ap_fLst, ap_eL, ap_tupK, ap_tupK', ap_lenK, ap_lenK', ap_absK, ap_intK, ap_intK', ap_call, ap_callR, ap_fCall, ap_make, ap_callN, ap_meth, ap_opR, ap_opRi, ap_opRt, ap_opRl, ap_opRs, ap_neg, ap_negi, ap_negI, ap_oAddi, ap_oAddt, ap_oAdds, ap_oAddl, ap_oMuli, ap_sl, ap_oNone, ap_oSome, ap_seq, ap_if, ap_sRet, ap_sRetF, ap_sRetN, ap_sRetO, ap_drop, ap_nxt, ap_asg, ap_own, ap_cell, ap_par, ap_par3, ap_raise0, ap_self, ap_for, ap_wV, ap_set, ap_gN, ap_gT, ap_gT', ap_gsNil, ap_gsCons, ap_blsK, b_add, b_sub, b_mul, b_fdiv, b_mod, b_addt, c_lt, c_le, c_gt, c_ge, ap_runF, fin_rt, fin_nx, fin_err, ap_runI, fni_nx, fni_rt, fni_err, finC, ap_arity, setS, isD, isDs, tyB, tyNames, fldD, fget, itemP, putD, eqD_int, eqD_bl, eqD_rat, mget, hasF, List.lookup, l0, ln_s ll, c400, ap_mth, mt_s, rp_s z0, pt_s zs, p1, p2, p3, sw_s, z0, z1, eqD_strs, txb, e0, e1, wOf, sz_le, fo_cons, fo_nil, fo_nx, fo_err, it1, pcT, pcL, iT, iL, h0, h0', mk, so_r, s1, sb_ok, hs, ap_riI, ri_1, rdO]
          | true =>
            rw [hN] at p3
            by_cases hs : strR (-q) = l
            · simp [cv_v, cv_f, cv_err, cl_f, cl_err, cm_v, cm_err, nt_b, nt_err, st_own, st_cell, ap_stF, it1_some, lcC_ok, lcB_f, lcB_t, lcB_b, lcA_some, ap_bnd, bd_ok, bd_err, bd_st, ad_t, ad_f, ad_err, ad_b, sq_nx, sq_rt, sq_err, sq_st, ap_ret, ap_some, ap_eC, ap_name, ap_nameB, ap_nil, ap_cons, ap_op, ap_oP, ap_oC, ap_oEq, ap_oEqF, ap_asB, ap_tOf, ap_bAnd, ap_bOr, ap_bNot, ap_ite, ap_eAnd, ap_eNot, ap_eIf, ap_chain, ap_isi, ap_isis, ap_fld, ap_ix, ap_tup, ap_fLst, ap_eL, ap_tupK, ap_tupK', ap_lenK, ap_lenK', ap_absK, ap_intK, ap_intK', ap_call, ap_callR, ap_fCall, ap_make, ap_callN, ap_meth, ap_opR, ap_opRi, ap_opRt, ap_opRl, ap_opRs, ap_neg, ap_negi, ap_negI, ap_oAddi, ap_oAddt, ap_oAdds, ap_oAddl, ap_oMuli, ap_sl, ap_oNone, ap_oSome, ap_seq, ap_if, ap_sRet, ap_sRetF, ap_sRetN, ap_sRetO, ap_drop, ap_nxt, ap_asg, ap_own, ap_cell, ap_par, ap_par3, ap_raise0, ap_self, ap_for, ap_wV, ap_set, ap_gN, ap_gT, ap_gT', ap_gsNil, ap_gsCons, ap_blsK, b_add, b_sub, b_mul, b_fdiv, b_mod, b_addt, c_lt, c_le, c_gt, c_ge, ap_runF, fin_rt, fin_nx, fin_err, ap_runI, fni_nx, fni_rt, fni_err, finC, ap_arity, setS, isD, isDs, tyB, tyNames, fldD, fget, itemP, putD, eqD_int, eqD_bl, eqD_rat, mget, hasF, List.lookup, l0, ln_s ll, c400, ap_mth, mt_s, rp_s z0, pt_s zs, p1, p2, p3, sw_s, z0, z1, eqD_strs, txb, e0, e1, wOf, sz_le, fo_cons, fo_nil, fo_nx, fo_err, it1, pcT, pcL, iT, iL, h0, h0', mk, ng, so_r, s2, sb_ok, hs, ap_riI, ri_1, rdO]
            · simp [cv_v, cv_f, cv_err, cl_f, cl_err, cm_v, cm_err, nt_b, nt_err, st_own, st_cell, ap_stF, it1_some, lcC_ok, lcB_f, lcB_t, lcB_b, lcA_some, ap_bnd, bd_ok, bd_err, bd_st, ad_t, ad_f, ad_err, ad_b, sq_nx, sq_rt, sq_err, sq_st, ap_ret, ap_some, ap_eC, ap_name, ap_nameB, ap_nil, ap_cons, ap_op, ap_oP, ap_oC, ap_oEq, ap_oEqF, ap_asB, ap_tOf, ap_bAnd, ap_bOr, ap_bNot, ap_ite, ap_eAnd, ap_eNot, ap_eIf, ap_chain, ap_isi, ap_isis, ap_fld, ap_ix, ap_tup, ap_fLst, ap_eL, ap_tupK, ap_tupK', ap_lenK, ap_lenK', ap_absK, ap_intK, ap_intK', ap_call, ap_callR, ap_fCall, ap_make, ap_callN, ap_meth, ap_opR, ap_opRi, ap_opRt, ap_opRl, ap_opRs, ap_neg, ap_negi, ap_negI, ap_oAddi, ap_oAddt, ap_oAdds, ap_oAddl, ap_oMuli, ap_sl, ap_oNone, ap_oSome, ap_seq, ap_if, ap_sRet, ap_sRetF, ap_sRetN, ap_sRetO, ap_drop, ap_nxt, ap_asg, ap_own, ap_cell, ap_par, ap_par3, ap_raise0, ap_self, ap_for, ap_wV, ap_set, ap_gN, ap_gT, ap_gT', ap_gsNil, ap_gsCons, ap_blsK, b_add, b_sub, b_mul, b_fdiv, b_mod, b_addt, c_lt, c_le, c_gt, c_ge, ap_runF, fin_rt, fin_nx, fin_err, ap_runI, fni_nx, fni_rt, fni_err, finC, ap_arity, setS, isD, isDs, tyB, tyNames, fldD, fget, itemP, putD, eqD_int, eqD_bl, eqD_rat, mget, hasF, List.lookup, l0, ln_s ll, c400, ap_mth, mt_s, rp_s z0, pt_s zs, p1, p2, p3, sw_s, z0, z1, eqD_strs, txb, e0, e1, wOf, sz_le, fo_cons, fo_nil, fo_nx, fo_err, it1, pcT, pcL, iT, iL, h0, h0', mk, ng, so_r, s2, sb_ok, hs, ap_riI, ri_1, rdO]

end Lw

end
section
set_option Elab.async false
set_option linter.all false
set_option maxRecDepth 100000
set_option maxHeartbeats 0
set_option exponentiation.threshold 10000
namespace Lw
open TL Pl
def euclL (body : M TL.Flow) (n : Nat) : M TL.Flow := whl (tOf (eOp (oEq 6 true) (eNameB 1) (eC (.int 0)))) body n
theorem eucl_gen {body : M TL.Flow} (hb' : ∀ (a b : Int) ce, b ≠ 0 → body ⟨[.v (.int a), .v (.int b)], ce⟩ = .ok .nx ⟨[.v (.int b), .v (.int (a.fmod b))], ce⟩) (ce) : ∀ (k : Nat) (a b : Nat) (n : Nat), b < 2 ^ k → 2 * k + 1 ≤ n →
    whl (tOf (eOp (oEq 6 true) (eNameB 1) (eC (.int 0)))) body n ⟨[.v (.int (a : Int)), .v (.int (b : Int))], ce⟩ = .ok .nx ⟨[.v (.int (Nat.gcd a b : Nat)), .v (.int 0)], ce⟩ := by
  intro k
  induction k with
  | zero =>
    intro a b n hb hn
    obtain rfl : b = 0 := by simpa using hb
    obtain ⟨n, rfl⟩ : ∃ m, n = m + 1 := ⟨n - 1, by omega⟩
    unfold whl
    rw [eucl_t]
    simp
  | succ k ih =>
    intro a b n hb hn
    obtain ⟨n, rfl⟩ : ∃ m, n = m + 2 := ⟨n - 2, by omega⟩
    by_cases h0 : b = 0
    · subst h0
      unfold whl
      rw [eucl_t]
      simp
    unfold whl
    rw [eucl_t, decide_eq_false (by omega : ¬ ((b : Int) = 0))]
    simp only [Bool.not_false]
    rw [hb' _ _ _ (by omega)]
    simp only
    rw [show (a : Int).fmod (b : Int) = ((a % b : Nat) : Int) by rw [Int.fmod_eq_emod_of_nonneg _ (by omega)]; rfl]
    by_cases h1 : a % b = 0
    · unfold whl
      rw [eucl_t, h1]
      have hg : a.gcd b = b := by rw [Nat.gcd_comm, Nat.gcd_rec, h1, Nat.gcd_zero_left]
      rw [hg]
      rfl
    · have hlt : a % b < b := Nat.mod_lt _ (by omega)
      unfold whl
      rw [eucl_t, decide_eq_false (by omega : ¬ (((a % b : Nat) : Int) = 0))]
      simp only [Bool.not_false]
      rw [hb' _ _ _ (by omega)]
      simp only
      rw [show (b : Int).fmod ((a % b : Nat) : Int) = ((b % (a % b) : Nat) : Int) by rw [Int.fmod_eq_emod_of_nonneg _ (by omega)]; rfl]
      have hh : b % (a % b) < 2 ^ k := by
        have h2 : b % (a % b) < a % b := Nat.mod_lt _ (by omega)
        have h3 : (a % b) * (b / (a % b)) + b % (a % b) = b := Nat.div_add_mod ..
        have h4 : 1 ≤ b / (a % b) := Nat.div_pos (by omega) (by omega)
        have h5 : (a % b) * 1 ≤ (a % b) * (b / (a % b)) := Nat.mul_le_mul_left _ h4
        rw [Nat.pow_succ] at hb
        omega
      rw [ih (a % b) (b % (a % b)) n hh (by omega)]
      have g1 : b.gcd a = (a % b).gcd b := Nat.gcd_rec ..
      have g2 : (a % b).gcd b = (b % (a % b)).gcd (a % b) := Nat.gcd_rec ..
      rw [Nat.gcd_comm a b, g1, g2, Nat.gcd_comm (a % b)]
theorem lc_b (a b : Int) (ce) (hb : b ≠ 0) : (sPar 0 1 (aCons (eName 1) (aCons (eOp (oP .mod) (M.bnd (eNameB 0) intK) (eNameB 1)) (aNil))) : M TL.Flow) ⟨[.v (.int a), .v (.int b)], ce⟩ = .ok .nx ⟨[.v (.int b), .v (.int (a.fmod b))], ce⟩ := by
  simp [cv_v, cv_f, cv_err, cl_f, cl_err, cm_v, cm_err, nt_b, nt_err, st_own, st_cell, ap_stF, it1_some, lcC_ok, lcB_f, lcB_t, lcB_b, lcA_some, ap_bnd, bd_ok, bd_err, bd_st, ad_t, ad_f, ad_err, ad_b, sq_nx, sq_rt, sq_err, sq_st, ap_ret, ap_some, ap_eC, ap_name, ap_nameB, ap_nil, ap_cons, ap_op, ap_oP, ap_oC, ap_oEq, ap_oEqF, ap_asB, ap_tOf, ap_bAnd, ap_bOr, ap_bNot, ap_ite, ap_eAnd, ap_eNot, ap_eIf, ap_chain, ap_isi, ap_isis, ap_fld, ap_ix, ap_tup, ap_fLst, ap_eL, ap_tupK, ap_tupK', ap_lenK, ap_lenK', ap_absK, ap_intK, ap_intK', ap_call, ap_callR, ap_fCall, ap_make, ap_callN, ap_meth, ap_opR, ap_opRi, ap_opRt, ap_opRl, ap_opRs, ap_neg, ap_negi, ap_negI, ap_oAddi, ap_oAddt, ap_oAdds, ap_oAddl, ap_oMuli, ap_sl, ap_oNone, ap_oSome, ap_seq, ap_if, ap_sRet, ap_sRetF, ap_sRetN, ap_sRetO, ap_drop, ap_nxt, ap_asg, ap_own, ap_cell, ap_par, ap_par3, ap_raise0, ap_self, ap_for, ap_wV, ap_set, ap_gN, ap_gT, ap_gT', ap_gsNil, ap_gsCons, ap_blsK, b_add, b_sub, b_mul, b_fdiv, b_mod, b_addt, c_lt, c_le, c_gt, c_ge, ap_runF, fin_rt, fin_nx, fin_err, ap_runI, fni_nx, fni_rt, fni_err, finC, ap_arity, setS, isD, isDs, tyB, tyNames, fldD, fget, itemP, putD, eqD_int, eqD_bl, eqD_rat, mget, hasF, List.lookup, hb]
theorem v_lcommon (n : Nat) (a : Int) (d : Nat) (hd : 0 < d) (hd2 : d < 2 ^ 70) (hc : a.natAbs.Coprime d) (ce) : Ph (n + 1) 20 [.int a, .int (d : Int)] ce = .ok (.v (.int 1)) ce := by
  rw [e__law_common]
  unfold B__law_common NF
  obtain ⟨m, hm⟩ : ∃ m : Nat, a.fmod (d : Int) = (m : Int) ∧ m < d := by
    have h1 := Int.fmod_nonneg_of_pos a (show (0 : Int) < d by omega)
    have h2 := Int.fmod_lt_of_pos a (show (0 : Int) < d by omega)
    exact ⟨(a.fmod d).toNat, by omega, by omega⟩
  have hg : d.gcd m = 1 := by
    have e : a.fmod (d : Int) = a % (d : Int) := Int.fmod_eq_emod_of_nonneg _ (by omega)
    rw [e] at hm
    have q : Int.gcd (d : Int) (a % (d : Int)) = Int.gcd (d : Int) a := by
      have z := Int.gcd_add_mul_left_right (d : Int) (a % (d : Int)) (a / (d : Int))
      rw [Int.emod_add_mul_ediv] at z
      exact z.symm
    rw [hm.1] at q
    have q1 : Int.gcd (d : Int) (m : Int) = d.gcd m := rfl
    have q2 : Int.gcd (d : Int) a = d.gcd a.natAbs := rfl
    rw [q1, q2] at q
    rw [q, Nat.gcd_comm]; exact hc
  have e := eucl_gen (fun a b ce h => lc_b a b ce h) ce 70 d m 99999 (by omega) (by decide)
  rw [hg] at e
  have w : whl (tOf (eOp (oEq 6 true) (eNameB 1) (eC (.int 0)))) (sPar 0 1 (aCons (eName 1) (aCons (eOp (oP .mod) (M.bnd (eNameB 0) intK) (eNameB 1)) (aNil)))) 100000 ⟨[.v (.int a), .v (.int (d : Int))], ce⟩ = .ok .nx ⟨[.v (.int 1), .v (.int 0)], ce⟩ := by
    unfold whl
    rw [eucl_t, decide_eq_false (by omega : ¬ ((d : Int) = 0))]
    simp only [Bool.not_false]
    rw [lc_b _ _ _ (by omega), hm.1]
    simp only
    exact e
  simp [cv_v, cv_f, cv_err, cl_f, cl_err, cm_v, cm_err, nt_b, nt_err, st_own, st_cell, ap_stF, it1_some, lcC_ok, lcB_f, lcB_t, lcB_b, lcA_some, ap_bnd, bd_ok, bd_err, bd_st, ad_t, ad_f, ad_err, ad_b, sq_nx, sq_rt, sq_err, sq_st, ap_ret, ap_some, ap_eC, ap_name, ap_nameB, ap_nil, ap_cons, ap_op, ap_oP, ap_oC, ap_oEq, ap_oEqF, ap_asB, ap_tOf, ap_bAnd, ap_bOr, ap_bNot, ap_ite, ap_eAnd, ap_eNot, ap_eIf, ap_chain, ap_isi, ap_isis, ap_fld, ap_ix, ap_tup, ap_fLst, ap_eL, ap_tupK, ap_tupK', ap_lenK, ap_lenK', ap_absK, ap_intK, ap_intK', ap_call, ap_callR, ap_fCall, ap_make, ap_callN, ap_meth, ap_opR, ap_opRi, ap_opRt, ap_opRl, ap_opRs, ap_neg, ap_negi, ap_negI, ap_oAddi, ap_oAddt, ap_oAdds, ap_oAddl, ap_oMuli, ap_sl, ap_oNone, ap_oSome, ap_seq, ap_if, ap_sRet, ap_sRetF, ap_sRetN, ap_sRetO, ap_drop, ap_nxt, ap_asg, ap_own, ap_cell, ap_par, ap_par3, ap_raise0, ap_self, ap_for, ap_wV, ap_set, ap_gN, ap_gT, ap_gT', ap_gsNil, ap_gsCons, ap_blsK, b_add, b_sub, b_mul, b_fdiv, b_mod, b_addt, c_lt, c_le, c_gt, c_ge, ap_runF, fin_rt, fin_nx, fin_err, ap_runI, fni_nx, fni_rt, fni_err, finC, ap_arity, setS, isD, isDs, tyB, tyNames, fldD, fget, itemP, putD, eqD_int, eqD_bl, eqD_rat, mget, hasF, List.lookup, w]
/-- what _law_db_told makes -/
theorem td_ok2 (n : Nat) {f : Nat} {a b d : D} (hf : fvs.contains f = true) (ce ce') (h : Ph n f [a, b] ce = .ok (.v d) ce') : Ph (n + 1) 24 [.fn f, .tup [a, b]] ce = .ok (.v (.tup [.str (PySem.Str.ofString "told"), d])) ce' := by
  rw [e__law_db_told]
  unfold B__law_db_told
  have hf' : f ∈ fvs := by simpa using hf
  have i0 : L2.atI [a, b] 0 = some a := rfl
  have i1 : L2.atI [a, b] 1 = some b := rfl
  simp [cv_v, cv_f, cv_err, cl_f, cl_err, cm_v, cm_err, nt_b, nt_err, st_own, st_cell, ap_stF, it1_some, lcC_ok, lcB_f, lcB_t, lcB_b, lcA_some, ap_bnd, bd_ok, bd_err, bd_st, ad_t, ad_f, ad_err, ad_b, sq_nx, sq_rt, sq_err, sq_st, ap_ret, ap_some, ap_eC, ap_name, ap_nameB, ap_nil, ap_cons, ap_op, ap_oP, ap_oC, ap_oEq, ap_oEqF, ap_asB, ap_tOf, ap_bAnd, ap_bOr, ap_bNot, ap_ite, ap_eAnd, ap_eNot, ap_eIf, ap_chain, ap_isi, ap_isis, ap_fld, ap_ix, ap_tup, ap_fLst, ap_eL, ap_tupK, ap_tupK', ap_lenK, ap_lenK', ap_absK, ap_intK, ap_intK', ap_call, ap_callR, ap_fCall, ap_make, ap_callN, ap_meth, ap_opR, ap_opRi, ap_opRt, ap_opRl, ap_opRs, ap_neg, ap_negi, ap_negI, ap_oAddi, ap_oAddt, ap_oAdds, ap_oAddl, ap_oMuli, ap_sl, ap_oNone, ap_oSome, ap_seq, ap_if, ap_sRet, ap_sRetF, ap_sRetN, ap_sRetO, ap_drop, ap_nxt, ap_asg, ap_own, ap_cell, ap_par, ap_par3, ap_raise0, ap_self, ap_for, ap_wV, ap_set, ap_gN, ap_gT, ap_gT', ap_gsNil, ap_gsCons, ap_blsK, b_add, b_sub, b_mul, b_fdiv, b_mod, b_addt, c_lt, c_le, c_gt, c_ge, ap_runF, fin_rt, fin_nx, fin_err, ap_runI, fni_nx, fni_rt, fni_err, finC, ap_arity, setS, isD, isDs, tyB, tyNames, fldD, fget, itemP, putD, eqD_int, eqD_bl, eqD_rat, mget, hasF, List.lookup, ap_try, ap_callN, hf', i0, i1, h, ty_ok, sz_le]
theorem td_ok1 (n : Nat) {f : Nat} {a d : D} (hf : fvs.contains f = true) (ce ce') (h : Ph n f [a] ce = .ok (.v d) ce') : Ph (n + 1) 24 [.fn f, .tup [a]] ce = .ok (.v (.tup [.str (PySem.Str.ofString "told"), d])) ce' := by
  rw [e__law_db_told]
  unfold B__law_db_told
  have hf' : f ∈ fvs := by simpa using hf
  have i0 : L2.atI [a] 0 = some a := rfl
  simp [cv_v, cv_f, cv_err, cl_f, cl_err, cm_v, cm_err, nt_b, nt_err, st_own, st_cell, ap_stF, it1_some, lcC_ok, lcB_f, lcB_t, lcB_b, lcA_some, ap_bnd, bd_ok, bd_err, bd_st, ad_t, ad_f, ad_err, ad_b, sq_nx, sq_rt, sq_err, sq_st, ap_ret, ap_some, ap_eC, ap_name, ap_nameB, ap_nil, ap_cons, ap_op, ap_oP, ap_oC, ap_oEq, ap_oEqF, ap_asB, ap_tOf, ap_bAnd, ap_bOr, ap_bNot, ap_ite, ap_eAnd, ap_eNot, ap_eIf, ap_chain, ap_isi, ap_isis, ap_fld, ap_ix, ap_tup, ap_fLst, ap_eL, ap_tupK, ap_tupK', ap_lenK, ap_lenK', ap_absK, ap_intK, ap_intK', ap_call, ap_callR, ap_fCall, ap_make, ap_callN, ap_meth, ap_opR, ap_opRi, ap_opRt, ap_opRl, ap_opRs, ap_neg, ap_negi, ap_negI, ap_oAddi, ap_oAddt, ap_oAdds, ap_oAddl, ap_oMuli, ap_sl, ap_oNone, ap_oSome, ap_seq, ap_if, ap_sRet, ap_sRetF, ap_sRetN, ap_sRetO, ap_drop, ap_nxt, ap_asg, ap_own, ap_cell, ap_par, ap_par3, ap_raise0, ap_self, ap_for, ap_wV, ap_set, ap_gN, ap_gT, ap_gT', ap_gsNil, ap_gsCons, ap_blsK, b_add, b_sub, b_mul, b_fdiv, b_mod, b_addt, c_lt, c_le, c_gt, c_ge, ap_runF, fin_rt, fin_nx, fin_err, ap_runI, fni_nx, fni_rt, fni_err, finC, ap_arity, setS, isD, isDs, tyB, tyNames, fldD, fget, itemP, putD, eqD_int, eqD_bl, eqD_rat, mget, hasF, List.lookup, ap_try, ap_callN, hf', i0, h, ty_ok, sz_le]
theorem td_zero (n : Nat) {f : Nat} {a b : D} (hf : fvs.contains f = true) (ce) (h : Ph n f [a, b] ce = .err ⟨51, []⟩ ce) : Ph (n + 1) 24 [.fn f, .tup [a, b]] ce = .ok (.v (.tup [.str (PySem.Str.ofString "zero"), .non])) ce := by
  rw [e__law_db_told]
  unfold B__law_db_told
  have hf' : f ∈ fvs := by simpa using hf
  have i0 : L2.atI [a, b] 0 = some a := rfl
  have i1 : L2.atI [a, b] 1 = some b := rfl
  have x1 : XT 51 51 = some true := by rfl
  simp [cv_v, cv_f, cv_err, cl_f, cl_err, cm_v, cm_err, nt_b, nt_err, st_own, st_cell, ap_stF, it1_some, lcC_ok, lcB_f, lcB_t, lcB_b, lcA_some, ap_bnd, bd_ok, bd_err, bd_st, ad_t, ad_f, ad_err, ad_b, sq_nx, sq_rt, sq_err, sq_st, ap_ret, ap_some, ap_eC, ap_name, ap_nameB, ap_nil, ap_cons, ap_op, ap_oP, ap_oC, ap_oEq, ap_oEqF, ap_asB, ap_tOf, ap_bAnd, ap_bOr, ap_bNot, ap_ite, ap_eAnd, ap_eNot, ap_eIf, ap_chain, ap_isi, ap_isis, ap_fld, ap_ix, ap_tup, ap_fLst, ap_eL, ap_tupK, ap_tupK', ap_lenK, ap_lenK', ap_absK, ap_intK, ap_intK', ap_call, ap_callR, ap_fCall, ap_make, ap_callN, ap_meth, ap_opR, ap_opRi, ap_opRt, ap_opRl, ap_opRs, ap_neg, ap_negi, ap_negI, ap_oAddi, ap_oAddt, ap_oAdds, ap_oAddl, ap_oMuli, ap_sl, ap_oNone, ap_oSome, ap_seq, ap_if, ap_sRet, ap_sRetF, ap_sRetN, ap_sRetO, ap_drop, ap_nxt, ap_asg, ap_own, ap_cell, ap_par, ap_par3, ap_raise0, ap_self, ap_for, ap_wV, ap_set, ap_gN, ap_gT, ap_gT', ap_gsNil, ap_gsCons, ap_blsK, b_add, b_sub, b_mul, b_fdiv, b_mod, b_addt, c_lt, c_le, c_gt, c_ge, ap_runF, fin_rt, fin_nx, fin_err, ap_runI, fni_nx, fni_rt, fni_err, finC, ap_arity, setS, isD, isDs, tyB, tyNames, fldD, fget, itemP, putD, eqD_int, eqD_bl, eqD_rat, mget, hasF, List.lookup, ap_try, ap_callN, hf', i0, i1, h, ty_err, tryH, x1, endH, setN, sz_le]
theorem td_mal (n : Nat) {f : Nat} {a b : D} (hf : fvs.contains f = true) (ce) (h : Ph n f [a, b] ce = .err ⟨52, []⟩ ce) : Ph (n + 1) 24 [.fn f, .tup [a, b]] ce = .ok (.v (.tup [.str (PySem.Str.ofString "malformed"), .non])) ce := by
  rw [e__law_db_told]
  unfold B__law_db_told
  have hf' : f ∈ fvs := by simpa using hf
  have i0 : L2.atI [a, b] 0 = some a := rfl
  have i1 : L2.atI [a, b] 1 = some b := rfl
  have x1 : XT 52 51 = some false := by rfl
  have x2 : XT 52 52 = some true := by rfl
  simp [cv_v, cv_f, cv_err, cl_f, cl_err, cm_v, cm_err, nt_b, nt_err, st_own, st_cell, ap_stF, it1_some, lcC_ok, lcB_f, lcB_t, lcB_b, lcA_some, ap_bnd, bd_ok, bd_err, bd_st, ad_t, ad_f, ad_err, ad_b, sq_nx, sq_rt, sq_err, sq_st, ap_ret, ap_some, ap_eC, ap_name, ap_nameB, ap_nil, ap_cons, ap_op, ap_oP, ap_oC, ap_oEq, ap_oEqF, ap_asB, ap_tOf, ap_bAnd, ap_bOr, ap_bNot, ap_ite, ap_eAnd, ap_eNot, ap_eIf, ap_chain, ap_isi, ap_isis, ap_fld, ap_ix, ap_tup, ap_fLst, ap_eL, ap_tupK, ap_tupK', ap_lenK, ap_lenK', ap_absK, ap_intK, ap_intK', ap_call, ap_callR, ap_fCall, ap_make, ap_callN, ap_meth, ap_opR, ap_opRi, ap_opRt, ap_opRl, ap_opRs, ap_neg, ap_negi, ap_negI, ap_oAddi, ap_oAddt, ap_oAdds, ap_oAddl, ap_oMuli, ap_sl, ap_oNone, ap_oSome, ap_seq, ap_if, ap_sRet, ap_sRetF, ap_sRetN, ap_sRetO, ap_drop, ap_nxt, ap_asg, ap_own, ap_cell, ap_par, ap_par3, ap_raise0, ap_self, ap_for, ap_wV, ap_set, ap_gN, ap_gT, ap_gT', ap_gsNil, ap_gsCons, ap_blsK, b_add, b_sub, b_mul, b_fdiv, b_mod, b_addt, c_lt, c_le, c_gt, c_ge, ap_runF, fin_rt, fin_nx, fin_err, ap_runI, fni_nx, fni_rt, fni_err, finC, ap_arity, setS, isD, isDs, tyB, tyNames, fldD, fget, itemP, putD, eqD_int, eqD_bl, eqD_rat, mget, hasF, List.lookup, ap_try, ap_callN, hf', i0, i1, h, ty_err, tryH, x1, x2, endH, setN, sz_le]
theorem td_text (n : Nat) {f : Nat} {a : D} (hf : fvs.contains f = true) (ce) (h : Ph n f [a] ce = .err ⟨53, [(2, .int 0)]⟩ ce) : Ph (n + 1) 24 [.fn f, .tup [a]] ce = .ok (.v (.tup [.str (PySem.Str.ofString "text"), .bl true])) ce := by
  rw [e__law_db_told]
  unfold B__law_db_told
  have hf' : f ∈ fvs := by simpa using hf
  have i0 : L2.atI [a] 0 = some a := rfl
  have x1 : XT 53 51 = some false := by rfl
  have x2 : XT 53 52 = some false := by rfl
  have x3 : XT 53 53 = some true := by rfl
  simp [cv_v, cv_f, cv_err, cl_f, cl_err, cm_v, cm_err, nt_b, nt_err, st_own, st_cell, ap_stF, it1_some, lcC_ok, lcB_f, lcB_t, lcB_b, lcA_some, ap_bnd, bd_ok, bd_err, bd_st, ad_t, ad_f, ad_err, ad_b, sq_nx, sq_rt, sq_err, sq_st, ap_ret, ap_some, ap_eC, ap_name, ap_nameB, ap_nil, ap_cons, ap_op, ap_oP, ap_oC, ap_oEq, ap_oEqF, ap_asB, ap_tOf, ap_bAnd, ap_bOr, ap_bNot, ap_ite, ap_eAnd, ap_eNot, ap_eIf, ap_chain, ap_isi, ap_isis, ap_fld, ap_ix, ap_tup, ap_fLst, ap_eL, ap_tupK, ap_tupK', ap_lenK, ap_lenK', ap_absK, ap_intK, ap_intK', ap_call, ap_callR, ap_fCall, ap_make, ap_callN, ap_meth, ap_opR, ap_opRi, ap_opRt, ap_opRl, ap_opRs, ap_neg, ap_negi, ap_negI, ap_oAddi, ap_oAddt, ap_oAdds, ap_oAddl, ap_oMuli, ap_sl, ap_oNone, ap_oSome, ap_seq, ap_if, ap_sRet, ap_sRetF, ap_sRetN, ap_sRetO, ap_drop, ap_nxt, ap_asg, ap_own, ap_cell, ap_par, ap_par3, ap_raise0, ap_self, ap_for, ap_wV, ap_set, ap_gN, ap_gT, ap_gT', ap_gsNil, ap_gsCons, ap_blsK, b_add, b_sub, b_mul, b_fdiv, b_mod, b_addt, c_lt, c_le, c_gt, c_ge, ap_runF, fin_rt, fin_nx, fin_err, ap_runI, fni_nx, fni_rt, fni_err, finC, ap_arity, setS, isD, isDs, tyB, tyNames, fldD, fget, itemP, putD, eqD_int, eqD_bl, eqD_rat, mget, hasF, List.lookup, ap_try, ap_callN, hf', i0, h, ty_err, tryH, x1, x2, x3, endH, setN, sz_le, fldW, fldX]
/-- text that is none -/
theorem x_read (n : Nat) {l : List Nat} (hl : l.length ≤ 12) (h : rdR l = none) (ce) : Ph (n + 4) 14 [.str (tx l)] ce = .err ⟨53, [(2, .int 0)]⟩ ce := by
  rw [v_read n hl, h]; rfl
theorem x_readN (n : Nat) (ce) : Ph (n + 1) 14 [.non] ce = .err ⟨53, [(2, .int 0)]⟩ ce := by
  rw [e_read_ratio]
  unfold B_read_ratio
  simp [cv_v, cv_f, cv_err, cl_f, cl_err, cm_v, cm_err, nt_b, nt_err, st_own, st_cell, ap_stF, it1_some, lcC_ok, lcB_f, lcB_t, lcB_b, lcA_some, ap_bnd, bd_ok, bd_err, bd_st, ad_t, ad_f, ad_err, ad_b, sq_nx, sq_rt, sq_err, sq_st, ap_ret, ap_some, ap_eC, ap_name, ap_nameB, ap_nil, ap_cons, ap_op, ap_oP, ap_oC, ap_oEq, ap_oEqF, ap_asB, ap_tOf, ap_bAnd, ap_bOr, ap_bNot, ap_ite, ap_eAnd, ap_eNot, ap_eIf, ap_chain, ap_isi, ap_isis, ap_fld, ap_ix, ap_tup, ap_fLst, ap_eL, ap_tupK, ap_tupK', ap_lenK, ap_lenK', ap_absK, ap_intK, ap_intK', ap_call, ap_callR, ap_fCall, ap_make, ap_callN, ap_meth, ap_opR, ap_opRi, ap_opRt, ap_opRl, ap_opRs, ap_neg, ap_negi, ap_negI, ap_oAddi, ap_oAddt, ap_oAdds, ap_oAddl, ap_oMuli, ap_sl, ap_oNone, ap_oSome, ap_seq, ap_if, ap_sRet, ap_sRetF, ap_sRetN, ap_sRetO, ap_drop, ap_nxt, ap_asg, ap_own, ap_cell, ap_par, ap_par3, ap_raise0, ap_self, ap_for, ap_wV, ap_set, ap_gN, ap_gT, ap_gT', ap_gsNil, ap_gsCons, ap_blsK, b_add, b_sub, b_mul, b_fdiv, b_mod, b_addt, c_lt, c_le, c_gt, c_ge, ap_runF, fin_rt, fin_nx, fin_err, ap_runI, fni_nx, fni_rt, fni_err, finC, ap_arity, setS, isD, isDs, tyB, tyNames, fldD, fget, itemP, putD, eqD_int, eqD_bl, eqD_rat, mget, hasF, List.lookup, ap_riI, ri_1]
theorem x_readI (n : Nat) (i : Int) (ce) : Ph (n + 1) 14 [.int i] ce = .err ⟨53, [(2, .int 0)]⟩ ce := by
  rw [e_read_ratio]
  unfold B_read_ratio
  simp [cv_v, cv_f, cv_err, cl_f, cl_err, cm_v, cm_err, nt_b, nt_err, st_own, st_cell, ap_stF, it1_some, lcC_ok, lcB_f, lcB_t, lcB_b, lcA_some, ap_bnd, bd_ok, bd_err, bd_st, ad_t, ad_f, ad_err, ad_b, sq_nx, sq_rt, sq_err, sq_st, ap_ret, ap_some, ap_eC, ap_name, ap_nameB, ap_nil, ap_cons, ap_op, ap_oP, ap_oC, ap_oEq, ap_oEqF, ap_asB, ap_tOf, ap_bAnd, ap_bOr, ap_bNot, ap_ite, ap_eAnd, ap_eNot, ap_eIf, ap_chain, ap_isi, ap_isis, ap_fld, ap_ix, ap_tup, ap_fLst, ap_eL, ap_tupK, ap_tupK', ap_lenK, ap_lenK', ap_absK, ap_intK, ap_intK', ap_call, ap_callR, ap_fCall, ap_make, ap_callN, ap_meth, ap_opR, ap_opRi, ap_opRt, ap_opRl, ap_opRs, ap_neg, ap_negi, ap_negI, ap_oAddi, ap_oAddt, ap_oAdds, ap_oAddl, ap_oMuli, ap_sl, ap_oNone, ap_oSome, ap_seq, ap_if, ap_sRet, ap_sRetF, ap_sRetN, ap_sRetO, ap_drop, ap_nxt, ap_asg, ap_own, ap_cell, ap_par, ap_par3, ap_raise0, ap_self, ap_for, ap_wV, ap_set, ap_gN, ap_gT, ap_gT', ap_gsNil, ap_gsCons, ap_blsK, b_add, b_sub, b_mul, b_fdiv, b_mod, b_addt, c_lt, c_le, c_gt, c_ge, ap_runF, fin_rt, fin_nx, fin_err, ap_runI, fni_nx, fni_rt, fni_err, finC, ap_arity, setS, isD, isDs, tyB, tyNames, fldD, fget, itemP, putD, eqD_int, eqD_bl, eqD_rat, mget, hasF, List.lookup, ap_riI, ri_1]
theorem x_readL (n : Nat) (z : PySem.Str) (h : 400 < z.length) (h2 : z.length ≤ 1000) (ce) : Ph (n + 1) 14 [.str z] ce = .err ⟨53, [(2, .int 0)]⟩ ce := by
  rw [e_read_ratio]
  unfold B_read_ratio
  have c : (400 : Int) < (z.length : Int) := by omega
  simp [cv_v, cv_f, cv_err, cl_f, cl_err, cm_v, cm_err, nt_b, nt_err, st_own, st_cell, ap_stF, it1_some, lcC_ok, lcB_f, lcB_t, lcB_b, lcA_some, ap_bnd, bd_ok, bd_err, bd_st, ad_t, ad_f, ad_err, ad_b, sq_nx, sq_rt, sq_err, sq_st, ap_ret, ap_some, ap_eC, ap_name, ap_nameB, ap_nil, ap_cons, ap_op, ap_oP, ap_oC, ap_oEq, ap_oEqF, ap_asB, ap_tOf, ap_bAnd, ap_bOr, ap_bNot, ap_ite, ap_eAnd, ap_eNot, ap_eIf, ap_chain, ap_isi, ap_isis, ap_fld, ap_ix, ap_tup, ap_fLst, ap_eL, ap_tupK, ap_tupK', ap_lenK, ap_lenK', ap_absK, ap_intK, ap_intK', ap_call, ap_callR, ap_fCall, ap_make, ap_callN, ap_meth, ap_opR, ap_opRi, ap_opRt, ap_opRl, ap_opRs, ap_neg, ap_negi, ap_negI, ap_oAddi, ap_oAddt, ap_oAdds, ap_oAddl, ap_oMuli, ap_sl, ap_oNone, ap_oSome, ap_seq, ap_if, ap_sRet, ap_sRetF, ap_sRetN, ap_sRetO, ap_drop, ap_nxt, ap_asg, ap_own, ap_cell, ap_par, ap_par3, ap_raise0, ap_self, ap_for, ap_wV, ap_set, ap_gN, ap_gT, ap_gT', ap_gsNil, ap_gsCons, ap_blsK, b_add, b_sub, b_mul, b_fdiv, b_mod, b_addt, c_lt, c_le, c_gt, c_ge, ap_runF, fin_rt, fin_nx, fin_err, ap_runI, fni_nx, fni_rt, fni_err, finC, ap_arity, setS, isD, isDs, tyB, tyNames, fldD, fget, itemP, putD, eqD_int, eqD_bl, eqD_rat, mget, hasF, List.lookup, ap_riI, ri_1, ln_s (show z.length ≤ 16777216 by omega), c]

end Lw

end
section
set_option Elab.async false
set_option linter.all false
set_option maxRecDepth 100000
set_option maxHeartbeats 0
set_option exponentiation.threshold 10000
namespace Lw
open TL Pl
theorem mulOk_r {i j : Int} (h : j.natAbs < 2 ^ 64) : mulOk i j = true := by
  unfold mulOk; rw [decide_eq_true h]; simp
theorem v_state (n : Nat) (ns : List Int) (ce) : ∃ a b : Int, Ph (n + 1) 15 [.scr ns] ce = .ok (.f [.int a, .int b]) ce := by
  obtain ⟨c', e, a, b, t3, rfl⟩ := for_map (k := gN 3) (b := (sSeq (sAsg (gN 1) (eOp (opR (Ph n) 4 oAdd) (eOp (opR (Ph n) 6 oMul) (eNameB 1) (eC (.int 1000003))) (M.bnd (eNameB 3) absK))) (sAsg (gN 2) (eOp (oP .mod) (M.bnd (eOp (opR (Ph n) 4 oAdd) (eOp (opR (Ph n) 6 oMul) (eNameB 2) (eC (.int 48271))) (eNameB 3)) intK) (eC (.int 2147483647)))))) (ns.take 63) D.int
    (fun (_ : Unit) cf => ∃ a b t3, cf = ⟨[.v (.scr ns), .v (.int a), .v (.int b), t3], ce⟩) (fun _ _ => ()) () (c := ⟨[.v (.scr ns), .v (.int 0), .v (.int 1), .no], ce⟩) ⟨0, 1, .no, rfl⟩ fun pre i post cf hp ⟨a, b, t3, hc⟩ => by
      subst hc
      have m1 : mulOk a 1000003 = true := mulOk_r (by decide)
      have m2 : mulOk b 48271 = true := mulOk_r (by decide)
      simp [cv_v, cv_f, cv_err, cl_f, cl_err, cm_v, cm_err, nt_b, nt_err, st_own, st_cell, ap_stF, it1_some, lcC_ok, lcB_f, lcB_t, lcB_b, lcA_some, ap_bnd, bd_ok, bd_err, bd_st, ad_t, ad_f, ad_err, ad_b, sq_nx, sq_rt, sq_err, sq_st, ap_ret, ap_some, ap_eC, ap_name, ap_nameB, ap_nil, ap_cons, ap_op, ap_oP, ap_oC, ap_oEq, ap_oEqF, ap_asB, ap_tOf, ap_bAnd, ap_bOr, ap_bNot, ap_ite, ap_eAnd, ap_eNot, ap_eIf, ap_chain, ap_isi, ap_isis, ap_fld, ap_ix, ap_tup, ap_fLst, ap_eL, ap_tupK, ap_tupK', ap_lenK, ap_lenK', ap_absK, ap_intK, ap_intK', ap_call, ap_callR, ap_fCall, ap_make, ap_callN, ap_meth, ap_opR, ap_opRi, ap_opRt, ap_opRl, ap_opRs, ap_neg, ap_negi, ap_negI, ap_oAddi, ap_oAddt, ap_oAdds, ap_oAddl, ap_oMuli, ap_sl, ap_oNone, ap_oSome, ap_seq, ap_if, ap_sRet, ap_sRetF, ap_sRetN, ap_sRetO, ap_drop, ap_nxt, ap_asg, ap_own, ap_cell, ap_par, ap_par3, ap_raise0, ap_self, ap_for, ap_wV, ap_set, ap_gN, ap_gT, ap_gT', ap_gsNil, ap_gsCons, ap_blsK, b_add, b_sub, b_mul, b_fdiv, b_mod, b_addt, c_lt, c_le, c_gt, c_ge, ap_runF, fin_rt, fin_nx, fin_err, ap_runI, fni_nx, fni_rt, fni_err, finC, ap_arity, setS, isD, isDs, tyB, tyNames, fldD, fget, itemP, putD, eqD_int, eqD_bl, eqD_rat, mget, hasF, List.lookup, it1, fs_nx, m1, m2]
  have ct : cutD (ns.map D.int) none (some 63) = (ns.map D.int).take 63 := cut_take _ 63
  rw [List.map_take] at e
  refine ⟨a, if b = 1973665155 then 7 else b, ?_⟩
  rw [e__law_state]
  unfold B__law_state
  by_cases hb : b = 1973665155
  · simp [cv_v, cv_f, cv_err, cl_f, cl_err, cm_v, cm_err, nt_b, nt_err, st_own, st_cell, ap_stF, it1_some, lcC_ok, lcB_f, lcB_t, lcB_b, lcA_some, ap_bnd, bd_ok, bd_err, bd_st, ad_t, ad_f, ad_err, ad_b, sq_nx, sq_rt, sq_err, sq_st, ap_ret, ap_some, ap_eC, ap_name, ap_nameB, ap_nil, ap_cons, ap_op, ap_oP, ap_oC, ap_oEq, ap_oEqF, ap_asB, ap_tOf, ap_bAnd, ap_bOr, ap_bNot, ap_ite, ap_eAnd, ap_eNot, ap_eIf, ap_chain, ap_isi, ap_isis, ap_fld, ap_ix, ap_tup, ap_fLst, ap_eL, ap_tupK, ap_tupK', ap_lenK, ap_lenK', ap_absK, ap_intK, ap_intK', ap_call, ap_callR, ap_fCall, ap_make, ap_callN, ap_meth, ap_opR, ap_opRi, ap_opRt, ap_opRl, ap_opRs, ap_neg, ap_negi, ap_negI, ap_oAddi, ap_oAddt, ap_oAdds, ap_oAddl, ap_oMuli, ap_sl, ap_oNone, ap_oSome, ap_seq, ap_if, ap_sRet, ap_sRetF, ap_sRetN, ap_sRetO, ap_drop, ap_nxt, ap_asg, ap_own, ap_cell, ap_par, ap_par3, ap_raise0, ap_self, ap_for, ap_wV, ap_set, ap_gN, ap_gT, ap_gT', ap_gsNil, ap_gsCons, ap_blsK, b_add, b_sub, b_mul, b_fdiv, b_mod, b_addt, c_lt, c_le, c_gt, c_ge, ap_runF, fin_rt, fin_nx, fin_err, ap_runI, fni_nx, fni_rt, fni_err, finC, ap_arity, setS, isD, isDs, tyB, tyNames, fldD, fget, itemP, putD, eqD_int, eqD_bl, eqD_rat, mget, hasF, List.lookup, slP, ct, wOf, e, hb, sz_le]
  · simp [cv_v, cv_f, cv_err, cl_f, cl_err, cm_v, cm_err, nt_b, nt_err, st_own, st_cell, ap_stF, it1_some, lcC_ok, lcB_f, lcB_t, lcB_b, lcA_some, ap_bnd, bd_ok, bd_err, bd_st, ad_t, ad_f, ad_err, ad_b, sq_nx, sq_rt, sq_err, sq_st, ap_ret, ap_some, ap_eC, ap_name, ap_nameB, ap_nil, ap_cons, ap_op, ap_oP, ap_oC, ap_oEq, ap_oEqF, ap_asB, ap_tOf, ap_bAnd, ap_bOr, ap_bNot, ap_ite, ap_eAnd, ap_eNot, ap_eIf, ap_chain, ap_isi, ap_isis, ap_fld, ap_ix, ap_tup, ap_fLst, ap_eL, ap_tupK, ap_tupK', ap_lenK, ap_lenK', ap_absK, ap_intK, ap_intK', ap_call, ap_callR, ap_fCall, ap_make, ap_callN, ap_meth, ap_opR, ap_opRi, ap_opRt, ap_opRl, ap_opRs, ap_neg, ap_negi, ap_negI, ap_oAddi, ap_oAddt, ap_oAdds, ap_oAddl, ap_oMuli, ap_sl, ap_oNone, ap_oSome, ap_seq, ap_if, ap_sRet, ap_sRetF, ap_sRetN, ap_sRetO, ap_drop, ap_nxt, ap_asg, ap_own, ap_cell, ap_par, ap_par3, ap_raise0, ap_self, ap_for, ap_wV, ap_set, ap_gN, ap_gT, ap_gT', ap_gsNil, ap_gsCons, ap_blsK, b_add, b_sub, b_mul, b_fdiv, b_mod, b_addt, c_lt, c_le, c_gt, c_ge, ap_runF, fin_rt, fin_nx, fin_err, ap_runI, fni_nx, fni_rt, fni_err, finC, ap_arity, setS, isD, isDs, tyB, tyNames, fldD, fget, itemP, putD, eqD_int, eqD_bl, eqD_rat, mget, hasF, List.lookup, slP, ct, wOf, e, hb, sz_le]
theorem divOk_s {m : Nat} (h0 : 0 < m) (hm : m ≤ 100000) : divOk (m : Int) = true := by
  unfold divOk
  rw [decide_eq_true (by omega), decide_eq_true]
  · rfl
  · rw [Int.natAbs_natCast]
    exact (Nat.log2_lt (by omega)).mpr (Nat.lt_of_le_of_lt hm (Nat.lt_of_lt_of_le (by decide : 100000 < 2 ^ 20) (Nat.pow_le_pow_right (by decide) (by decide))))
def Gs (ce : List (List D)) : Prop := ∃ a b : Int, ce = [[.int a, .int b]]
theorem v_take (n : Nat) {m : Nat} (h0 : 0 < m) (hm : m ≤ 100000) {ce} (g : Gs ce) : ∃ v ce', Ph (n + 1) 16 [.cell 0, .int (m : Int)] ce = .ok (.v (.int ((v : Nat) : Int))) ce' ∧ Gs ce' ∧ v < m := by
  obtain ⟨a, b, rfl⟩ := g
  have key : ∀ x : Int, ∃ v : Nat, x.fmod (m : Int) = (v : Int) ∧ v < m := fun x => by
    have h1 := Int.fmod_nonneg_of_pos x (show (0 : Int) < m by omega)
    have h2 := Int.fmod_lt_of_pos x (show (0 : Int) < m by omega)
    exact ⟨(x.fmod m).toNat, by omega, by omega⟩
  have hd := divOk_s h0 hm
  have m0 : m ≠ 0 := by omega
  by_cases ha : 0 < a
  · obtain ⟨v, hv, hv2⟩ := key a
    refine ⟨v, [[.int (a.fdiv m), .int b]], ?_, ⟨_, _, rfl⟩, hv2⟩
    rw [e__law_take]
    unfold B__law_take
    have ia : L2.atI [D.int a, D.int b] 0 = some (.int a) := rfl
    have ii : L2.ixN 2 0 = some 0 := rfl
    simp [cv_v, cv_f, cv_err, cl_f, cl_err, cm_v, cm_err, nt_b, nt_err, st_own, st_cell, ap_stF, it1_some, lcC_ok, lcB_f, lcB_t, lcB_b, lcA_some, ap_bnd, bd_ok, bd_err, bd_st, ad_t, ad_f, ad_err, ad_b, sq_nx, sq_rt, sq_err, sq_st, ap_ret, ap_some, ap_eC, ap_name, ap_nameB, ap_nil, ap_cons, ap_op, ap_oP, ap_oC, ap_oEq, ap_oEqF, ap_asB, ap_tOf, ap_bAnd, ap_bOr, ap_bNot, ap_ite, ap_eAnd, ap_eNot, ap_eIf, ap_chain, ap_isi, ap_isis, ap_fld, ap_ix, ap_tup, ap_fLst, ap_eL, ap_tupK, ap_tupK', ap_lenK, ap_lenK', ap_absK, ap_intK, ap_intK', ap_call, ap_callR, ap_fCall, ap_make, ap_callN, ap_meth, ap_opR, ap_opRi, ap_opRt, ap_opRl, ap_opRs, ap_neg, ap_negi, ap_negI, ap_oAddi, ap_oAddt, ap_oAdds, ap_oAddl, ap_oMuli, ap_sl, ap_oNone, ap_oSome, ap_seq, ap_if, ap_sRet, ap_sRetF, ap_sRetN, ap_sRetO, ap_drop, ap_nxt, ap_asg, ap_own, ap_cell, ap_par, ap_par3, ap_raise0, ap_self, ap_for, ap_wV, ap_set, ap_gN, ap_gT, ap_gT', ap_gsNil, ap_gsCons, ap_blsK, b_add, b_sub, b_mul, b_fdiv, b_mod, b_addt, c_lt, c_le, c_gt, c_ge, ap_runF, fin_rt, fin_nx, fin_err, ap_runI, fni_nx, fni_rt, fni_err, finC, ap_arity, setS, isD, isDs, tyB, tyNames, fldD, fget, itemP, putD, eqD_int, eqD_bl, eqD_rat, mget, hasF, List.lookup, ia, ii, ha, hv, hd, m0]
  · let b' := (b * 48271 + 11).fmod 2147483647
    obtain ⟨v, hv, hv2⟩ := key (b'.fdiv 7)
    refine ⟨v, [[.int a, .int b']], ?_, ⟨_, _, rfl⟩, hv2⟩
    rw [e__law_take]
    unfold B__law_take
    have ia : L2.atI [D.int a, D.int b] 0 = some (.int a) := rfl
    have ib : L2.atI [D.int a, D.int b] 1 = some (.int b) := rfl
    have ib' : L2.atI [D.int a, D.int b'] 1 = some (.int b') := rfl
    have ii : L2.ixN 2 1 = some 1 := rfl
    have m2 : mulOk b 48271 = true := mulOk_r (by decide)
    have d7 : divOk 7 = true := by decide
    have eb : (b * 48271 + 11).fmod 2147483647 = b' := rfl
    generalize b' = B at *
    simp [cv_v, cv_f, cv_err, cl_f, cl_err, cm_v, cm_err, nt_b, nt_err, st_own, st_cell, ap_stF, it1_some, lcC_ok, lcB_f, lcB_t, lcB_b, lcA_some, ap_bnd, bd_ok, bd_err, bd_st, ad_t, ad_f, ad_err, ad_b, sq_nx, sq_rt, sq_err, sq_st, ap_ret, ap_some, ap_eC, ap_name, ap_nameB, ap_nil, ap_cons, ap_op, ap_oP, ap_oC, ap_oEq, ap_oEqF, ap_asB, ap_tOf, ap_bAnd, ap_bOr, ap_bNot, ap_ite, ap_eAnd, ap_eNot, ap_eIf, ap_chain, ap_isi, ap_isis, ap_fld, ap_ix, ap_tup, ap_fLst, ap_eL, ap_tupK, ap_tupK', ap_lenK, ap_lenK', ap_absK, ap_intK, ap_intK', ap_call, ap_callR, ap_fCall, ap_make, ap_callN, ap_meth, ap_opR, ap_opRi, ap_opRt, ap_opRl, ap_opRs, ap_neg, ap_negi, ap_negI, ap_oAddi, ap_oAddt, ap_oAdds, ap_oAddl, ap_oMuli, ap_sl, ap_oNone, ap_oSome, ap_seq, ap_if, ap_sRet, ap_sRetF, ap_sRetN, ap_sRetO, ap_drop, ap_nxt, ap_asg, ap_own, ap_cell, ap_par, ap_par3, ap_raise0, ap_self, ap_for, ap_wV, ap_set, ap_gN, ap_gT, ap_gT', ap_gsNil, ap_gsCons, ap_blsK, b_add, b_sub, b_mul, b_fdiv, b_mod, b_addt, c_lt, c_le, c_gt, c_ge, ap_runF, fin_rt, fin_nx, fin_err, ap_runI, fni_nx, fni_rt, fni_err, finC, ap_arity, setS, isD, isDs, tyB, tyNames, fldD, fget, itemP, putD, eqD_int, eqD_bl, eqD_rat, mget, hasF, List.lookup, ia, ib, ib', ii, ha, m2, d7, eb, hv, m0]

theorem v_says2 (n : Nat) (x y : Bool) (ce) : Ph (n + 1) 17 [.bl x, .bl y] ce = .ok (.v (.bl (x == y))) ce := by
  rw [e__law_says]
  unfold B__law_says
  cases x <;> cases y <;> simp [cv_v, cv_f, cv_err, cl_f, cl_err, cm_v, cm_err, nt_b, nt_err, st_own, st_cell, ap_stF, it1_some, lcC_ok, lcB_f, lcB_t, lcB_b, lcA_some, ap_bnd, bd_ok, bd_err, bd_st, ad_t, ad_f, ad_err, ad_b, sq_nx, sq_rt, sq_err, sq_st, ap_ret, ap_some, ap_eC, ap_name, ap_nameB, ap_nil, ap_cons, ap_op, ap_oP, ap_oC, ap_oEq, ap_oEqF, ap_asB, ap_tOf, ap_bAnd, ap_bOr, ap_bNot, ap_ite, ap_eAnd, ap_eNot, ap_eIf, ap_chain, ap_isi, ap_isis, ap_fld, ap_ix, ap_tup, ap_fLst, ap_eL, ap_tupK, ap_tupK', ap_lenK, ap_lenK', ap_absK, ap_intK, ap_intK', ap_call, ap_callR, ap_fCall, ap_make, ap_callN, ap_meth, ap_opR, ap_opRi, ap_opRt, ap_opRl, ap_opRs, ap_neg, ap_negi, ap_negI, ap_oAddi, ap_oAddt, ap_oAdds, ap_oAddl, ap_oMuli, ap_sl, ap_oNone, ap_oSome, ap_seq, ap_if, ap_sRet, ap_sRetF, ap_sRetN, ap_sRetO, ap_drop, ap_nxt, ap_asg, ap_own, ap_cell, ap_par, ap_par3, ap_raise0, ap_self, ap_for, ap_wV, ap_set, ap_gN, ap_gT, ap_gT', ap_gsNil, ap_gsCons, ap_blsK, b_add, b_sub, b_mul, b_fdiv, b_mod, b_addt, c_lt, c_le, c_gt, c_ge, ap_runF, fin_rt, fin_nx, fin_err, ap_runI, fni_nx, fni_rt, fni_err, finC, ap_arity, setS, isD, isDs, tyB, tyNames, fldD, fget, itemP, putD, eqD_int, eqD_bl, eqD_rat, mget, hasF, List.lookup]
theorem v_same_int (n : Nat) (i j : Int) (ce) : Ph (n + 2) 19 [.int i, .int j] ce = .ok (.v (.bl (decide (i = j)))) ce := by
  rw [e__law_same]
  unfold B__law_same
  have w : Ph (n + 1) 18 [.int i] ce = .ok (.v (.bl true)) ce := by
    rw [e__law_is_whole]
    unfold B__law_is_whole
    simp [cv_v, cv_f, cv_err, cl_f, cl_err, cm_v, cm_err, nt_b, nt_err, st_own, st_cell, ap_stF, it1_some, lcC_ok, lcB_f, lcB_t, lcB_b, lcA_some, ap_bnd, bd_ok, bd_err, bd_st, ad_t, ad_f, ad_err, ad_b, sq_nx, sq_rt, sq_err, sq_st, ap_ret, ap_some, ap_eC, ap_name, ap_nameB, ap_nil, ap_cons, ap_op, ap_oP, ap_oC, ap_oEq, ap_oEqF, ap_asB, ap_tOf, ap_bAnd, ap_bOr, ap_bNot, ap_ite, ap_eAnd, ap_eNot, ap_eIf, ap_chain, ap_isi, ap_isis, ap_fld, ap_ix, ap_tup, ap_fLst, ap_eL, ap_tupK, ap_tupK', ap_lenK, ap_lenK', ap_absK, ap_intK, ap_intK', ap_call, ap_callR, ap_fCall, ap_make, ap_callN, ap_meth, ap_opR, ap_opRi, ap_opRt, ap_opRl, ap_opRs, ap_neg, ap_negi, ap_negI, ap_oAddi, ap_oAddt, ap_oAdds, ap_oAddl, ap_oMuli, ap_sl, ap_oNone, ap_oSome, ap_seq, ap_if, ap_sRet, ap_sRetF, ap_sRetN, ap_sRetO, ap_drop, ap_nxt, ap_asg, ap_own, ap_cell, ap_par, ap_par3, ap_raise0, ap_self, ap_for, ap_wV, ap_set, ap_gN, ap_gT, ap_gT', ap_gsNil, ap_gsCons, ap_blsK, b_add, b_sub, b_mul, b_fdiv, b_mod, b_addt, c_lt, c_le, c_gt, c_ge, ap_runF, fin_rt, fin_nx, fin_err, ap_runI, fni_nx, fni_rt, fni_err, finC, ap_arity, setS, isD, isDs, tyB, tyNames, fldD, fget, itemP, putD, eqD_int, eqD_bl, eqD_rat, mget, hasF, List.lookup]
  simp [cv_v, cv_f, cv_err, cl_f, cl_err, cm_v, cm_err, nt_b, nt_err, st_own, st_cell, ap_stF, it1_some, lcC_ok, lcB_f, lcB_t, lcB_b, lcA_some, ap_bnd, bd_ok, bd_err, bd_st, ad_t, ad_f, ad_err, ad_b, sq_nx, sq_rt, sq_err, sq_st, ap_ret, ap_some, ap_eC, ap_name, ap_nameB, ap_nil, ap_cons, ap_op, ap_oP, ap_oC, ap_oEq, ap_oEqF, ap_asB, ap_tOf, ap_bAnd, ap_bOr, ap_bNot, ap_ite, ap_eAnd, ap_eNot, ap_eIf, ap_chain, ap_isi, ap_isis, ap_fld, ap_ix, ap_tup, ap_fLst, ap_eL, ap_tupK, ap_tupK', ap_lenK, ap_lenK', ap_absK, ap_intK, ap_intK', ap_call, ap_callR, ap_fCall, ap_make, ap_callN, ap_meth, ap_opR, ap_opRi, ap_opRt, ap_opRl, ap_opRs, ap_neg, ap_negi, ap_negI, ap_oAddi, ap_oAddt, ap_oAdds, ap_oAddl, ap_oMuli, ap_sl, ap_oNone, ap_oSome, ap_seq, ap_if, ap_sRet, ap_sRetF, ap_sRetN, ap_sRetO, ap_drop, ap_nxt, ap_asg, ap_own, ap_cell, ap_par, ap_par3, ap_raise0, ap_self, ap_for, ap_wV, ap_set, ap_gN, ap_gT, ap_gT', ap_gsNil, ap_gsCons, ap_blsK, b_add, b_sub, b_mul, b_fdiv, b_mod, b_addt, c_lt, c_le, c_gt, c_ge, ap_runF, fin_rt, fin_nx, fin_err, ap_runI, fni_nx, fni_rt, fni_err, finC, ap_arity, setS, isD, isDs, tyB, tyNames, fldD, fget, itemP, putD, eqD_int, eqD_bl, eqD_rat, mget, hasF, List.lookup, w, oIs, nonD]
theorem v_whole (n : Nat) (q : Rat) (ce) : Ph (n + 1) 12 [.rat q] ce = .ok (.v (.bl (decide (q.den = 1)))) ce := by
  rw [e_Ratio_is_whole]
  unfold B_Ratio_is_whole
  by_cases h : q.den = 1
  · simp [cv_v, cv_f, cv_err, cl_f, cl_err, cm_v, cm_err, nt_b, nt_err, st_own, st_cell, ap_stF, it1_some, lcC_ok, lcB_f, lcB_t, lcB_b, lcA_some, ap_bnd, bd_ok, bd_err, bd_st, ad_t, ad_f, ad_err, ad_b, sq_nx, sq_rt, sq_err, sq_st, ap_ret, ap_some, ap_eC, ap_name, ap_nameB, ap_nil, ap_cons, ap_op, ap_oP, ap_oC, ap_oEq, ap_oEqF, ap_asB, ap_tOf, ap_bAnd, ap_bOr, ap_bNot, ap_ite, ap_eAnd, ap_eNot, ap_eIf, ap_chain, ap_isi, ap_isis, ap_fld, ap_ix, ap_tup, ap_fLst, ap_eL, ap_tupK, ap_tupK', ap_lenK, ap_lenK', ap_absK, ap_intK, ap_intK', ap_call, ap_callR, ap_fCall, ap_make, ap_callN, ap_meth, ap_opR, ap_opRi, ap_opRt, ap_opRl, ap_opRs, ap_neg, ap_negi, ap_negI, ap_oAddi, ap_oAddt, ap_oAdds, ap_oAddl, ap_oMuli, ap_sl, ap_oNone, ap_oSome, ap_seq, ap_if, ap_sRet, ap_sRetF, ap_sRetN, ap_sRetO, ap_drop, ap_nxt, ap_asg, ap_own, ap_cell, ap_par, ap_par3, ap_raise0, ap_self, ap_for, ap_wV, ap_set, ap_gN, ap_gT, ap_gT', ap_gsNil, ap_gsCons, ap_blsK, b_add, b_sub, b_mul, b_fdiv, b_mod, b_addt, c_lt, c_le, c_gt, c_ge, ap_runF, fin_rt, fin_nx, fin_err, ap_runI, fni_nx, fni_rt, fni_err, finC, ap_arity, setS, isD, isDs, tyB, tyNames, fldD, fget, itemP, putD, eqD_int, eqD_bl, eqD_rat, mget, hasF, List.lookup, h]
  · have h' : ¬ ((q.den : Int) = 1) := by omega
    simp [cv_v, cv_f, cv_err, cl_f, cl_err, cm_v, cm_err, nt_b, nt_err, st_own, st_cell, ap_stF, it1_some, lcC_ok, lcB_f, lcB_t, lcB_b, lcA_some, ap_bnd, bd_ok, bd_err, bd_st, ad_t, ad_f, ad_err, ad_b, sq_nx, sq_rt, sq_err, sq_st, ap_ret, ap_some, ap_eC, ap_name, ap_nameB, ap_nil, ap_cons, ap_op, ap_oP, ap_oC, ap_oEq, ap_oEqF, ap_asB, ap_tOf, ap_bAnd, ap_bOr, ap_bNot, ap_ite, ap_eAnd, ap_eNot, ap_eIf, ap_chain, ap_isi, ap_isis, ap_fld, ap_ix, ap_tup, ap_fLst, ap_eL, ap_tupK, ap_tupK', ap_lenK, ap_lenK', ap_absK, ap_intK, ap_intK', ap_call, ap_callR, ap_fCall, ap_make, ap_callN, ap_meth, ap_opR, ap_opRi, ap_opRt, ap_opRl, ap_opRs, ap_neg, ap_negi, ap_negI, ap_oAddi, ap_oAddt, ap_oAdds, ap_oAddl, ap_oMuli, ap_sl, ap_oNone, ap_oSome, ap_seq, ap_if, ap_sRet, ap_sRetF, ap_sRetN, ap_sRetO, ap_drop, ap_nxt, ap_asg, ap_own, ap_cell, ap_par, ap_par3, ap_raise0, ap_self, ap_for, ap_wV, ap_set, ap_gN, ap_gT, ap_gT', ap_gsNil, ap_gsCons, ap_blsK, b_add, b_sub, b_mul, b_fdiv, b_mod, b_addt, c_lt, c_le, c_gt, c_ge, ap_runF, fin_rt, fin_nx, fin_err, ap_runI, fni_nx, fni_rt, fni_err, finC, ap_arity, setS, isD, isDs, tyB, tyNames, fldD, fget, itemP, putD, eqD_int, eqD_bl, eqD_rat, mget, hasF, List.lookup, h, h']
theorem v_over (n : Nat) {p q : Rat} (hp : Sm p) (hq : Sm q) (h0 : q.num ≠ 0) (ce) : Ph (n + 3) 10 [.rat p, .rat q] ce = .ok (.v (.rat (Rat.divInt (p.num * q.den) (p.den * q.num)))) ce := by
  rw [e_Ratio_over]
  unfold B_Ratio_over
  have hb : ((p.den : Int) * q.num).natAbs < 2 ^ 8100 := by
    rw [Int.natAbs_mul, Int.natAbs_natCast]
    have h1 : p.den * q.num.natAbs < 2 ^ 4000 * 2 ^ 4000 := Nat.mul_lt_mul_of_lt_of_lt hp.2 hq.1
    rw [← Nat.pow_add] at h1
    exact Nat.lt_trans h1 (Nat.pow_lt_pow_right (by decide) (by decide))
  have m := v_make n (p.num * q.den) (p.den * q.num) (Int.mul_ne_zero (by have := p.den_nz; omega) h0) hb ce
  simp [cv_v, cv_f, cv_err, cl_f, cl_err, cm_v, cm_err, nt_b, nt_err, st_own, st_cell, ap_stF, it1_some, lcC_ok, lcB_f, lcB_t, lcB_b, lcA_some, ap_bnd, bd_ok, bd_err, bd_st, ad_t, ad_f, ad_err, ad_b, sq_nx, sq_rt, sq_err, sq_st, ap_ret, ap_some, ap_eC, ap_name, ap_nameB, ap_nil, ap_cons, ap_op, ap_oP, ap_oC, ap_oEq, ap_oEqF, ap_asB, ap_tOf, ap_bAnd, ap_bOr, ap_bNot, ap_ite, ap_eAnd, ap_eNot, ap_eIf, ap_chain, ap_isi, ap_isis, ap_fld, ap_ix, ap_tup, ap_fLst, ap_eL, ap_tupK, ap_tupK', ap_lenK, ap_lenK', ap_absK, ap_intK, ap_intK', ap_call, ap_callR, ap_fCall, ap_make, ap_callN, ap_meth, ap_opR, ap_opRi, ap_opRt, ap_opRl, ap_opRs, ap_neg, ap_negi, ap_negI, ap_oAddi, ap_oAddt, ap_oAdds, ap_oAddl, ap_oMuli, ap_sl, ap_oNone, ap_oSome, ap_seq, ap_if, ap_sRet, ap_sRetF, ap_sRetN, ap_sRetO, ap_drop, ap_nxt, ap_asg, ap_own, ap_cell, ap_par, ap_par3, ap_raise0, ap_self, ap_for, ap_wV, ap_set, ap_gN, ap_gT, ap_gT', ap_gsNil, ap_gsCons, ap_blsK, b_add, b_sub, b_mul, b_fdiv, b_mod, b_addt, c_lt, c_le, c_gt, c_ge, ap_runF, fin_rt, fin_nx, fin_err, ap_runI, fni_nx, fni_rt, fni_err, finC, ap_arity, setS, isD, isDs, tyB, tyNames, fldD, fget, itemP, putD, eqD_int, eqD_bl, eqD_rat, mget, hasF, List.lookup, v_check_ratio, mulOk_of hp.n hq.d, mulOk_of hp.d hq.n, m]
theorem x_make0 (n : Nat) (a : Int) (ce) : Ph (n + 2) 3 [.int a, .int 0] ce = .err ⟨51, []⟩ ce := by
  rw [e_Ratio___init__]
  unfold B_Ratio___init__
  simp [cv_v, cv_f, cv_err, cl_f, cl_err, cm_v, cm_err, nt_b, nt_err, st_own, st_cell, ap_stF, it1_some, lcC_ok, lcB_f, lcB_t, lcB_b, lcA_some, ap_bnd, bd_ok, bd_err, bd_st, ad_t, ad_f, ad_err, ad_b, sq_nx, sq_rt, sq_err, sq_st, ap_ret, ap_some, ap_eC, ap_name, ap_nameB, ap_nil, ap_cons, ap_op, ap_oP, ap_oC, ap_oEq, ap_oEqF, ap_asB, ap_tOf, ap_bAnd, ap_bOr, ap_bNot, ap_ite, ap_eAnd, ap_eNot, ap_eIf, ap_chain, ap_isi, ap_isis, ap_fld, ap_ix, ap_tup, ap_fLst, ap_eL, ap_tupK, ap_tupK', ap_lenK, ap_lenK', ap_absK, ap_intK, ap_intK', ap_call, ap_callR, ap_fCall, ap_make, ap_callN, ap_meth, ap_opR, ap_opRi, ap_opRt, ap_opRl, ap_opRs, ap_neg, ap_negi, ap_negI, ap_oAddi, ap_oAddt, ap_oAdds, ap_oAddl, ap_oMuli, ap_sl, ap_oNone, ap_oSome, ap_seq, ap_if, ap_sRet, ap_sRetF, ap_sRetN, ap_sRetO, ap_drop, ap_nxt, ap_asg, ap_own, ap_cell, ap_par, ap_par3, ap_raise0, ap_self, ap_for, ap_wV, ap_set, ap_gN, ap_gT, ap_gT', ap_gsNil, ap_gsCons, ap_blsK, b_add, b_sub, b_mul, b_fdiv, b_mod, b_addt, c_lt, c_le, c_gt, c_ge, ap_runF, fin_rt, fin_nx, fin_err, ap_runI, fni_nx, fni_rt, fni_err, finC, ap_arity, setS, isD, isDs, tyB, tyNames, fldD, fget, itemP, putD, eqD_int, eqD_bl, eqD_rat, mget, hasF, List.lookup, v_isInt]
theorem x_over0 (n : Nat) {p q : Rat} (hp : Sm p) (hq : Sm q) (h0 : q.num = 0) (ce) : Ph (n + 3) 10 [.rat p, .rat q] ce = .err ⟨51, []⟩ ce := by
  rw [e_Ratio_over]
  unfold B_Ratio_over
  have m := x_make0 n (p.num * q.den) ce
  have hz : mulOk (p.den : Int) 0 = true := mulOk_r (by decide)
  simp [cv_v, cv_f, cv_err, cl_f, cl_err, cm_v, cm_err, nt_b, nt_err, st_own, st_cell, ap_stF, it1_some, lcC_ok, lcB_f, lcB_t, lcB_b, lcA_some, ap_bnd, bd_ok, bd_err, bd_st, ad_t, ad_f, ad_err, ad_b, sq_nx, sq_rt, sq_err, sq_st, ap_ret, ap_some, ap_eC, ap_name, ap_nameB, ap_nil, ap_cons, ap_op, ap_oP, ap_oC, ap_oEq, ap_oEqF, ap_asB, ap_tOf, ap_bAnd, ap_bOr, ap_bNot, ap_ite, ap_eAnd, ap_eNot, ap_eIf, ap_chain, ap_isi, ap_isis, ap_fld, ap_ix, ap_tup, ap_fLst, ap_eL, ap_tupK, ap_tupK', ap_lenK, ap_lenK', ap_absK, ap_intK, ap_intK', ap_call, ap_callR, ap_fCall, ap_make, ap_callN, ap_meth, ap_opR, ap_opRi, ap_opRt, ap_opRl, ap_opRs, ap_neg, ap_negi, ap_negI, ap_oAddi, ap_oAddt, ap_oAdds, ap_oAddl, ap_oMuli, ap_sl, ap_oNone, ap_oSome, ap_seq, ap_if, ap_sRet, ap_sRetF, ap_sRetN, ap_sRetO, ap_drop, ap_nxt, ap_asg, ap_own, ap_cell, ap_par, ap_par3, ap_raise0, ap_self, ap_for, ap_wV, ap_set, ap_gN, ap_gT, ap_gT', ap_gsNil, ap_gsCons, ap_blsK, b_add, b_sub, b_mul, b_fdiv, b_mod, b_addt, c_lt, c_le, c_gt, c_ge, ap_runF, fin_rt, fin_nx, fin_err, ap_runI, fni_nx, fni_rt, fni_err, finC, ap_arity, setS, isD, isDs, tyB, tyNames, fldD, fget, itemP, putD, eqD_int, eqD_bl, eqD_rat, mget, hasF, List.lookup, v_check_ratio, mulOk_of hp.n hq.d, h0, hz, m]
def NotI (d : D) : Prop := (∃ z, d = .str z) ∨ d = .non ∨ (∃ b, d = .bl b) ∨ ∃ xs, d = .tup xs
theorem x_isInt (n : Nat) {d : D} (h : NotI d) (ce) : Ph (n + 1) 1 [d] ce = .ok (.v (.bl false)) ce := by
  rw [e_is_integer]
  unfold B_is_integer
  rcases h with ⟨z, rfl⟩ | rfl | ⟨b, rfl⟩ | ⟨xs, rfl⟩
  · simp [cv_v, cv_f, cv_err, cl_f, cl_err, cm_v, cm_err, nt_b, nt_err, st_own, st_cell, ap_stF, it1_some, lcC_ok, lcB_f, lcB_t, lcB_b, lcA_some, ap_bnd, bd_ok, bd_err, bd_st, ad_t, ad_f, ad_err, ad_b, sq_nx, sq_rt, sq_err, sq_st, ap_ret, ap_some, ap_eC, ap_name, ap_nameB, ap_nil, ap_cons, ap_op, ap_oP, ap_oC, ap_oEq, ap_oEqF, ap_asB, ap_tOf, ap_bAnd, ap_bOr, ap_bNot, ap_ite, ap_eAnd, ap_eNot, ap_eIf, ap_chain, ap_isi, ap_isis, ap_fld, ap_ix, ap_tup, ap_fLst, ap_eL, ap_tupK, ap_tupK', ap_lenK, ap_lenK', ap_absK, ap_intK, ap_intK', ap_call, ap_callR, ap_fCall, ap_make, ap_callN, ap_meth, ap_opR, ap_opRi, ap_opRt, ap_opRl, ap_opRs, ap_neg, ap_negi, ap_negI, ap_oAddi, ap_oAddt, ap_oAdds, ap_oAddl, ap_oMuli, ap_sl, ap_oNone, ap_oSome, ap_seq, ap_if, ap_sRet, ap_sRetF, ap_sRetN, ap_sRetO, ap_drop, ap_nxt, ap_asg, ap_own, ap_cell, ap_par, ap_par3, ap_raise0, ap_self, ap_for, ap_wV, ap_set, ap_gN, ap_gT, ap_gT', ap_gsNil, ap_gsCons, ap_blsK, b_add, b_sub, b_mul, b_fdiv, b_mod, b_addt, c_lt, c_le, c_gt, c_ge, ap_runF, fin_rt, fin_nx, fin_err, ap_runI, fni_nx, fni_rt, fni_err, finC, ap_arity, setS, isD, isDs, tyB, tyNames, fldD, fget, itemP, putD, eqD_int, eqD_bl, eqD_rat, mget, hasF, List.lookup]
  · simp [cv_v, cv_f, cv_err, cl_f, cl_err, cm_v, cm_err, nt_b, nt_err, st_own, st_cell, ap_stF, it1_some, lcC_ok, lcB_f, lcB_t, lcB_b, lcA_some, ap_bnd, bd_ok, bd_err, bd_st, ad_t, ad_f, ad_err, ad_b, sq_nx, sq_rt, sq_err, sq_st, ap_ret, ap_some, ap_eC, ap_name, ap_nameB, ap_nil, ap_cons, ap_op, ap_oP, ap_oC, ap_oEq, ap_oEqF, ap_asB, ap_tOf, ap_bAnd, ap_bOr, ap_bNot, ap_ite, ap_eAnd, ap_eNot, ap_eIf, ap_chain, ap_isi, ap_isis, ap_fld, ap_ix, ap_tup, ap_fLst, ap_eL, ap_tupK, ap_tupK', ap_lenK, ap_lenK', ap_absK, ap_intK, ap_intK', ap_call, ap_callR, ap_fCall, ap_make, ap_callN, ap_meth, ap_opR, ap_opRi, ap_opRt, ap_opRl, ap_opRs, ap_neg, ap_negi, ap_negI, ap_oAddi, ap_oAddt, ap_oAdds, ap_oAddl, ap_oMuli, ap_sl, ap_oNone, ap_oSome, ap_seq, ap_if, ap_sRet, ap_sRetF, ap_sRetN, ap_sRetO, ap_drop, ap_nxt, ap_asg, ap_own, ap_cell, ap_par, ap_par3, ap_raise0, ap_self, ap_for, ap_wV, ap_set, ap_gN, ap_gT, ap_gT', ap_gsNil, ap_gsCons, ap_blsK, b_add, b_sub, b_mul, b_fdiv, b_mod, b_addt, c_lt, c_le, c_gt, c_ge, ap_runF, fin_rt, fin_nx, fin_err, ap_runI, fni_nx, fni_rt, fni_err, finC, ap_arity, setS, isD, isDs, tyB, tyNames, fldD, fget, itemP, putD, eqD_int, eqD_bl, eqD_rat, mget, hasF, List.lookup]
  · simp [cv_v, cv_f, cv_err, cl_f, cl_err, cm_v, cm_err, nt_b, nt_err, st_own, st_cell, ap_stF, it1_some, lcC_ok, lcB_f, lcB_t, lcB_b, lcA_some, ap_bnd, bd_ok, bd_err, bd_st, ad_t, ad_f, ad_err, ad_b, sq_nx, sq_rt, sq_err, sq_st, ap_ret, ap_some, ap_eC, ap_name, ap_nameB, ap_nil, ap_cons, ap_op, ap_oP, ap_oC, ap_oEq, ap_oEqF, ap_asB, ap_tOf, ap_bAnd, ap_bOr, ap_bNot, ap_ite, ap_eAnd, ap_eNot, ap_eIf, ap_chain, ap_isi, ap_isis, ap_fld, ap_ix, ap_tup, ap_fLst, ap_eL, ap_tupK, ap_tupK', ap_lenK, ap_lenK', ap_absK, ap_intK, ap_intK', ap_call, ap_callR, ap_fCall, ap_make, ap_callN, ap_meth, ap_opR, ap_opRi, ap_opRt, ap_opRl, ap_opRs, ap_neg, ap_negi, ap_negI, ap_oAddi, ap_oAddt, ap_oAdds, ap_oAddl, ap_oMuli, ap_sl, ap_oNone, ap_oSome, ap_seq, ap_if, ap_sRet, ap_sRetF, ap_sRetN, ap_sRetO, ap_drop, ap_nxt, ap_asg, ap_own, ap_cell, ap_par, ap_par3, ap_raise0, ap_self, ap_for, ap_wV, ap_set, ap_gN, ap_gT, ap_gT', ap_gsNil, ap_gsCons, ap_blsK, b_add, b_sub, b_mul, b_fdiv, b_mod, b_addt, c_lt, c_le, c_gt, c_ge, ap_runF, fin_rt, fin_nx, fin_err, ap_runI, fni_nx, fni_rt, fni_err, finC, ap_arity, setS, isD, isDs, tyB, tyNames, fldD, fget, itemP, putD, eqD_int, eqD_bl, eqD_rat, mget, hasF, List.lookup]
  · simp [cv_v, cv_f, cv_err, cl_f, cl_err, cm_v, cm_err, nt_b, nt_err, st_own, st_cell, ap_stF, it1_some, lcC_ok, lcB_f, lcB_t, lcB_b, lcA_some, ap_bnd, bd_ok, bd_err, bd_st, ad_t, ad_f, ad_err, ad_b, sq_nx, sq_rt, sq_err, sq_st, ap_ret, ap_some, ap_eC, ap_name, ap_nameB, ap_nil, ap_cons, ap_op, ap_oP, ap_oC, ap_oEq, ap_oEqF, ap_asB, ap_tOf, ap_bAnd, ap_bOr, ap_bNot, ap_ite, ap_eAnd, ap_eNot, ap_eIf, ap_chain, ap_isi, ap_isis, ap_fld, ap_ix, ap_tup, ap_fLst, ap_eL, ap_tupK, ap_tupK', ap_lenK, ap_lenK', ap_absK, ap_intK, ap_intK', ap_call, ap_callR, ap_fCall, ap_make, ap_callN, ap_meth, ap_opR, ap_opRi, ap_opRt, ap_opRl, ap_opRs, ap_neg, ap_negi, ap_negI, ap_oAddi, ap_oAddt, ap_oAdds, ap_oAddl, ap_oMuli, ap_sl, ap_oNone, ap_oSome, ap_seq, ap_if, ap_sRet, ap_sRetF, ap_sRetN, ap_sRetO, ap_drop, ap_nxt, ap_asg, ap_own, ap_cell, ap_par, ap_par3, ap_raise0, ap_self, ap_for, ap_wV, ap_set, ap_gN, ap_gT, ap_gT', ap_gsNil, ap_gsCons, ap_blsK, b_add, b_sub, b_mul, b_fdiv, b_mod, b_addt, c_lt, c_le, c_gt, c_ge, ap_runF, fin_rt, fin_nx, fin_err, ap_runI, fni_nx, fni_rt, fni_err, finC, ap_arity, setS, isD, isDs, tyB, tyNames, fldD, fget, itemP, putD, eqD_int, eqD_bl, eqD_rat, mget, hasF, List.lookup]
theorem x_make1 (n : Nat) {d : D} (h : NotI d) (e : D) (ce) : Ph (n + 2) 3 [d, e] ce = .err ⟨52, []⟩ ce := by
  rw [e_Ratio___init__]
  unfold B_Ratio___init__
  have x := x_isInt n h ce
  simp [cv_v, cv_f, cv_err, cl_f, cl_err, cm_v, cm_err, nt_b, nt_err, st_own, st_cell, ap_stF, it1_some, lcC_ok, lcB_f, lcB_t, lcB_b, lcA_some, ap_bnd, bd_ok, bd_err, bd_st, ad_t, ad_f, ad_err, ad_b, sq_nx, sq_rt, sq_err, sq_st, ap_ret, ap_some, ap_eC, ap_name, ap_nameB, ap_nil, ap_cons, ap_op, ap_oP, ap_oC, ap_oEq, ap_oEqF, ap_asB, ap_tOf, ap_bAnd, ap_bOr, ap_bNot, ap_ite, ap_eAnd, ap_eNot, ap_eIf, ap_chain, ap_isi, ap_isis, ap_fld, ap_ix, ap_tup, ap_fLst, ap_eL, ap_tupK, ap_tupK', ap_lenK, ap_lenK', ap_absK, ap_intK, ap_intK', ap_call, ap_callR, ap_fCall, ap_make, ap_callN, ap_meth, ap_opR, ap_opRi, ap_opRt, ap_opRl, ap_opRs, ap_neg, ap_negi, ap_negI, ap_oAddi, ap_oAddt, ap_oAdds, ap_oAddl, ap_oMuli, ap_sl, ap_oNone, ap_oSome, ap_seq, ap_if, ap_sRet, ap_sRetF, ap_sRetN, ap_sRetO, ap_drop, ap_nxt, ap_asg, ap_own, ap_cell, ap_par, ap_par3, ap_raise0, ap_self, ap_for, ap_wV, ap_set, ap_gN, ap_gT, ap_gT', ap_gsNil, ap_gsCons, ap_blsK, b_add, b_sub, b_mul, b_fdiv, b_mod, b_addt, c_lt, c_le, c_gt, c_ge, ap_runF, fin_rt, fin_nx, fin_err, ap_runI, fni_nx, fni_rt, fni_err, finC, ap_arity, setS, isD, isDs, tyB, tyNames, fldD, fget, itemP, putD, eqD_int, eqD_bl, eqD_rat, mget, hasF, List.lookup, x]
theorem x_make2 (n : Nat) {d : D} (h : NotI d) (i : Int) (ce) : Ph (n + 2) 3 [.int i, d] ce = .err ⟨52, []⟩ ce := by
  rw [e_Ratio___init__]
  unfold B_Ratio___init__
  have x := x_isInt n h ce
  simp [cv_v, cv_f, cv_err, cl_f, cl_err, cm_v, cm_err, nt_b, nt_err, st_own, st_cell, ap_stF, it1_some, lcC_ok, lcB_f, lcB_t, lcB_b, lcA_some, ap_bnd, bd_ok, bd_err, bd_st, ad_t, ad_f, ad_err, ad_b, sq_nx, sq_rt, sq_err, sq_st, ap_ret, ap_some, ap_eC, ap_name, ap_nameB, ap_nil, ap_cons, ap_op, ap_oP, ap_oC, ap_oEq, ap_oEqF, ap_asB, ap_tOf, ap_bAnd, ap_bOr, ap_bNot, ap_ite, ap_eAnd, ap_eNot, ap_eIf, ap_chain, ap_isi, ap_isis, ap_fld, ap_ix, ap_tup, ap_fLst, ap_eL, ap_tupK, ap_tupK', ap_lenK, ap_lenK', ap_absK, ap_intK, ap_intK', ap_call, ap_callR, ap_fCall, ap_make, ap_callN, ap_meth, ap_opR, ap_opRi, ap_opRt, ap_opRl, ap_opRs, ap_neg, ap_negi, ap_negI, ap_oAddi, ap_oAddt, ap_oAdds, ap_oAddl, ap_oMuli, ap_sl, ap_oNone, ap_oSome, ap_seq, ap_if, ap_sRet, ap_sRetF, ap_sRetN, ap_sRetO, ap_drop, ap_nxt, ap_asg, ap_own, ap_cell, ap_par, ap_par3, ap_raise0, ap_self, ap_for, ap_wV, ap_set, ap_gN, ap_gT, ap_gT', ap_gsNil, ap_gsCons, ap_blsK, b_add, b_sub, b_mul, b_fdiv, b_mod, b_addt, c_lt, c_le, c_gt, c_ge, ap_runF, fin_rt, fin_nx, fin_err, ap_runI, fni_nx, fni_rt, fni_err, finC, ap_arity, setS, isD, isDs, tyB, tyNames, fldD, fget, itemP, putD, eqD_int, eqD_bl, eqD_rat, mget, hasF, List.lookup, x, v_isInt]
def NotR (d : D) : Prop := (∃ z, d = .str z) ∨ d = .non ∨ (∃ i, d = .int i) ∨ ∃ xs, d = .tup xs
theorem x_chk (n : Nat) {d : D} (h : NotR d) (ce) : Ph (n + 1) 13 [d] ce = .err ⟨52, []⟩ ce := by
  rw [e_check_ratio]
  unfold B_check_ratio
  rcases h with ⟨z, rfl⟩ | rfl | ⟨b, rfl⟩ | ⟨xs, rfl⟩
  · simp [cv_v, cv_f, cv_err, cl_f, cl_err, cm_v, cm_err, nt_b, nt_err, st_own, st_cell, ap_stF, it1_some, lcC_ok, lcB_f, lcB_t, lcB_b, lcA_some, ap_bnd, bd_ok, bd_err, bd_st, ad_t, ad_f, ad_err, ad_b, sq_nx, sq_rt, sq_err, sq_st, ap_ret, ap_some, ap_eC, ap_name, ap_nameB, ap_nil, ap_cons, ap_op, ap_oP, ap_oC, ap_oEq, ap_oEqF, ap_asB, ap_tOf, ap_bAnd, ap_bOr, ap_bNot, ap_ite, ap_eAnd, ap_eNot, ap_eIf, ap_chain, ap_isi, ap_isis, ap_fld, ap_ix, ap_tup, ap_fLst, ap_eL, ap_tupK, ap_tupK', ap_lenK, ap_lenK', ap_absK, ap_intK, ap_intK', ap_call, ap_callR, ap_fCall, ap_make, ap_callN, ap_meth, ap_opR, ap_opRi, ap_opRt, ap_opRl, ap_opRs, ap_neg, ap_negi, ap_negI, ap_oAddi, ap_oAddt, ap_oAdds, ap_oAddl, ap_oMuli, ap_sl, ap_oNone, ap_oSome, ap_seq, ap_if, ap_sRet, ap_sRetF, ap_sRetN, ap_sRetO, ap_drop, ap_nxt, ap_asg, ap_own, ap_cell, ap_par, ap_par3, ap_raise0, ap_self, ap_for, ap_wV, ap_set, ap_gN, ap_gT, ap_gT', ap_gsNil, ap_gsCons, ap_blsK, b_add, b_sub, b_mul, b_fdiv, b_mod, b_addt, c_lt, c_le, c_gt, c_ge, ap_runF, fin_rt, fin_nx, fin_err, ap_runI, fni_nx, fni_rt, fni_err, finC, ap_arity, setS, isD, isDs, tyB, tyNames, fldD, fget, itemP, putD, eqD_int, eqD_bl, eqD_rat, mget, hasF, List.lookup]
  · simp [cv_v, cv_f, cv_err, cl_f, cl_err, cm_v, cm_err, nt_b, nt_err, st_own, st_cell, ap_stF, it1_some, lcC_ok, lcB_f, lcB_t, lcB_b, lcA_some, ap_bnd, bd_ok, bd_err, bd_st, ad_t, ad_f, ad_err, ad_b, sq_nx, sq_rt, sq_err, sq_st, ap_ret, ap_some, ap_eC, ap_name, ap_nameB, ap_nil, ap_cons, ap_op, ap_oP, ap_oC, ap_oEq, ap_oEqF, ap_asB, ap_tOf, ap_bAnd, ap_bOr, ap_bNot, ap_ite, ap_eAnd, ap_eNot, ap_eIf, ap_chain, ap_isi, ap_isis, ap_fld, ap_ix, ap_tup, ap_fLst, ap_eL, ap_tupK, ap_tupK', ap_lenK, ap_lenK', ap_absK, ap_intK, ap_intK', ap_call, ap_callR, ap_fCall, ap_make, ap_callN, ap_meth, ap_opR, ap_opRi, ap_opRt, ap_opRl, ap_opRs, ap_neg, ap_negi, ap_negI, ap_oAddi, ap_oAddt, ap_oAdds, ap_oAddl, ap_oMuli, ap_sl, ap_oNone, ap_oSome, ap_seq, ap_if, ap_sRet, ap_sRetF, ap_sRetN, ap_sRetO, ap_drop, ap_nxt, ap_asg, ap_own, ap_cell, ap_par, ap_par3, ap_raise0, ap_self, ap_for, ap_wV, ap_set, ap_gN, ap_gT, ap_gT', ap_gsNil, ap_gsCons, ap_blsK, b_add, b_sub, b_mul, b_fdiv, b_mod, b_addt, c_lt, c_le, c_gt, c_ge, ap_runF, fin_rt, fin_nx, fin_err, ap_runI, fni_nx, fni_rt, fni_err, finC, ap_arity, setS, isD, isDs, tyB, tyNames, fldD, fget, itemP, putD, eqD_int, eqD_bl, eqD_rat, mget, hasF, List.lookup]
  · simp [cv_v, cv_f, cv_err, cl_f, cl_err, cm_v, cm_err, nt_b, nt_err, st_own, st_cell, ap_stF, it1_some, lcC_ok, lcB_f, lcB_t, lcB_b, lcA_some, ap_bnd, bd_ok, bd_err, bd_st, ad_t, ad_f, ad_err, ad_b, sq_nx, sq_rt, sq_err, sq_st, ap_ret, ap_some, ap_eC, ap_name, ap_nameB, ap_nil, ap_cons, ap_op, ap_oP, ap_oC, ap_oEq, ap_oEqF, ap_asB, ap_tOf, ap_bAnd, ap_bOr, ap_bNot, ap_ite, ap_eAnd, ap_eNot, ap_eIf, ap_chain, ap_isi, ap_isis, ap_fld, ap_ix, ap_tup, ap_fLst, ap_eL, ap_tupK, ap_tupK', ap_lenK, ap_lenK', ap_absK, ap_intK, ap_intK', ap_call, ap_callR, ap_fCall, ap_make, ap_callN, ap_meth, ap_opR, ap_opRi, ap_opRt, ap_opRl, ap_opRs, ap_neg, ap_negi, ap_negI, ap_oAddi, ap_oAddt, ap_oAdds, ap_oAddl, ap_oMuli, ap_sl, ap_oNone, ap_oSome, ap_seq, ap_if, ap_sRet, ap_sRetF, ap_sRetN, ap_sRetO, ap_drop, ap_nxt, ap_asg, ap_own, ap_cell, ap_par, ap_par3, ap_raise0, ap_self, ap_for, ap_wV, ap_set, ap_gN, ap_gT, ap_gT', ap_gsNil, ap_gsCons, ap_blsK, b_add, b_sub, b_mul, b_fdiv, b_mod, b_addt, c_lt, c_le, c_gt, c_ge, ap_runF, fin_rt, fin_nx, fin_err, ap_runI, fni_nx, fni_rt, fni_err, finC, ap_arity, setS, isD, isDs, tyB, tyNames, fldD, fget, itemP, putD, eqD_int, eqD_bl, eqD_rat, mget, hasF, List.lookup]
  · simp [cv_v, cv_f, cv_err, cl_f, cl_err, cm_v, cm_err, nt_b, nt_err, st_own, st_cell, ap_stF, it1_some, lcC_ok, lcB_f, lcB_t, lcB_b, lcA_some, ap_bnd, bd_ok, bd_err, bd_st, ad_t, ad_f, ad_err, ad_b, sq_nx, sq_rt, sq_err, sq_st, ap_ret, ap_some, ap_eC, ap_name, ap_nameB, ap_nil, ap_cons, ap_op, ap_oP, ap_oC, ap_oEq, ap_oEqF, ap_asB, ap_tOf, ap_bAnd, ap_bOr, ap_bNot, ap_ite, ap_eAnd, ap_eNot, ap_eIf, ap_chain, ap_isi, ap_isis, ap_fld, ap_ix, ap_tup, ap_fLst, ap_eL, ap_tupK, ap_tupK', ap_lenK, ap_lenK', ap_absK, ap_intK, ap_intK', ap_call, ap_callR, ap_fCall, ap_make, ap_callN, ap_meth, ap_opR, ap_opRi, ap_opRt, ap_opRl, ap_opRs, ap_neg, ap_negi, ap_negI, ap_oAddi, ap_oAddt, ap_oAdds, ap_oAddl, ap_oMuli, ap_sl, ap_oNone, ap_oSome, ap_seq, ap_if, ap_sRet, ap_sRetF, ap_sRetN, ap_sRetO, ap_drop, ap_nxt, ap_asg, ap_own, ap_cell, ap_par, ap_par3, ap_raise0, ap_self, ap_for, ap_wV, ap_set, ap_gN, ap_gT, ap_gT', ap_gsNil, ap_gsCons, ap_blsK, b_add, b_sub, b_mul, b_fdiv, b_mod, b_addt, c_lt, c_le, c_gt, c_ge, ap_runF, fin_rt, fin_nx, fin_err, ap_runI, fni_nx, fni_rt, fni_err, finC, ap_arity, setS, isD, isDs, tyB, tyNames, fldD, fget, itemP, putD, eqD_int, eqD_bl, eqD_rat, mget, hasF, List.lookup]
theorem x_plus (n : Nat) {d : D} (h : NotR d) (p : Rat) (ce) : Ph (n + 2) 4 [.rat p, d] ce = .err ⟨52, []⟩ ce := by
  rw [e_Ratio___add__]
  unfold B_Ratio___add__
  have x := x_chk n h ce
  simp [cv_v, cv_f, cv_err, cl_f, cl_err, cm_v, cm_err, nt_b, nt_err, st_own, st_cell, ap_stF, it1_some, lcC_ok, lcB_f, lcB_t, lcB_b, lcA_some, ap_bnd, bd_ok, bd_err, bd_st, ad_t, ad_f, ad_err, ad_b, sq_nx, sq_rt, sq_err, sq_st, ap_ret, ap_some, ap_eC, ap_name, ap_nameB, ap_nil, ap_cons, ap_op, ap_oP, ap_oC, ap_oEq, ap_oEqF, ap_asB, ap_tOf, ap_bAnd, ap_bOr, ap_bNot, ap_ite, ap_eAnd, ap_eNot, ap_eIf, ap_chain, ap_isi, ap_isis, ap_fld, ap_ix, ap_tup, ap_fLst, ap_eL, ap_tupK, ap_tupK', ap_lenK, ap_lenK', ap_absK, ap_intK, ap_intK', ap_call, ap_callR, ap_fCall, ap_make, ap_callN, ap_meth, ap_opR, ap_opRi, ap_opRt, ap_opRl, ap_opRs, ap_neg, ap_negi, ap_negI, ap_oAddi, ap_oAddt, ap_oAdds, ap_oAddl, ap_oMuli, ap_sl, ap_oNone, ap_oSome, ap_seq, ap_if, ap_sRet, ap_sRetF, ap_sRetN, ap_sRetO, ap_drop, ap_nxt, ap_asg, ap_own, ap_cell, ap_par, ap_par3, ap_raise0, ap_self, ap_for, ap_wV, ap_set, ap_gN, ap_gT, ap_gT', ap_gsNil, ap_gsCons, ap_blsK, b_add, b_sub, b_mul, b_fdiv, b_mod, b_addt, c_lt, c_le, c_gt, c_ge, ap_runF, fin_rt, fin_nx, fin_err, ap_runI, fni_nx, fni_rt, fni_err, finC, ap_arity, setS, isD, isDs, tyB, tyNames, fldD, fget, itemP, putD, eqD_int, eqD_bl, eqD_rat, mget, hasF, List.lookup, x]
theorem x_overR (n : Nat) {d : D} (h : NotR d) (p : Rat) (ce) : Ph (n + 2) 10 [.rat p, d] ce = .err ⟨52, []⟩ ce := by
  rw [e_Ratio_over]
  unfold B_Ratio_over
  have x := x_chk n h ce
  simp [cv_v, cv_f, cv_err, cl_f, cl_err, cm_v, cm_err, nt_b, nt_err, st_own, st_cell, ap_stF, it1_some, lcC_ok, lcB_f, lcB_t, lcB_b, lcA_some, ap_bnd, bd_ok, bd_err, bd_st, ad_t, ad_f, ad_err, ad_b, sq_nx, sq_rt, sq_err, sq_st, ap_ret, ap_some, ap_eC, ap_name, ap_nameB, ap_nil, ap_cons, ap_op, ap_oP, ap_oC, ap_oEq, ap_oEqF, ap_asB, ap_tOf, ap_bAnd, ap_bOr, ap_bNot, ap_ite, ap_eAnd, ap_eNot, ap_eIf, ap_chain, ap_isi, ap_isis, ap_fld, ap_ix, ap_tup, ap_fLst, ap_eL, ap_tupK, ap_tupK', ap_lenK, ap_lenK', ap_absK, ap_intK, ap_intK', ap_call, ap_callR, ap_fCall, ap_make, ap_callN, ap_meth, ap_opR, ap_opRi, ap_opRt, ap_opRl, ap_opRs, ap_neg, ap_negi, ap_negI, ap_oAddi, ap_oAddt, ap_oAdds, ap_oAddl, ap_oMuli, ap_sl, ap_oNone, ap_oSome, ap_seq, ap_if, ap_sRet, ap_sRetF, ap_sRetN, ap_sRetO, ap_drop, ap_nxt, ap_asg, ap_own, ap_cell, ap_par, ap_par3, ap_raise0, ap_self, ap_for, ap_wV, ap_set, ap_gN, ap_gT, ap_gT', ap_gsNil, ap_gsCons, ap_blsK, b_add, b_sub, b_mul, b_fdiv, b_mod, b_addt, c_lt, c_le, c_gt, c_ge, ap_runF, fin_rt, fin_nx, fin_err, ap_runI, fni_nx, fni_rt, fni_err, finC, ap_arity, setS, isD, isDs, tyB, tyNames, fldD, fget, itemP, putD, eqD_int, eqD_bl, eqD_rat, mget, hasF, List.lookup, x]
theorem x_lplus (n : Nat) {d : D} (h : NotR d) (p : Rat) (ce) : Ph (n + 3) 23 [.rat p, d] ce = .err ⟨52, []⟩ ce := by
  rw [e__law_db_plus_of]
  unfold B__law_db_plus_of
  have x := x_plus n h p ce
  rcases h with ⟨z, rfl⟩ | rfl | ⟨b, rfl⟩ | ⟨xs, rfl⟩
  · simp [cv_v, cv_f, cv_err, cl_f, cl_err, cm_v, cm_err, nt_b, nt_err, st_own, st_cell, ap_stF, it1_some, lcC_ok, lcB_f, lcB_t, lcB_b, lcA_some, ap_bnd, bd_ok, bd_err, bd_st, ad_t, ad_f, ad_err, ad_b, sq_nx, sq_rt, sq_err, sq_st, ap_ret, ap_some, ap_eC, ap_name, ap_nameB, ap_nil, ap_cons, ap_op, ap_oP, ap_oC, ap_oEq, ap_oEqF, ap_asB, ap_tOf, ap_bAnd, ap_bOr, ap_bNot, ap_ite, ap_eAnd, ap_eNot, ap_eIf, ap_chain, ap_isi, ap_isis, ap_fld, ap_ix, ap_tup, ap_fLst, ap_eL, ap_tupK, ap_tupK', ap_lenK, ap_lenK', ap_absK, ap_intK, ap_intK', ap_call, ap_callR, ap_fCall, ap_make, ap_callN, ap_meth, ap_opR, ap_opRi, ap_opRt, ap_opRl, ap_opRs, ap_neg, ap_negi, ap_negI, ap_oAddi, ap_oAddt, ap_oAdds, ap_oAddl, ap_oMuli, ap_sl, ap_oNone, ap_oSome, ap_seq, ap_if, ap_sRet, ap_sRetF, ap_sRetN, ap_sRetO, ap_drop, ap_nxt, ap_asg, ap_own, ap_cell, ap_par, ap_par3, ap_raise0, ap_self, ap_for, ap_wV, ap_set, ap_gN, ap_gT, ap_gT', ap_gsNil, ap_gsCons, ap_blsK, b_add, b_sub, b_mul, b_fdiv, b_mod, b_addt, c_lt, c_le, c_gt, c_ge, ap_runF, fin_rt, fin_nx, fin_err, ap_runI, fni_nx, fni_rt, fni_err, finC, ap_arity, setS, isD, isDs, tyB, tyNames, fldD, fget, itemP, putD, eqD_int, eqD_bl, eqD_rat, mget, hasF, List.lookup, opR, tyName, x]
  · simp [cv_v, cv_f, cv_err, cl_f, cl_err, cm_v, cm_err, nt_b, nt_err, st_own, st_cell, ap_stF, it1_some, lcC_ok, lcB_f, lcB_t, lcB_b, lcA_some, ap_bnd, bd_ok, bd_err, bd_st, ad_t, ad_f, ad_err, ad_b, sq_nx, sq_rt, sq_err, sq_st, ap_ret, ap_some, ap_eC, ap_name, ap_nameB, ap_nil, ap_cons, ap_op, ap_oP, ap_oC, ap_oEq, ap_oEqF, ap_asB, ap_tOf, ap_bAnd, ap_bOr, ap_bNot, ap_ite, ap_eAnd, ap_eNot, ap_eIf, ap_chain, ap_isi, ap_isis, ap_fld, ap_ix, ap_tup, ap_fLst, ap_eL, ap_tupK, ap_tupK', ap_lenK, ap_lenK', ap_absK, ap_intK, ap_intK', ap_call, ap_callR, ap_fCall, ap_make, ap_callN, ap_meth, ap_opR, ap_opRi, ap_opRt, ap_opRl, ap_opRs, ap_neg, ap_negi, ap_negI, ap_oAddi, ap_oAddt, ap_oAdds, ap_oAddl, ap_oMuli, ap_sl, ap_oNone, ap_oSome, ap_seq, ap_if, ap_sRet, ap_sRetF, ap_sRetN, ap_sRetO, ap_drop, ap_nxt, ap_asg, ap_own, ap_cell, ap_par, ap_par3, ap_raise0, ap_self, ap_for, ap_wV, ap_set, ap_gN, ap_gT, ap_gT', ap_gsNil, ap_gsCons, ap_blsK, b_add, b_sub, b_mul, b_fdiv, b_mod, b_addt, c_lt, c_le, c_gt, c_ge, ap_runF, fin_rt, fin_nx, fin_err, ap_runI, fni_nx, fni_rt, fni_err, finC, ap_arity, setS, isD, isDs, tyB, tyNames, fldD, fget, itemP, putD, eqD_int, eqD_bl, eqD_rat, mget, hasF, List.lookup, opR, tyName, x]
  · simp [cv_v, cv_f, cv_err, cl_f, cl_err, cm_v, cm_err, nt_b, nt_err, st_own, st_cell, ap_stF, it1_some, lcC_ok, lcB_f, lcB_t, lcB_b, lcA_some, ap_bnd, bd_ok, bd_err, bd_st, ad_t, ad_f, ad_err, ad_b, sq_nx, sq_rt, sq_err, sq_st, ap_ret, ap_some, ap_eC, ap_name, ap_nameB, ap_nil, ap_cons, ap_op, ap_oP, ap_oC, ap_oEq, ap_oEqF, ap_asB, ap_tOf, ap_bAnd, ap_bOr, ap_bNot, ap_ite, ap_eAnd, ap_eNot, ap_eIf, ap_chain, ap_isi, ap_isis, ap_fld, ap_ix, ap_tup, ap_fLst, ap_eL, ap_tupK, ap_tupK', ap_lenK, ap_lenK', ap_absK, ap_intK, ap_intK', ap_call, ap_callR, ap_fCall, ap_make, ap_callN, ap_meth, ap_opR, ap_opRi, ap_opRt, ap_opRl, ap_opRs, ap_neg, ap_negi, ap_negI, ap_oAddi, ap_oAddt, ap_oAdds, ap_oAddl, ap_oMuli, ap_sl, ap_oNone, ap_oSome, ap_seq, ap_if, ap_sRet, ap_sRetF, ap_sRetN, ap_sRetO, ap_drop, ap_nxt, ap_asg, ap_own, ap_cell, ap_par, ap_par3, ap_raise0, ap_self, ap_for, ap_wV, ap_set, ap_gN, ap_gT, ap_gT', ap_gsNil, ap_gsCons, ap_blsK, b_add, b_sub, b_mul, b_fdiv, b_mod, b_addt, c_lt, c_le, c_gt, c_ge, ap_runF, fin_rt, fin_nx, fin_err, ap_runI, fni_nx, fni_rt, fni_err, finC, ap_arity, setS, isD, isDs, tyB, tyNames, fldD, fget, itemP, putD, eqD_int, eqD_bl, eqD_rat, mget, hasF, List.lookup, opR, tyName, x]
  · simp [cv_v, cv_f, cv_err, cl_f, cl_err, cm_v, cm_err, nt_b, nt_err, st_own, st_cell, ap_stF, it1_some, lcC_ok, lcB_f, lcB_t, lcB_b, lcA_some, ap_bnd, bd_ok, bd_err, bd_st, ad_t, ad_f, ad_err, ad_b, sq_nx, sq_rt, sq_err, sq_st, ap_ret, ap_some, ap_eC, ap_name, ap_nameB, ap_nil, ap_cons, ap_op, ap_oP, ap_oC, ap_oEq, ap_oEqF, ap_asB, ap_tOf, ap_bAnd, ap_bOr, ap_bNot, ap_ite, ap_eAnd, ap_eNot, ap_eIf, ap_chain, ap_isi, ap_isis, ap_fld, ap_ix, ap_tup, ap_fLst, ap_eL, ap_tupK, ap_tupK', ap_lenK, ap_lenK', ap_absK, ap_intK, ap_intK', ap_call, ap_callR, ap_fCall, ap_make, ap_callN, ap_meth, ap_opR, ap_opRi, ap_opRt, ap_opRl, ap_opRs, ap_neg, ap_negi, ap_negI, ap_oAddi, ap_oAddt, ap_oAdds, ap_oAddl, ap_oMuli, ap_sl, ap_oNone, ap_oSome, ap_seq, ap_if, ap_sRet, ap_sRetF, ap_sRetN, ap_sRetO, ap_drop, ap_nxt, ap_asg, ap_own, ap_cell, ap_par, ap_par3, ap_raise0, ap_self, ap_for, ap_wV, ap_set, ap_gN, ap_gT, ap_gT', ap_gsNil, ap_gsCons, ap_blsK, b_add, b_sub, b_mul, b_fdiv, b_mod, b_addt, c_lt, c_le, c_gt, c_ge, ap_runF, fin_rt, fin_nx, fin_err, ap_runI, fni_nx, fni_rt, fni_err, finC, ap_arity, setS, isD, isDs, tyB, tyNames, fldD, fget, itemP, putD, eqD_int, eqD_bl, eqD_rat, mget, hasF, List.lookup, opR, tyName, x]
theorem x_lover (n : Nat) {d : D} (h : NotR d) (p : Rat) (ce) : Ph (n + 3) 22 [.rat p, d] ce = .err ⟨52, []⟩ ce := by
  rw [e__law_db_over]
  unfold B__law_db_over
  have x := x_overR n h p ce
  simp [cv_v, cv_f, cv_err, cl_f, cl_err, cm_v, cm_err, nt_b, nt_err, st_own, st_cell, ap_stF, it1_some, lcC_ok, lcB_f, lcB_t, lcB_b, lcA_some, ap_bnd, bd_ok, bd_err, bd_st, ad_t, ad_f, ad_err, ad_b, sq_nx, sq_rt, sq_err, sq_st, ap_ret, ap_some, ap_eC, ap_name, ap_nameB, ap_nil, ap_cons, ap_op, ap_oP, ap_oC, ap_oEq, ap_oEqF, ap_asB, ap_tOf, ap_bAnd, ap_bOr, ap_bNot, ap_ite, ap_eAnd, ap_eNot, ap_eIf, ap_chain, ap_isi, ap_isis, ap_fld, ap_ix, ap_tup, ap_fLst, ap_eL, ap_tupK, ap_tupK', ap_lenK, ap_lenK', ap_absK, ap_intK, ap_intK', ap_call, ap_callR, ap_fCall, ap_make, ap_callN, ap_meth, ap_opR, ap_opRi, ap_opRt, ap_opRl, ap_opRs, ap_neg, ap_negi, ap_negI, ap_oAddi, ap_oAddt, ap_oAdds, ap_oAddl, ap_oMuli, ap_sl, ap_oNone, ap_oSome, ap_seq, ap_if, ap_sRet, ap_sRetF, ap_sRetN, ap_sRetO, ap_drop, ap_nxt, ap_asg, ap_own, ap_cell, ap_par, ap_par3, ap_raise0, ap_self, ap_for, ap_wV, ap_set, ap_gN, ap_gT, ap_gT', ap_gsNil, ap_gsCons, ap_blsK, b_add, b_sub, b_mul, b_fdiv, b_mod, b_addt, c_lt, c_le, c_gt, c_ge, ap_runF, fin_rt, fin_nx, fin_err, ap_runI, fni_nx, fni_rt, fni_err, finC, ap_arity, setS, isD, isDs, tyB, tyNames, fldD, fget, itemP, putD, eqD_int, eqD_bl, eqD_rat, mget, hasF, List.lookup, x]
theorem v_lover (n : Nat) {p q : Rat} (hp : Sm p) (hq : Sm q) (h0 : q.num ≠ 0) (ce) : Ph (n + 4) 22 [.rat p, .rat q] ce = .ok (.v (.rat (Rat.divInt (p.num * q.den) (p.den * q.num)))) ce := by
  rw [e__law_db_over]
  unfold B__law_db_over
  have x := v_over n hp hq h0 ce
  simp [cv_v, cv_f, cv_err, cl_f, cl_err, cm_v, cm_err, nt_b, nt_err, st_own, st_cell, ap_stF, it1_some, lcC_ok, lcB_f, lcB_t, lcB_b, lcA_some, ap_bnd, bd_ok, bd_err, bd_st, ad_t, ad_f, ad_err, ad_b, sq_nx, sq_rt, sq_err, sq_st, ap_ret, ap_some, ap_eC, ap_name, ap_nameB, ap_nil, ap_cons, ap_op, ap_oP, ap_oC, ap_oEq, ap_oEqF, ap_asB, ap_tOf, ap_bAnd, ap_bOr, ap_bNot, ap_ite, ap_eAnd, ap_eNot, ap_eIf, ap_chain, ap_isi, ap_isis, ap_fld, ap_ix, ap_tup, ap_fLst, ap_eL, ap_tupK, ap_tupK', ap_lenK, ap_lenK', ap_absK, ap_intK, ap_intK', ap_call, ap_callR, ap_fCall, ap_make, ap_callN, ap_meth, ap_opR, ap_opRi, ap_opRt, ap_opRl, ap_opRs, ap_neg, ap_negi, ap_negI, ap_oAddi, ap_oAddt, ap_oAdds, ap_oAddl, ap_oMuli, ap_sl, ap_oNone, ap_oSome, ap_seq, ap_if, ap_sRet, ap_sRetF, ap_sRetN, ap_sRetO, ap_drop, ap_nxt, ap_asg, ap_own, ap_cell, ap_par, ap_par3, ap_raise0, ap_self, ap_for, ap_wV, ap_set, ap_gN, ap_gT, ap_gT', ap_gsNil, ap_gsCons, ap_blsK, b_add, b_sub, b_mul, b_fdiv, b_mod, b_addt, c_lt, c_le, c_gt, c_ge, ap_runF, fin_rt, fin_nx, fin_err, ap_runI, fni_nx, fni_rt, fni_err, finC, ap_arity, setS, isD, isDs, tyB, tyNames, fldD, fget, itemP, putD, eqD_int, eqD_bl, eqD_rat, mget, hasF, List.lookup, x]
theorem x_lover0 (n : Nat) {p q : Rat} (hp : Sm p) (hq : Sm q) (h0 : q.num = 0) (ce) : Ph (n + 4) 22 [.rat p, .rat q] ce = .err ⟨51, []⟩ ce := by
  rw [e__law_db_over]
  unfold B__law_db_over
  have x := x_over0 n hp hq h0 ce
  simp [cv_v, cv_f, cv_err, cl_f, cl_err, cm_v, cm_err, nt_b, nt_err, st_own, st_cell, ap_stF, it1_some, lcC_ok, lcB_f, lcB_t, lcB_b, lcA_some, ap_bnd, bd_ok, bd_err, bd_st, ad_t, ad_f, ad_err, ad_b, sq_nx, sq_rt, sq_err, sq_st, ap_ret, ap_some, ap_eC, ap_name, ap_nameB, ap_nil, ap_cons, ap_op, ap_oP, ap_oC, ap_oEq, ap_oEqF, ap_asB, ap_tOf, ap_bAnd, ap_bOr, ap_bNot, ap_ite, ap_eAnd, ap_eNot, ap_eIf, ap_chain, ap_isi, ap_isis, ap_fld, ap_ix, ap_tup, ap_fLst, ap_eL, ap_tupK, ap_tupK', ap_lenK, ap_lenK', ap_absK, ap_intK, ap_intK', ap_call, ap_callR, ap_fCall, ap_make, ap_callN, ap_meth, ap_opR, ap_opRi, ap_opRt, ap_opRl, ap_opRs, ap_neg, ap_negi, ap_negI, ap_oAddi, ap_oAddt, ap_oAdds, ap_oAddl, ap_oMuli, ap_sl, ap_oNone, ap_oSome, ap_seq, ap_if, ap_sRet, ap_sRetF, ap_sRetN, ap_sRetO, ap_drop, ap_nxt, ap_asg, ap_own, ap_cell, ap_par, ap_par3, ap_raise0, ap_self, ap_for, ap_wV, ap_set, ap_gN, ap_gT, ap_gT', ap_gsNil, ap_gsCons, ap_blsK, b_add, b_sub, b_mul, b_fdiv, b_mod, b_addt, c_lt, c_le, c_gt, c_ge, ap_runF, fin_rt, fin_nx, fin_err, ap_runI, fni_nx, fni_rt, fni_err, finC, ap_arity, setS, isD, isDs, tyB, tyNames, fldD, fget, itemP, putD, eqD_int, eqD_bl, eqD_rat, mget, hasF, List.lookup, x]
theorem x_lmade0 (n : Nat) (i : Int) (ce) : Ph (n + 3) 21 [.int i, .int 0] ce = .err ⟨51, []⟩ ce := by
  rw [e__law_db_made]
  unfold B__law_db_made
  have x := x_make0 n i ce
  simp [cv_v, cv_f, cv_err, cl_f, cl_err, cm_v, cm_err, nt_b, nt_err, st_own, st_cell, ap_stF, it1_some, lcC_ok, lcB_f, lcB_t, lcB_b, lcA_some, ap_bnd, bd_ok, bd_err, bd_st, ad_t, ad_f, ad_err, ad_b, sq_nx, sq_rt, sq_err, sq_st, ap_ret, ap_some, ap_eC, ap_name, ap_nameB, ap_nil, ap_cons, ap_op, ap_oP, ap_oC, ap_oEq, ap_oEqF, ap_asB, ap_tOf, ap_bAnd, ap_bOr, ap_bNot, ap_ite, ap_eAnd, ap_eNot, ap_eIf, ap_chain, ap_isi, ap_isis, ap_fld, ap_ix, ap_tup, ap_fLst, ap_eL, ap_tupK, ap_tupK', ap_lenK, ap_lenK', ap_absK, ap_intK, ap_intK', ap_call, ap_callR, ap_fCall, ap_make, ap_callN, ap_meth, ap_opR, ap_opRi, ap_opRt, ap_opRl, ap_opRs, ap_neg, ap_negi, ap_negI, ap_oAddi, ap_oAddt, ap_oAdds, ap_oAddl, ap_oMuli, ap_sl, ap_oNone, ap_oSome, ap_seq, ap_if, ap_sRet, ap_sRetF, ap_sRetN, ap_sRetO, ap_drop, ap_nxt, ap_asg, ap_own, ap_cell, ap_par, ap_par3, ap_raise0, ap_self, ap_for, ap_wV, ap_set, ap_gN, ap_gT, ap_gT', ap_gsNil, ap_gsCons, ap_blsK, b_add, b_sub, b_mul, b_fdiv, b_mod, b_addt, c_lt, c_le, c_gt, c_ge, ap_runF, fin_rt, fin_nx, fin_err, ap_runI, fni_nx, fni_rt, fni_err, finC, ap_arity, setS, isD, isDs, tyB, tyNames, fldD, fget, itemP, putD, eqD_int, eqD_bl, eqD_rat, mget, hasF, List.lookup, x]
theorem x_lmade1 (n : Nat) {d : D} (h : NotI d) (e : D) (ce) : Ph (n + 3) 21 [d, e] ce = .err ⟨52, []⟩ ce := by
  rw [e__law_db_made]
  unfold B__law_db_made
  have x := x_make1 n h e ce
  simp [cv_v, cv_f, cv_err, cl_f, cl_err, cm_v, cm_err, nt_b, nt_err, st_own, st_cell, ap_stF, it1_some, lcC_ok, lcB_f, lcB_t, lcB_b, lcA_some, ap_bnd, bd_ok, bd_err, bd_st, ad_t, ad_f, ad_err, ad_b, sq_nx, sq_rt, sq_err, sq_st, ap_ret, ap_some, ap_eC, ap_name, ap_nameB, ap_nil, ap_cons, ap_op, ap_oP, ap_oC, ap_oEq, ap_oEqF, ap_asB, ap_tOf, ap_bAnd, ap_bOr, ap_bNot, ap_ite, ap_eAnd, ap_eNot, ap_eIf, ap_chain, ap_isi, ap_isis, ap_fld, ap_ix, ap_tup, ap_fLst, ap_eL, ap_tupK, ap_tupK', ap_lenK, ap_lenK', ap_absK, ap_intK, ap_intK', ap_call, ap_callR, ap_fCall, ap_make, ap_callN, ap_meth, ap_opR, ap_opRi, ap_opRt, ap_opRl, ap_opRs, ap_neg, ap_negi, ap_negI, ap_oAddi, ap_oAddt, ap_oAdds, ap_oAddl, ap_oMuli, ap_sl, ap_oNone, ap_oSome, ap_seq, ap_if, ap_sRet, ap_sRetF, ap_sRetN, ap_sRetO, ap_drop, ap_nxt, ap_asg, ap_own, ap_cell, ap_par, ap_par3, ap_raise0, ap_self, ap_for, ap_wV, ap_set, ap_gN, ap_gT, ap_gT', ap_gsNil, ap_gsCons, ap_blsK, b_add, b_sub, b_mul, b_fdiv, b_mod, b_addt, c_lt, c_le, c_gt, c_ge, ap_runF, fin_rt, fin_nx, fin_err, ap_runI, fni_nx, fni_rt, fni_err, finC, ap_arity, setS, isD, isDs, tyB, tyNames, fldD, fget, itemP, putD, eqD_int, eqD_bl, eqD_rat, mget, hasF, List.lookup, x]
theorem x_lmade2 (n : Nat) {d : D} (h : NotI d) (i : Int) (ce) : Ph (n + 3) 21 [.int i, d] ce = .err ⟨52, []⟩ ce := by
  rw [e__law_db_made]
  unfold B__law_db_made
  have x := x_make2 n h i ce
  simp [cv_v, cv_f, cv_err, cl_f, cl_err, cm_v, cm_err, nt_b, nt_err, st_own, st_cell, ap_stF, it1_some, lcC_ok, lcB_f, lcB_t, lcB_b, lcA_some, ap_bnd, bd_ok, bd_err, bd_st, ad_t, ad_f, ad_err, ad_b, sq_nx, sq_rt, sq_err, sq_st, ap_ret, ap_some, ap_eC, ap_name, ap_nameB, ap_nil, ap_cons, ap_op, ap_oP, ap_oC, ap_oEq, ap_oEqF, ap_asB, ap_tOf, ap_bAnd, ap_bOr, ap_bNot, ap_ite, ap_eAnd, ap_eNot, ap_eIf, ap_chain, ap_isi, ap_isis, ap_fld, ap_ix, ap_tup, ap_fLst, ap_eL, ap_tupK, ap_tupK', ap_lenK, ap_lenK', ap_absK, ap_intK, ap_intK', ap_call, ap_callR, ap_fCall, ap_make, ap_callN, ap_meth, ap_opR, ap_opRi, ap_opRt, ap_opRl, ap_opRs, ap_neg, ap_negi, ap_negI, ap_oAddi, ap_oAddt, ap_oAdds, ap_oAddl, ap_oMuli, ap_sl, ap_oNone, ap_oSome, ap_seq, ap_if, ap_sRet, ap_sRetF, ap_sRetN, ap_sRetO, ap_drop, ap_nxt, ap_asg, ap_own, ap_cell, ap_par, ap_par3, ap_raise0, ap_self, ap_for, ap_wV, ap_set, ap_gN, ap_gT, ap_gT', ap_gsNil, ap_gsCons, ap_blsK, b_add, b_sub, b_mul, b_fdiv, b_mod, b_addt, c_lt, c_le, c_gt, c_ge, ap_runF, fin_rt, fin_nx, fin_err, ap_runI, fni_nx, fni_rt, fni_err, finC, ap_arity, setS, isD, isDs, tyB, tyNames, fldD, fget, itemP, putD, eqD_int, eqD_bl, eqD_rat, mget, hasF, List.lookup, x]

end Lw

end
section
set_option Elab.async false
set_option linter.all false
set_option maxRecDepth 100000
set_option maxHeartbeats 0
set_option exponentiation.threshold 10000
namespace Lw
open TL Pl

structure Dt (n d m e : Int) (a b : Rat) : Prop where
  n1 : n.natAbs ≤ 1000
  d1 : 1 ≤ d
  d2 : d ≤ 60
  m1 : m.natAbs ≤ 1000
  e1 : -60 ≤ e
  e2 : e ≤ -1
  a1 : Rat.divInt n d = a
  b1 : Rat.divInt m e = b
theorem crs {n d : Int} (h : d ≠ 0) : (Rat.divInt n d).num * d = n * (Rat.divInt n d).den := by
  have z : Rat.divInt n d = Rat.divInt (Rat.divInt n d).num ((Rat.divInt n d).den : Int) := (Rat.num_divInt_den _).symm
  exact ((Rat.divInt_eq_divInt_iff h (show ((Rat.divInt n d).den : Int) ≠ 0 by have := (Rat.divInt n d).den_nz; omega)).mp z).symm
section
variable {n d m e : Int} {a b : Rat} (t : Dt n d m e a b)
include t
theorem Dt.d0 : d ≠ 0 := by have := t.d1; omega
theorem Dt.e0 : e ≠ 0 := by have := t.e2; omega
theorem Dt.ba : a.num.natAbs < 1001 ∧ a.den < 1001 := by
  rw [← t.a1]; exact frac_bd t.d0 (by have := t.n1; omega) (by have := t.d1; have := t.d2; omega)
theorem Dt.bb : b.num.natAbs < 1001 ∧ b.den < 1001 := by
  rw [← t.b1]; exact frac_bd t.e0 (by have := t.m1; omega) (by have := t.e1; have := t.e2; omega)
theorem Dt.ca : a.num * d = n * a.den := by rw [← t.a1]; exact crs t.d0
theorem Dt.cb : b.num * e = m * b.den := by rw [← t.b1]; exact crs t.e0
theorem Dt.sa : Sm a := sm_of (Nat.lt_trans t.ba.1 (by decide)) (Nat.lt_trans t.ba.2 (by decide))
theorem Dt.sb : Sm b := sm_of (Nat.lt_trans t.bb.1 (by decide)) (Nat.lt_trans t.bb.2 (by decide))
theorem Dt.ad : (a.den : Int) ≠ 0 := by have := a.den_nz; omega
theorem Dt.bd : (b.den : Int) ≠ 0 := by have := b.den_nz; omega
theorem Dt.add : Rat.divInt (n * e + m * d) (d * e) = a + b := by rw [← Rat.divInt_add_divInt _ _ t.d0 t.e0, t.a1, t.b1]
theorem Dt.sub : Rat.divInt (n * e - m * d) (d * e) = a - b := by rw [← Rat.divInt_sub_divInt _ _ t.d0 t.e0, t.a1, t.b1]
theorem Dt.mul : Rat.divInt (n * m) (d * e) = a * b := by rw [← Rat.divInt_mul_divInt n m, t.a1, t.b1]
theorem Dt.neg : Rat.divInt (-n) d = -a := by rw [← t.a1, Rat.neg_divInt]
theorem Dt.tri : Rat.divInt (3 * n) (3 * d) = a := by
  rw [← t.a1]
  exact Rat.divInt_mul_left (by decide)
theorem Dt.m0 : m = 0 ↔ b.num = 0 := by
  have c := t.cb
  constructor
  · intro h
    rw [h, Int.zero_mul] at c
    rcases Int.mul_eq_zero.mp c with z | z
    · exact z
    · exact absurd z t.e0
  · intro h
    rw [h, Int.zero_mul] at c
    rcases Int.mul_eq_zero.mp c.symm with z | z
    · exact z
    · exact absurd z t.bd
theorem Dt.over (h : m ≠ 0) : Rat.divInt (a.num * b.den) (a.den * b.num) = Rat.divInt (n * e) (d * m) := by
  have hb : b.num ≠ 0 := fun z => h (t.m0.mpr z)
  refine (Rat.divInt_eq_divInt_iff (Int.mul_ne_zero t.ad hb) (Int.mul_ne_zero t.d0 h)).mpr ?_
  have c1 := t.ca
  have c2 := t.cb
  have h1 : a.num * b.den * (d * m) = (a.num * d) * (m * b.den) := by grind
  have h2 : n * e * (a.den * b.num) = (n * a.den) * (b.num * e) := by grind
  rw [h1, h2, c1, c2]
theorem Dt.whole : (n.fmod d = 0) ↔ a.den = 1 := by
  have c := t.ca
  have e1 : n.fmod d = n % d := Int.fmod_eq_emod_of_nonneg _ (by have := t.d1; omega)
  rw [e1]
  constructor
  · intro h
    obtain ⟨k, hk⟩ := Int.dvd_of_emod_eq_zero h
    have e2 : a = Rat.divInt k ((1 : Nat) : Int) := by
      rw [← t.a1, hk]
      have := Rat.divInt_mul_left (n := k) (d := 1) t.d0
      rw [Int.mul_one] at this
      exact this
    rw [e2, Rat.divInt_ofNat, Rat.den_mkRat]
    simp
  · intro h
    rw [h] at c
    have : n = d * a.num := by grind
    rw [this]
    exact Int.mul_emod_right ..
theorem Dt.eqab : (a = b) ↔ (n * e = m * d) := by
  rw [← t.a1, ← t.b1]
  exact Rat.divInt_eq_divInt_iff t.d0 t.e0
theorem Dt.sg : Pl.sgn a = if 0 < n then 1 else if n < 0 then -1 else 0 := by
  have c := t.ca
  have hd := t.d1
  have ha : (0 : Int) < a.den := by have := a.den_nz; omega
  have k1 : (0 < a.num) ↔ (0 < n) := by
    constructor
    · intro h
      have : 0 < a.num * d := Int.mul_pos h (by omega)
      rw [c] at this
      exact Int.pos_of_mul_pos_left this ha
    · intro h
      have : 0 < n * a.den := Int.mul_pos h ha
      rw [← c] at this
      exact Int.pos_of_mul_pos_left this (by omega)
  have k2 : (a.num < 0) ↔ (n < 0) := by
    constructor
    · intro h
      have : 0 < -(a.num) * d := Int.mul_pos (by omega) (by omega)
      have e : -(a.num) * d = -n * a.den := by grind
      rw [e] at this
      have := Int.pos_of_mul_pos_left this ha
      omega
    · intro h
      have : 0 < -n * a.den := Int.mul_pos (by omega) ha
      have e : -n * a.den = -(a.num) * d := by grind
      rw [e] at this
      have := Int.pos_of_mul_pos_left this (show 0 < d by omega)
      omega
  unfold Pl.sgn
  simp only [k1, k2]
end

end Lw

end
section
set_option Elab.async false
set_option linter.all false
set_option maxRecDepth 100000
set_option maxHeartbeats 0
set_option exponentiation.threshold 10000
namespace Lw
open TL Pl
theorem er_s (m : Nat) (z : PySem.Str) : eqD m (.str z) (.str z) = some true := by rw [eqD_strs]; simp
theorem er_n (m : Nat) : eqD m .non .non = some true := by cases m <;> rfl
theorem er_r (m : Nat) (q : Rat) : eqD m (.rat q) (.rat q) = some true := by rw [eqD_rat]; simp
theorem er_b (m : Nat) (q : Bool) : eqD m (.bl q) (.bl q) = some true := by rw [eqD_bl]; simp
theorem eq2 {x y : D} (h1 : eqD 5 x x = some true) (h2 : eqD 5 y y = some true) : eqD 6 (.tup [x, y]) (.tup [x, y]) = some true := eqD_tup (m := 5) fun z hz => by
  rcases List.mem_cons.mp hz with rfl | hz
  · exact h1
  · rcases List.mem_cons.mp hz with rfl | hz
    · exact h2
    · cases hz
theorem T3 (n0 : Nat) {n d m e : Int} {a b : Rat} (t : Dt n d m e a b) (s0 s1 s2 s3 s4 s5 s6 s11 s12 s13 : Sl) (ce) : ((sPar 11 12 (aCons (eMake (Ph (n0 + 10)) 3 [] (aCons (eName 7) (aCons (eName 8) (aNil)))) (aCons (eMake (Ph (n0 + 10)) 3 [] (aCons (eName 9) (aCons (eName 10) (aNil)))) (aNil)))) : M TL.Flow) ⟨[s0, s1, s2, s3, s4, s5, s6, .v (.int n), .v (.int d), .v (.int m), .v (.int e), s11, s12, s13], ce⟩ = .ok .nx ⟨[s0, s1, s2, s3, s4, s5, s6, .v (.int n), .v (.int d), .v (.int m), .v (.int e), .v (.rat a), .v (.rat b), s13], ce⟩ := by
  have ma := v_make (n0 + 8) n d t.d0 (Nat.lt_trans (show d.natAbs < 2 ^ 64 by have := t.d1; have := t.d2; omega) (Nat.pow_lt_pow_right (by decide) (by decide))) ce
  have mb := v_make (n0 + 8) m e t.e0 (Nat.lt_trans (show e.natAbs < 2 ^ 64 by have := t.e1; have := t.e2; omega) (Nat.pow_lt_pow_right (by decide) (by decide))) ce
  rw [t.a1] at ma
  rw [t.b1] at mb
  simp [cv_v, cv_f, cv_err, cl_f, cl_err, cm_v, cm_err, nt_b, nt_err, st_own, st_cell, ap_stF, it1_some, lcC_ok, lcB_f, lcB_t, lcB_b, lcA_some, ap_bnd, bd_ok, bd_err, bd_st, ad_t, ad_f, ad_err, ad_b, sq_nx, sq_rt, sq_err, sq_st, ap_ret, ap_some, ap_eC, ap_name, ap_nameB, ap_nil, ap_cons, ap_op, ap_oP, ap_oC, ap_oEq, ap_oEqF, ap_asB, ap_tOf, ap_bAnd, ap_bOr, ap_bNot, ap_ite, ap_eAnd, ap_eNot, ap_eIf, ap_chain, ap_isi, ap_isis, ap_fld, ap_ix, ap_tup, ap_fLst, ap_eL, ap_tupK, ap_tupK', ap_lenK, ap_lenK', ap_absK, ap_intK, ap_intK', ap_call, ap_callR, ap_fCall, ap_make, ap_callN, ap_meth, ap_opR, ap_opRi, ap_opRt, ap_opRl, ap_opRs, ap_neg, ap_negi, ap_negI, ap_oAddi, ap_oAddt, ap_oAdds, ap_oAddl, ap_oMuli, ap_sl, ap_oNone, ap_oSome, ap_seq, ap_if, ap_sRet, ap_sRetF, ap_sRetN, ap_sRetO, ap_drop, ap_nxt, ap_asg, ap_own, ap_cell, ap_par, ap_par3, ap_raise0, ap_self, ap_for, ap_wV, ap_set, ap_gN, ap_gT, ap_gT', ap_gsNil, ap_gsCons, ap_blsK, b_add, b_sub, b_mul, b_fdiv, b_mod, b_addt, c_lt, c_le, c_gt, c_ge, ap_runF, fin_rt, fin_nx, fin_err, ap_runI, fni_nx, fni_rt, fni_err, finC, ap_arity, setS, isD, isDs, tyB, tyNames, fldD, fget, itemP, putD, eqD_int, eqD_bl, eqD_rat, mget, hasF, List.lookup, ma, mb, sz_le]
theorem T4 (n0 : Nat) {n d m e : Int} {a b : Rat} (t : Dt n d m e a b)  (s0 s1 s2 s3 s4 s5 s6 s13 : Sl) (ce) : ((sIf (bOr (tOf (eOp (oEq 6 true) (eOp (opR (Ph (n0 + 10)) 6 oMul) (eFld [0] 0 (eName 11)) (eNameB 8)) (eOp (opR (Ph (n0 + 10)) 6 oMul) (eNameB 7) (eFld [0] 1 (eName 11))))) (bOr (tOf (eOp (oEq 6 true) (eOp (opR (Ph (n0 + 10)) 6 oMul) (eFld [0] 0 (eName 12)) (eNameB 10)) (eOp (opR (Ph (n0 + 10)) 6 oMul) (eNameB 9) (eFld [0] 1 (eName 12))))) (bOr (tOf (eOp (oC .le) (eFld [0] 1 (eName 11)) (eC (.int 0)))) (bOr (tOf (eOp (oC .le) (eFld [0] 1 (eName 12)) (eC (.int 0)))) (bOr (tOf (eOp (oEq 6 true) (eCall (Ph (n0 + 10)) 20 [] (aCons (eFld [0] 0 (eName 11)) (aCons (eFld [0] 1 (eName 11)) (aNil)))) (eC (.int 1)))) (tOf (eOp (oEq 6 true) (eCall (Ph (n0 + 10)) 20 [] (aCons (eFld [0] 0 (eName 12)) (aCons (eFld [0] 1 (eName 12)) (aNil)))) (eC (.int 1))))))))) (sRet (eC (.bl false))) (nxt)) : M TL.Flow) ⟨[s0, s1, s2, s3, s4, s5, s6, .v (.int n), .v (.int d), .v (.int m), .v (.int e), .v (.rat a), .v (.rat b), s13], ce⟩ = .ok .nx ⟨[s0, s1, s2, s3, s4, s5, s6, .v (.int n), .v (.int d), .v (.int m), .v (.int e), .v (.rat a), .v (.rat b), s13], ce⟩ := by
  have k1 : mulOk a.num d = true := mulOk_r (by have := t.d1; have := t.d2; omega)
  have k2 : mulOk n (a.den : Int) = true := mulOk_r (by have := t.ba; omega)
  have k3 : mulOk b.num e = true := mulOk_r (by have := t.e1; have := t.e2; omega)
  have k4 : mulOk m (b.den : Int) = true := mulOk_r (by have := t.bb; omega)
  have k5 : mulOk n e = true := mulOk_r (by have := t.e1; have := t.e2; omega)
  have k6 : mulOk m d = true := mulOk_r (by have := t.d1; have := t.d2; omega)
  have k7 : mulOk d e = true := mulOk_r (by have := t.e1; have := t.e2; omega)
  have k8 : mulOk n m = true := mulOk_r (by have := t.m1; omega)
  have k9 : mulOk d m = true := mulOk_r (by have := t.m1; omega)
  have k10 : mulOk 3 n = true := mulOk_r (by have := t.n1; omega)
  have k11 : mulOk 3 d = true := mulOk_r (by have := t.d1; have := t.d2; omega)
  have hd0 := a.den_nz
  have hb0 := b.den_nz
  have hd1 : ¬ ((a.den : Int) ≤ 0) := by omega
  have hb1 : ¬ ((b.den : Int) ≤ 0) := by omega
  have c1 := t.ca
  have c2 := t.cb
  have g1 := v_lcommon (n0 + 9) a.num a.den (by omega) (Nat.lt_trans t.ba.2 (by decide)) a.reduced ce
  have g2 := v_lcommon (n0 + 9) b.num b.den (by omega) (Nat.lt_trans t.bb.2 (by decide)) b.reduced ce
  simp [cv_v, cv_f, cv_err, cl_f, cl_err, cm_v, cm_err, nt_b, nt_err, st_own, st_cell, ap_stF, it1_some, lcC_ok, lcB_f, lcB_t, lcB_b, lcA_some, ap_bnd, bd_ok, bd_err, bd_st, ad_t, ad_f, ad_err, ad_b, sq_nx, sq_rt, sq_err, sq_st, ap_ret, ap_some, ap_eC, ap_name, ap_nameB, ap_nil, ap_cons, ap_op, ap_oP, ap_oC, ap_oEq, ap_oEqF, ap_asB, ap_tOf, ap_bAnd, ap_bOr, ap_bNot, ap_ite, ap_eAnd, ap_eNot, ap_eIf, ap_chain, ap_isi, ap_isis, ap_fld, ap_ix, ap_tup, ap_fLst, ap_eL, ap_tupK, ap_tupK', ap_lenK, ap_lenK', ap_absK, ap_intK, ap_intK', ap_call, ap_callR, ap_fCall, ap_make, ap_callN, ap_meth, ap_opR, ap_opRi, ap_opRt, ap_opRl, ap_opRs, ap_neg, ap_negi, ap_negI, ap_oAddi, ap_oAddt, ap_oAdds, ap_oAddl, ap_oMuli, ap_sl, ap_oNone, ap_oSome, ap_seq, ap_if, ap_sRet, ap_sRetF, ap_sRetN, ap_sRetO, ap_drop, ap_nxt, ap_asg, ap_own, ap_cell, ap_par, ap_par3, ap_raise0, ap_self, ap_for, ap_wV, ap_set, ap_gN, ap_gT, ap_gT', ap_gsNil, ap_gsCons, ap_blsK, b_add, b_sub, b_mul, b_fdiv, b_mod, b_addt, c_lt, c_le, c_gt, c_ge, ap_runF, fin_rt, fin_nx, fin_err, ap_runI, fni_nx, fni_rt, fni_err, finC, ap_arity, setS, isD, isDs, tyB, tyNames, fldD, fget, itemP, putD, eqD_int, eqD_bl, eqD_rat, mget, hasF, List.lookup, k1, k2, k3, k4, c1, c2, hd0, hb0, hd1, hb1, g1, g2]
theorem T5 (n0 : Nat) {n d m e : Int} {a b : Rat} (t : Dt n d m e a b)  (s0 s1 s2 s3 s4 s5 s6 s13 : Sl) (ce) : ((sIf (bOr (tOf (eOp (oEq 6 true) (eOp (opR (Ph (n0 + 10)) 4 oAdd) (eNameB 11) (eNameB 12)) (eMake (Ph (n0 + 10)) 3 [] (aCons (eOp (opR (Ph (n0 + 10)) 4 oAdd) (eOp (opR (Ph (n0 + 10)) 6 oMul) (eNameB 7) (eNameB 10)) (eOp (opR (Ph (n0 + 10)) 6 oMul) (eNameB 9) (eNameB 8))) (aCons (eOp (opR (Ph (n0 + 10)) 6 oMul) (eNameB 8) (eNameB 10)) (aNil)))))) (bOr (tOf (eOp (oEq 6 true) (eOp (opR (Ph (n0 + 10)) 5 (oP .sub)) (eNameB 11) (eNameB 12)) (eMake (Ph (n0 + 10)) 3 [] (aCons (eOp (opR (Ph (n0 + 10)) 5 (oP .sub)) (eOp (opR (Ph (n0 + 10)) 6 oMul) (eNameB 7) (eNameB 10)) (eOp (opR (Ph (n0 + 10)) 6 oMul) (eNameB 9) (eNameB 8))) (aCons (eOp (opR (Ph (n0 + 10)) 6 oMul) (eNameB 8) (eNameB 10)) (aNil)))))) (bOr (tOf (eOp (oEq 6 true) (eOp (opR (Ph (n0 + 10)) 6 oMul) (eNameB 11) (eNameB 12)) (eMake (Ph (n0 + 10)) 3 [] (aCons (eOp (opR (Ph (n0 + 10)) 6 oMul) (eNameB 7) (eNameB 9)) (aCons (eOp (opR (Ph (n0 + 10)) 6 oMul) (eNameB 8) (eNameB 10)) (aNil)))))) (tOf (eOp (oEq 6 true) (M.bnd (eName 11) (oNeg (Ph (n0 + 10)) 7)) (eMake (Ph (n0 + 10)) 3 [] (aCons (M.bnd (eName 7) (oNeg (Ph (n0 + 10)) 7)) (aCons (eName 8) (aNil))))))))) (sRet (eC (.bl false))) (nxt)) : M TL.Flow) ⟨[s0, s1, s2, s3, s4, s5, s6, .v (.int n), .v (.int d), .v (.int m), .v (.int e), .v (.rat a), .v (.rat b), s13], ce⟩ = .ok .nx ⟨[s0, s1, s2, s3, s4, s5, s6, .v (.int n), .v (.int d), .v (.int m), .v (.int e), .v (.rat a), .v (.rat b), s13], ce⟩ := by
  have k1 : mulOk a.num d = true := mulOk_r (by have := t.d1; have := t.d2; omega)
  have k2 : mulOk n (a.den : Int) = true := mulOk_r (by have := t.ba; omega)
  have k3 : mulOk b.num e = true := mulOk_r (by have := t.e1; have := t.e2; omega)
  have k4 : mulOk m (b.den : Int) = true := mulOk_r (by have := t.bb; omega)
  have k5 : mulOk n e = true := mulOk_r (by have := t.e1; have := t.e2; omega)
  have k6 : mulOk m d = true := mulOk_r (by have := t.d1; have := t.d2; omega)
  have k7 : mulOk d e = true := mulOk_r (by have := t.e1; have := t.e2; omega)
  have k8 : mulOk n m = true := mulOk_r (by have := t.m1; omega)
  have k9 : mulOk d m = true := mulOk_r (by have := t.m1; omega)
  have k10 : mulOk 3 n = true := mulOk_r (by have := t.n1; omega)
  have k11 : mulOk 3 d = true := mulOk_r (by have := t.d1; have := t.d2; omega)
  have hd0 := a.den_nz
  have hb0 := b.den_nz
  have hd1 : ¬ ((a.den : Int) ≤ 0) := by omega
  have hb1 : ¬ ((b.den : Int) ≤ 0) := by omega
  have q1 : (d * e).natAbs < 2 ^ 8100 := Nat.lt_trans (show (d * e).natAbs < 2 ^ 64 by
    rw [Int.natAbs_mul]
    have h1 : d.natAbs < 61 := by have := t.d1; have := t.d2; omega
    have h2 : e.natAbs < 61 := by have := t.e1; have := t.e2; omega
    exact Nat.lt_trans (Nat.mul_lt_mul_of_lt_of_lt h1 h2) (by decide)) (Nat.pow_lt_pow_right (by decide) (by decide))
  have q0 : d * e ≠ 0 := Int.mul_ne_zero t.d0 t.e0
  have ea := v_add (n0 + 7) t.sa t.sb ce
  have es := v_sub (n0 + 7) t.sa t.sb ce
  have em := v_mul (n0 + 7) t.sa t.sb ce
  have en := v_neg (n0 + 7) t.sa ce
  have m1 := v_make (n0 + 8) (n * e + m * d) (d * e) q0 q1 ce
  have m2 := v_make (n0 + 8) (n * e - m * d) (d * e) q0 q1 ce
  have m3 := v_make (n0 + 8) (n * m) (d * e) q0 q1 ce
  have m4 := v_make (n0 + 8) (-n) d t.d0 (Nat.lt_trans (show d.natAbs < 2 ^ 64 by have := t.d1; have := t.d2; omega) (Nat.pow_lt_pow_right (by decide) (by decide))) ce
  rw [t.add] at m1
  rw [t.sub] at m2
  rw [t.mul] at m3
  rw [t.neg] at m4
  simp [cv_v, cv_f, cv_err, cl_f, cl_err, cm_v, cm_err, nt_b, nt_err, st_own, st_cell, ap_stF, it1_some, lcC_ok, lcB_f, lcB_t, lcB_b, lcA_some, ap_bnd, bd_ok, bd_err, bd_st, ad_t, ad_f, ad_err, ad_b, sq_nx, sq_rt, sq_err, sq_st, ap_ret, ap_some, ap_eC, ap_name, ap_nameB, ap_nil, ap_cons, ap_op, ap_oP, ap_oC, ap_oEq, ap_oEqF, ap_asB, ap_tOf, ap_bAnd, ap_bOr, ap_bNot, ap_ite, ap_eAnd, ap_eNot, ap_eIf, ap_chain, ap_isi, ap_isis, ap_fld, ap_ix, ap_tup, ap_fLst, ap_eL, ap_tupK, ap_tupK', ap_lenK, ap_lenK', ap_absK, ap_intK, ap_intK', ap_call, ap_callR, ap_fCall, ap_make, ap_callN, ap_meth, ap_opR, ap_opRi, ap_opRt, ap_opRl, ap_opRs, ap_neg, ap_negi, ap_negI, ap_oAddi, ap_oAddt, ap_oAdds, ap_oAddl, ap_oMuli, ap_sl, ap_oNone, ap_oSome, ap_seq, ap_if, ap_sRet, ap_sRetF, ap_sRetN, ap_sRetO, ap_drop, ap_nxt, ap_asg, ap_own, ap_cell, ap_par, ap_par3, ap_raise0, ap_self, ap_for, ap_wV, ap_set, ap_gN, ap_gT, ap_gT', ap_gsNil, ap_gsCons, ap_blsK, b_add, b_sub, b_mul, b_fdiv, b_mod, b_addt, c_lt, c_le, c_gt, c_ge, ap_runF, fin_rt, fin_nx, fin_err, ap_runI, fni_nx, fni_rt, fni_err, finC, ap_arity, setS, isD, isDs, tyB, tyNames, fldD, fget, itemP, putD, eqD_int, eqD_bl, eqD_rat, mget, hasF, List.lookup, k5, k6, k7, k8, ea, es, em, en, m1, m2, m3, m4]
def toldD (n d m e : Int) : D := if m = 0 then .tup [.str (PySem.Str.ofString "zero"), .non] else .tup [.str (PySem.Str.ofString "told"), .rat (Rat.divInt (n * e) (d * m))]
theorem T6 (n0 : Nat) {n d m e : Int} {a b : Rat} (t : Dt n d m e a b)  (s0 s1 s2 s3 s4 s5 s6 s13 : Sl) (ce) : ((sAsg (gN 2) (eCall (Ph (n0 + 10)) 24 [] (aCons (eC (.fn 22)) (aCons (eTup (aCons (eName 11) (aCons (eName 12) (aNil)))) (aNil))))) : M TL.Flow) ⟨[s0, s1, s2, s3, s4, s5, s6, .v (.int n), .v (.int d), .v (.int m), .v (.int e), .v (.rat a), .v (.rat b), s13], ce⟩ = .ok .nx ⟨[s0, s1, .v (toldD n d m e), s3, s4, s5, s6, .v (.int n), .v (.int d), .v (.int m), .v (.int e), .v (.rat a), .v (.rat b), s13], ce⟩ := by
  have hf : fvs.contains 22 = true := by rfl
  unfold toldD
  by_cases h : m = 0
  · rw [if_pos h]
    have x := td_zero (n0 + 9) hf ce (x_lover0 (n0 + 5) t.sa t.sb (t.m0.mp h) ce)
    simp [cv_v, cv_f, cv_err, cl_f, cl_err, cm_v, cm_err, nt_b, nt_err, st_own, st_cell, ap_stF, it1_some, lcC_ok, lcB_f, lcB_t, lcB_b, lcA_some, ap_bnd, bd_ok, bd_err, bd_st, ad_t, ad_f, ad_err, ad_b, sq_nx, sq_rt, sq_err, sq_st, ap_ret, ap_some, ap_eC, ap_name, ap_nameB, ap_nil, ap_cons, ap_op, ap_oP, ap_oC, ap_oEq, ap_oEqF, ap_asB, ap_tOf, ap_bAnd, ap_bOr, ap_bNot, ap_ite, ap_eAnd, ap_eNot, ap_eIf, ap_chain, ap_isi, ap_isis, ap_fld, ap_ix, ap_tup, ap_fLst, ap_eL, ap_tupK, ap_tupK', ap_lenK, ap_lenK', ap_absK, ap_intK, ap_intK', ap_call, ap_callR, ap_fCall, ap_make, ap_callN, ap_meth, ap_opR, ap_opRi, ap_opRt, ap_opRl, ap_opRs, ap_neg, ap_negi, ap_negI, ap_oAddi, ap_oAddt, ap_oAdds, ap_oAddl, ap_oMuli, ap_sl, ap_oNone, ap_oSome, ap_seq, ap_if, ap_sRet, ap_sRetF, ap_sRetN, ap_sRetO, ap_drop, ap_nxt, ap_asg, ap_own, ap_cell, ap_par, ap_par3, ap_raise0, ap_self, ap_for, ap_wV, ap_set, ap_gN, ap_gT, ap_gT', ap_gsNil, ap_gsCons, ap_blsK, b_add, b_sub, b_mul, b_fdiv, b_mod, b_addt, c_lt, c_le, c_gt, c_ge, ap_runF, fin_rt, fin_nx, fin_err, ap_runI, fni_nx, fni_rt, fni_err, finC, ap_arity, setS, isD, isDs, tyB, tyNames, fldD, fget, itemP, putD, eqD_int, eqD_bl, eqD_rat, mget, hasF, List.lookup, x, sz_le]
  · rw [if_neg h]
    have x := td_ok2 (n0 + 9) hf ce ce (v_lover (n0 + 5) t.sa t.sb (fun z => h (t.m0.mpr z)) ce)
    rw [t.over h] at x
    simp [cv_v, cv_f, cv_err, cl_f, cl_err, cm_v, cm_err, nt_b, nt_err, st_own, st_cell, ap_stF, it1_some, lcC_ok, lcB_f, lcB_t, lcB_b, lcA_some, ap_bnd, bd_ok, bd_err, bd_st, ad_t, ad_f, ad_err, ad_b, sq_nx, sq_rt, sq_err, sq_st, ap_ret, ap_some, ap_eC, ap_name, ap_nameB, ap_nil, ap_cons, ap_op, ap_oP, ap_oC, ap_oEq, ap_oEqF, ap_asB, ap_tOf, ap_bAnd, ap_bOr, ap_bNot, ap_ite, ap_eAnd, ap_eNot, ap_eIf, ap_chain, ap_isi, ap_isis, ap_fld, ap_ix, ap_tup, ap_fLst, ap_eL, ap_tupK, ap_tupK', ap_lenK, ap_lenK', ap_absK, ap_intK, ap_intK', ap_call, ap_callR, ap_fCall, ap_make, ap_callN, ap_meth, ap_opR, ap_opRi, ap_opRt, ap_opRl, ap_opRs, ap_neg, ap_negi, ap_negI, ap_oAddi, ap_oAddt, ap_oAdds, ap_oAddl, ap_oMuli, ap_sl, ap_oNone, ap_oSome, ap_seq, ap_if, ap_sRet, ap_sRetF, ap_sRetN, ap_sRetO, ap_drop, ap_nxt, ap_asg, ap_own, ap_cell, ap_par, ap_par3, ap_raise0, ap_self, ap_for, ap_wV, ap_set, ap_gN, ap_gT, ap_gT', ap_gsNil, ap_gsCons, ap_blsK, b_add, b_sub, b_mul, b_fdiv, b_mod, b_addt, c_lt, c_le, c_gt, c_ge, ap_runF, fin_rt, fin_nx, fin_err, ap_runI, fni_nx, fni_rt, fni_err, finC, ap_arity, setS, isD, isDs, tyB, tyNames, fldD, fget, itemP, putD, eqD_int, eqD_bl, eqD_rat, mget, hasF, List.lookup, x, sz_le]
theorem T7 (n0 : Nat) {n d m e : Int} {a b : Rat} (t : Dt n d m e a b)  (s0 s1 s2 s3 s4 s5 s6 s13 : Sl) (ce) : ((sIf (tOf (eOp (oEq 6 true) (eNameB 2) (eIf (tOf (eOp (oEq 6 false) (eNameB 9) (eC (.int 0)))) (eTup (aCons (eC (.str "zero")) (aCons (eC .non) (aNil)))) (eTup (aCons (eC (.str "told")) (aCons (eMake (Ph (n0 + 10)) 3 [] (aCons (eOp (opR (Ph (n0 + 10)) 6 oMul) (eNameB 7) (eNameB 10)) (aCons (eOp (opR (Ph (n0 + 10)) 6 oMul) (eNameB 8) (eNameB 9)) (aNil)))) (aNil))))))) (sRet (eC (.bl false))) (nxt)) : M TL.Flow) ⟨[s0, s1, .v (toldD n d m e), s3, s4, s5, s6, .v (.int n), .v (.int d), .v (.int m), .v (.int e), .v (.rat a), .v (.rat b), s13], ce⟩ = .ok .nx ⟨[s0, s1, .v (toldD n d m e), s3, s4, s5, s6, .v (.int n), .v (.int d), .v (.int m), .v (.int e), .v (.rat a), .v (.rat b), s13], ce⟩ := by
  have k1 : mulOk a.num d = true := mulOk_r (by have := t.d1; have := t.d2; omega)
  have k2 : mulOk n (a.den : Int) = true := mulOk_r (by have := t.ba; omega)
  have k3 : mulOk b.num e = true := mulOk_r (by have := t.e1; have := t.e2; omega)
  have k4 : mulOk m (b.den : Int) = true := mulOk_r (by have := t.bb; omega)
  have k5 : mulOk n e = true := mulOk_r (by have := t.e1; have := t.e2; omega)
  have k6 : mulOk m d = true := mulOk_r (by have := t.d1; have := t.d2; omega)
  have k7 : mulOk d e = true := mulOk_r (by have := t.e1; have := t.e2; omega)
  have k8 : mulOk n m = true := mulOk_r (by have := t.m1; omega)
  have k9 : mulOk d m = true := mulOk_r (by have := t.m1; omega)
  have k10 : mulOk 3 n = true := mulOk_r (by have := t.n1; omega)
  have k11 : mulOk 3 d = true := mulOk_r (by have := t.d1; have := t.d2; omega)
  have hd0 := a.den_nz
  have hb0 := b.den_nz
  have hd1 : ¬ ((a.den : Int) ≤ 0) := by omega
  have hb1 : ¬ ((b.den : Int) ≤ 0) := by omega
  unfold toldD
  by_cases h : m = 0
  · rw [if_pos h]
    have q := eq2 (er_s 5 (PySem.Str.ofString "zero")) (er_n 5)
    simp [cv_v, cv_f, cv_err, cl_f, cl_err, cm_v, cm_err, nt_b, nt_err, st_own, st_cell, ap_stF, it1_some, lcC_ok, lcB_f, lcB_t, lcB_b, lcA_some, ap_bnd, bd_ok, bd_err, bd_st, ad_t, ad_f, ad_err, ad_b, sq_nx, sq_rt, sq_err, sq_st, ap_ret, ap_some, ap_eC, ap_name, ap_nameB, ap_nil, ap_cons, ap_op, ap_oP, ap_oC, ap_oEq, ap_oEqF, ap_asB, ap_tOf, ap_bAnd, ap_bOr, ap_bNot, ap_ite, ap_eAnd, ap_eNot, ap_eIf, ap_chain, ap_isi, ap_isis, ap_fld, ap_ix, ap_tup, ap_fLst, ap_eL, ap_tupK, ap_tupK', ap_lenK, ap_lenK', ap_absK, ap_intK, ap_intK', ap_call, ap_callR, ap_fCall, ap_make, ap_callN, ap_meth, ap_opR, ap_opRi, ap_opRt, ap_opRl, ap_opRs, ap_neg, ap_negi, ap_negI, ap_oAddi, ap_oAddt, ap_oAdds, ap_oAddl, ap_oMuli, ap_sl, ap_oNone, ap_oSome, ap_seq, ap_if, ap_sRet, ap_sRetF, ap_sRetN, ap_sRetO, ap_drop, ap_nxt, ap_asg, ap_own, ap_cell, ap_par, ap_par3, ap_raise0, ap_self, ap_for, ap_wV, ap_set, ap_gN, ap_gT, ap_gT', ap_gsNil, ap_gsCons, ap_blsK, b_add, b_sub, b_mul, b_fdiv, b_mod, b_addt, c_lt, c_le, c_gt, c_ge, ap_runF, fin_rt, fin_nx, fin_err, ap_runI, fni_nx, fni_rt, fni_err, finC, ap_arity, setS, isD, isDs, tyB, tyNames, fldD, fget, itemP, putD, eqD_int, eqD_bl, eqD_rat, mget, hasF, List.lookup, h, sz_le, q]
  · rw [if_neg h]
    have q1 : (d * m).natAbs < 2 ^ 8100 := Nat.lt_trans (show (d * m).natAbs < 2 ^ 64 by
      rw [Int.natAbs_mul]
      have h1 : d.natAbs < 61 := by have := t.d1; have := t.d2; omega
      have h2 : m.natAbs < 1001 := by have := t.m1; omega
      exact Nat.lt_trans (Nat.mul_lt_mul_of_lt_of_lt h1 h2) (by decide)) (Nat.pow_lt_pow_right (by decide) (by decide))
    have mk := v_make (n0 + 8) (n * e) (d * m) (Int.mul_ne_zero t.d0 h) q1 ce
    have q := eq2 (er_s 5 (PySem.Str.ofString "told")) (er_r 5 (Rat.divInt (n * e) (d * m)))
    simp [cv_v, cv_f, cv_err, cl_f, cl_err, cm_v, cm_err, nt_b, nt_err, st_own, st_cell, ap_stF, it1_some, lcC_ok, lcB_f, lcB_t, lcB_b, lcA_some, ap_bnd, bd_ok, bd_err, bd_st, ad_t, ad_f, ad_err, ad_b, sq_nx, sq_rt, sq_err, sq_st, ap_ret, ap_some, ap_eC, ap_name, ap_nameB, ap_nil, ap_cons, ap_op, ap_oP, ap_oC, ap_oEq, ap_oEqF, ap_asB, ap_tOf, ap_bAnd, ap_bOr, ap_bNot, ap_ite, ap_eAnd, ap_eNot, ap_eIf, ap_chain, ap_isi, ap_isis, ap_fld, ap_ix, ap_tup, ap_fLst, ap_eL, ap_tupK, ap_tupK', ap_lenK, ap_lenK', ap_absK, ap_intK, ap_intK', ap_call, ap_callR, ap_fCall, ap_make, ap_callN, ap_meth, ap_opR, ap_opRi, ap_opRt, ap_opRl, ap_opRs, ap_neg, ap_negi, ap_negI, ap_oAddi, ap_oAddt, ap_oAdds, ap_oAddl, ap_oMuli, ap_sl, ap_oNone, ap_oSome, ap_seq, ap_if, ap_sRet, ap_sRetF, ap_sRetN, ap_sRetO, ap_drop, ap_nxt, ap_asg, ap_own, ap_cell, ap_par, ap_par3, ap_raise0, ap_self, ap_for, ap_wV, ap_set, ap_gN, ap_gT, ap_gT', ap_gsNil, ap_gsCons, ap_blsK, b_add, b_sub, b_mul, b_fdiv, b_mod, b_addt, c_lt, c_le, c_gt, c_ge, ap_runF, fin_rt, fin_nx, fin_err, ap_runI, fni_nx, fni_rt, fni_err, finC, ap_arity, setS, isD, isDs, tyB, tyNames, fldD, fget, itemP, putD, eqD_int, eqD_bl, eqD_rat, mget, hasF, List.lookup, h, k5, k9, mk, sz_le, q]
theorem T8 (n0 : Nat) {n d m e : Int} {a b : Rat} (t : Dt n d m e a b)  (s0 s1 s2 s3 s4 s5 s6 s13 : Sl) (ce) : ((sIf (bOr (bNot (tOf (eCall (Ph (n0 + 10)) 19 [] (aCons (eMeth (Ph (n0 + 10)) [(0, 11)] 4 (eName 11) aNil) (aCons (eIf (tOf (eOp (oC .gt) (eNameB 7) (eC (.int 0)))) (eC (.int 1)) (eIf (tOf (eOp (oC .lt) (eNameB 7) (eC (.int 0)))) (M.bnd (eC (.int 1)) oNegI) (eC (.int 0)))) (aNil)))))) (bOr (bNot (tOf (eCall (Ph (n0 + 10)) 17 [] (aCons (eMeth (Ph (n0 + 10)) [(0, 12)] 5 (eName 11) aNil) (aCons (eOp (oEq 6 false) (eOp (oP .mod) (eNameB 7) (eNameB 8)) (eC (.int 0))) (aNil)))))) (bNot (tOf (eCall (Ph (n0 + 10)) 17 [] (aCons (eOp (oEq 6 false) (eNameB 11) (eNameB 12)) (aCons (eOp (oEq 6 false) (eOp (opR (Ph (n0 + 10)) 6 oMul) (eNameB 7) (eNameB 10)) (eOp (opR (Ph (n0 + 10)) 6 oMul) (eNameB 9) (eNameB 8))) (aNil)))))))) (sRet (eC (.bl false))) (nxt)) : M TL.Flow) ⟨[s0, s1, s2, s3, s4, s5, s6, .v (.int n), .v (.int d), .v (.int m), .v (.int e), .v (.rat a), .v (.rat b), s13], ce⟩ = .ok .nx ⟨[s0, s1, s2, s3, s4, s5, s6, .v (.int n), .v (.int d), .v (.int m), .v (.int e), .v (.rat a), .v (.rat b), s13], ce⟩ := by
  have k1 : mulOk a.num d = true := mulOk_r (by have := t.d1; have := t.d2; omega)
  have k2 : mulOk n (a.den : Int) = true := mulOk_r (by have := t.ba; omega)
  have k3 : mulOk b.num e = true := mulOk_r (by have := t.e1; have := t.e2; omega)
  have k4 : mulOk m (b.den : Int) = true := mulOk_r (by have := t.bb; omega)
  have k5 : mulOk n e = true := mulOk_r (by have := t.e1; have := t.e2; omega)
  have k6 : mulOk m d = true := mulOk_r (by have := t.d1; have := t.d2; omega)
  have k7 : mulOk d e = true := mulOk_r (by have := t.e1; have := t.e2; omega)
  have k8 : mulOk n m = true := mulOk_r (by have := t.m1; omega)
  have k9 : mulOk d m = true := mulOk_r (by have := t.m1; omega)
  have k10 : mulOk 3 n = true := mulOk_r (by have := t.n1; omega)
  have k11 : mulOk 3 d = true := mulOk_r (by have := t.d1; have := t.d2; omega)
  have hd0 := a.den_nz
  have hb0 := b.den_nz
  have hd1 : ¬ ((a.den : Int) ≤ 0) := by omega
  have hb1 : ¬ ((b.den : Int) ≤ 0) := by omega
  have sg := v_sign (n0 + 9) (p := a) ce
  rw [t.sg] at sg
  have wh := v_whole (n0 + 9) a ce
  have w2 := t.whole
  have d0 := t.d0
  have eab := t.eqab
  have sy : ∀ x : Bool, Ph (n0 + 10) 17 [.bl x, .bl x] ce = .ok (.v (.bl true)) ce := fun x => by rw [v_says2 (n0 + 9) x x ce]; simp
  have si : ∀ i : Int, Ph (n0 + 10) 19 [.int i, .int i] ce = .ok (.v (.bl true)) ce := fun i => by rw [v_same_int (n0 + 8) i i ce]; simp
  by_cases p1 : 0 < n
  · rw [if_pos p1] at sg
    simp [cv_v, cv_f, cv_err, cl_f, cl_err, cm_v, cm_err, nt_b, nt_err, st_own, st_cell, ap_stF, it1_some, lcC_ok, lcB_f, lcB_t, lcB_b, lcA_some, ap_bnd, bd_ok, bd_err, bd_st, ad_t, ad_f, ad_err, ad_b, sq_nx, sq_rt, sq_err, sq_st, ap_ret, ap_some, ap_eC, ap_name, ap_nameB, ap_nil, ap_cons, ap_op, ap_oP, ap_oC, ap_oEq, ap_oEqF, ap_asB, ap_tOf, ap_bAnd, ap_bOr, ap_bNot, ap_ite, ap_eAnd, ap_eNot, ap_eIf, ap_chain, ap_isi, ap_isis, ap_fld, ap_ix, ap_tup, ap_fLst, ap_eL, ap_tupK, ap_tupK', ap_lenK, ap_lenK', ap_absK, ap_intK, ap_intK', ap_call, ap_callR, ap_fCall, ap_make, ap_callN, ap_meth, ap_opR, ap_opRi, ap_opRt, ap_opRl, ap_opRs, ap_neg, ap_negi, ap_negI, ap_oAddi, ap_oAddt, ap_oAdds, ap_oAddl, ap_oMuli, ap_sl, ap_oNone, ap_oSome, ap_seq, ap_if, ap_sRet, ap_sRetF, ap_sRetN, ap_sRetO, ap_drop, ap_nxt, ap_asg, ap_own, ap_cell, ap_par, ap_par3, ap_raise0, ap_self, ap_for, ap_wV, ap_set, ap_gN, ap_gT, ap_gT', ap_gsNil, ap_gsCons, ap_blsK, b_add, b_sub, b_mul, b_fdiv, b_mod, b_addt, c_lt, c_le, c_gt, c_ge, ap_runF, fin_rt, fin_nx, fin_err, ap_runI, fni_nx, fni_rt, fni_err, finC, ap_arity, setS, isD, isDs, tyB, tyNames, fldD, fget, itemP, putD, eqD_int, eqD_bl, eqD_rat, mget, hasF, List.lookup, sg, wh, w2, d0, eab, sy, si, k5, k6, p1]
  · rw [if_neg p1] at sg
    by_cases p2 : n < 0
    · rw [if_pos p2] at sg
      simp [cv_v, cv_f, cv_err, cl_f, cl_err, cm_v, cm_err, nt_b, nt_err, st_own, st_cell, ap_stF, it1_some, lcC_ok, lcB_f, lcB_t, lcB_b, lcA_some, ap_bnd, bd_ok, bd_err, bd_st, ad_t, ad_f, ad_err, ad_b, sq_nx, sq_rt, sq_err, sq_st, ap_ret, ap_some, ap_eC, ap_name, ap_nameB, ap_nil, ap_cons, ap_op, ap_oP, ap_oC, ap_oEq, ap_oEqF, ap_asB, ap_tOf, ap_bAnd, ap_bOr, ap_bNot, ap_ite, ap_eAnd, ap_eNot, ap_eIf, ap_chain, ap_isi, ap_isis, ap_fld, ap_ix, ap_tup, ap_fLst, ap_eL, ap_tupK, ap_tupK', ap_lenK, ap_lenK', ap_absK, ap_intK, ap_intK', ap_call, ap_callR, ap_fCall, ap_make, ap_callN, ap_meth, ap_opR, ap_opRi, ap_opRt, ap_opRl, ap_opRs, ap_neg, ap_negi, ap_negI, ap_oAddi, ap_oAddt, ap_oAdds, ap_oAddl, ap_oMuli, ap_sl, ap_oNone, ap_oSome, ap_seq, ap_if, ap_sRet, ap_sRetF, ap_sRetN, ap_sRetO, ap_drop, ap_nxt, ap_asg, ap_own, ap_cell, ap_par, ap_par3, ap_raise0, ap_self, ap_for, ap_wV, ap_set, ap_gN, ap_gT, ap_gT', ap_gsNil, ap_gsCons, ap_blsK, b_add, b_sub, b_mul, b_fdiv, b_mod, b_addt, c_lt, c_le, c_gt, c_ge, ap_runF, fin_rt, fin_nx, fin_err, ap_runI, fni_nx, fni_rt, fni_err, finC, ap_arity, setS, isD, isDs, tyB, tyNames, fldD, fget, itemP, putD, eqD_int, eqD_bl, eqD_rat, mget, hasF, List.lookup, sg, wh, w2, d0, eab, sy, si, k5, k6, p1, p2]
    · rw [if_neg p2] at sg
      simp [cv_v, cv_f, cv_err, cl_f, cl_err, cm_v, cm_err, nt_b, nt_err, st_own, st_cell, ap_stF, it1_some, lcC_ok, lcB_f, lcB_t, lcB_b, lcA_some, ap_bnd, bd_ok, bd_err, bd_st, ad_t, ad_f, ad_err, ad_b, sq_nx, sq_rt, sq_err, sq_st, ap_ret, ap_some, ap_eC, ap_name, ap_nameB, ap_nil, ap_cons, ap_op, ap_oP, ap_oC, ap_oEq, ap_oEqF, ap_asB, ap_tOf, ap_bAnd, ap_bOr, ap_bNot, ap_ite, ap_eAnd, ap_eNot, ap_eIf, ap_chain, ap_isi, ap_isis, ap_fld, ap_ix, ap_tup, ap_fLst, ap_eL, ap_tupK, ap_tupK', ap_lenK, ap_lenK', ap_absK, ap_intK, ap_intK', ap_call, ap_callR, ap_fCall, ap_make, ap_callN, ap_meth, ap_opR, ap_opRi, ap_opRt, ap_opRl, ap_opRs, ap_neg, ap_negi, ap_negI, ap_oAddi, ap_oAddt, ap_oAdds, ap_oAddl, ap_oMuli, ap_sl, ap_oNone, ap_oSome, ap_seq, ap_if, ap_sRet, ap_sRetF, ap_sRetN, ap_sRetO, ap_drop, ap_nxt, ap_asg, ap_own, ap_cell, ap_par, ap_par3, ap_raise0, ap_self, ap_for, ap_wV, ap_set, ap_gN, ap_gT, ap_gT', ap_gsNil, ap_gsCons, ap_blsK, b_add, b_sub, b_mul, b_fdiv, b_mod, b_addt, c_lt, c_le, c_gt, c_ge, ap_runF, fin_rt, fin_nx, fin_err, ap_runI, fni_nx, fni_rt, fni_err, finC, ap_arity, setS, isD, isDs, tyB, tyNames, fldD, fget, itemP, putD, eqD_int, eqD_bl, eqD_rat, mget, hasF, List.lookup, sg, wh, w2, d0, eab, sy, si, k5, k6, p1, p2]
theorem T9 (n0 : Nat) {n d m e : Int} {a b : Rat} (t : Dt n d m e a b)  (s0 s1 s2 s3 s4 s5 s6 s13 : Sl) (ce) : ((sAsg (gN 3) (eIf (tOf (eOp (oEq 6 false) (eFld [0] 1 (eName 11)) (eC (.int 1)))) (M.bnd (eFld [0] 0 (eName 11)) (strO (Ph (n0 + 10)) 9)) (eOp (opR (Ph (n0 + 10)) 4 oAdd) (eOp (opR (Ph (n0 + 10)) 4 oAdd) (M.bnd (eFld [0] 0 (eName 11)) (strO (Ph (n0 + 10)) 9)) (eC (.str "/"))) (M.bnd (eFld [0] 1 (eName 11)) (strO (Ph (n0 + 10)) 9))))) : M TL.Flow) ⟨[s0, s1, s2, s3, s4, s5, s6, .v (.int n), .v (.int d), .v (.int m), .v (.int e), .v (.rat a), .v (.rat b), s13], ce⟩ = .ok .nx ⟨[s0, s1, s2, .v (.str (tx (strR a))), s4, s5, s6, .v (.int n), .v (.int d), .v (.int m), .v (.int e), .v (.rat a), .v (.rat b), s13], ce⟩ := by
  have ha1 : a.num.natAbs < 10 ^ 20 := Nat.lt_trans t.ba.1 (by decide)
  have ha2 : a.den < 10 ^ 20 := Nat.lt_trans t.ba.2 (by decide)
  have l1 := log_lt ha1
  have l2 : (a.den : Int).natAbs.log2 < 1920 := by rw [Int.natAbs_natCast]; exact log_lt ha2
  have r1 := strI_len (k := 4) (by decide) (Nat.lt_trans t.ba.1 (by decide))
  have r2 : (numL a.den).length ≤ 4 := numL_len (by decide) (Nat.lt_trans t.ba.2 (by decide))
  have e0 : strI (a.den : Int) = numL a.den := by unfold strI; rw [if_neg (by omega), Int.natAbs_natCast]
  have s1 : sizeOk ((tx (strI a.num)).length + (tx [47]).length) = true := sz_le (by rw [tx_len, tx_len]; simp; omega)
  have s2 : sizeOk ((tx (strI a.num ++ [47])).length + (tx (numL a.den)).length) = true := sz_le (by rw [tx_len, tx_len]; simp; omega)
  have f2 := fun c => so_i (Φ := Ph (n0 + 10)) (f := 9) (c := c) l2
  rw [e0] at f2
  have e1 := sl_eq
  have b1 : binP .add (.str (tx (strI a.num))) (.str (tx [47])) = some (.str (tx (strI a.num ++ [47]))) := by
    show (if sizeOk ((tx (strI a.num)).length + (tx [47]).length) = true then some (D.str (tx (strI a.num) ++ tx [47])) else none) = _
    rw [if_pos s1, tx_app]
  have b2 : binP .add (.str (tx (strI a.num ++ [47]))) (.str (tx (numL a.den))) = some (.str (tx (strI a.num ++ 47 :: numL a.den))) := by
    show (if sizeOk ((tx (strI a.num ++ [47])).length + (tx (numL a.den)).length) = true then some (D.str (tx (strI a.num ++ [47]) ++ tx (numL a.den))) else none) = _
    rw [if_pos s2, tx_app, List.append_assoc]; rfl
  by_cases hd : a.den = 1
  · simp [cv_v, cv_f, cv_err, cl_f, cl_err, cm_v, cm_err, nt_b, nt_err, st_own, st_cell, ap_stF, it1_some, lcC_ok, lcB_f, lcB_t, lcB_b, lcA_some, ap_bnd, bd_ok, bd_err, bd_st, ad_t, ad_f, ad_err, ad_b, sq_nx, sq_rt, sq_err, sq_st, ap_ret, ap_some, ap_eC, ap_name, ap_nameB, ap_nil, ap_cons, ap_op, ap_oP, ap_oC, ap_oEq, ap_oEqF, ap_asB, ap_tOf, ap_bAnd, ap_bOr, ap_bNot, ap_ite, ap_eAnd, ap_eNot, ap_eIf, ap_chain, ap_isi, ap_isis, ap_fld, ap_ix, ap_tup, ap_fLst, ap_eL, ap_tupK, ap_tupK', ap_lenK, ap_lenK', ap_absK, ap_intK, ap_intK', ap_call, ap_callR, ap_fCall, ap_make, ap_callN, ap_meth, ap_opR, ap_opRi, ap_opRt, ap_opRl, ap_opRs, ap_neg, ap_negi, ap_negI, ap_oAddi, ap_oAddt, ap_oAdds, ap_oAddl, ap_oMuli, ap_sl, ap_oNone, ap_oSome, ap_seq, ap_if, ap_sRet, ap_sRetF, ap_sRetN, ap_sRetO, ap_drop, ap_nxt, ap_asg, ap_own, ap_cell, ap_par, ap_par3, ap_raise0, ap_self, ap_for, ap_wV, ap_set, ap_gN, ap_gT, ap_gT', ap_gsNil, ap_gsCons, ap_blsK, b_add, b_sub, b_mul, b_fdiv, b_mod, b_addt, c_lt, c_le, c_gt, c_ge, ap_runF, fin_rt, fin_nx, fin_err, ap_runI, fni_nx, fni_rt, fni_err, finC, ap_arity, setS, isD, isDs, tyB, tyNames, fldD, fget, itemP, putD, eqD_int, eqD_bl, eqD_rat, mget, hasF, List.lookup, hd, so_i l1, strR]
  · have hd' : ¬ ((a.den : Int) = 1) := by omega
    simp [cv_v, cv_f, cv_err, cl_f, cl_err, cm_v, cm_err, nt_b, nt_err, st_own, st_cell, ap_stF, it1_some, lcC_ok, lcB_f, lcB_t, lcB_b, lcA_some, ap_bnd, bd_ok, bd_err, bd_st, ad_t, ad_f, ad_err, ad_b, sq_nx, sq_rt, sq_err, sq_st, ap_ret, ap_some, ap_eC, ap_name, ap_nameB, ap_nil, ap_cons, ap_op, ap_oP, ap_oC, ap_oEq, ap_oEqF, ap_asB, ap_tOf, ap_bAnd, ap_bOr, ap_bNot, ap_ite, ap_eAnd, ap_eNot, ap_eIf, ap_chain, ap_isi, ap_isis, ap_fld, ap_ix, ap_tup, ap_fLst, ap_eL, ap_tupK, ap_tupK', ap_lenK, ap_lenK', ap_absK, ap_intK, ap_intK', ap_call, ap_callR, ap_fCall, ap_make, ap_callN, ap_meth, ap_opR, ap_opRi, ap_opRt, ap_opRl, ap_opRs, ap_neg, ap_negi, ap_negI, ap_oAddi, ap_oAddt, ap_oAdds, ap_oAddl, ap_oMuli, ap_sl, ap_oNone, ap_oSome, ap_seq, ap_if, ap_sRet, ap_sRetF, ap_sRetN, ap_sRetO, ap_drop, ap_nxt, ap_asg, ap_own, ap_cell, ap_par, ap_par3, ap_raise0, ap_self, ap_for, ap_wV, ap_set, ap_gN, ap_gT, ap_gT', ap_gsNil, ap_gsCons, ap_blsK, b_add, b_sub, b_mul, b_fdiv, b_mod, b_addt, c_lt, c_le, c_gt, c_ge, ap_runF, fin_rt, fin_nx, fin_err, ap_runI, fni_nx, fni_rt, fni_err, finC, ap_arity, setS, isD, isDs, tyB, tyNames, fldD, fget, itemP, putD, eqD_int, eqD_bl, eqD_rat, mget, hasF, List.lookup, hd, hd', so_i l1, f2, e1, b1, b2, strR]
theorem T10 (n0 : Nat) {n d m e : Int} {a b : Rat} (t : Dt n d m e a b)  (s0 s1 s2 s3 s4 s5 s6 s13 : Sl) (ce) : ((sIf (bOr (tOf (eOp (oEq 6 true) (M.bnd (eName 11) (strO (Ph (n0 + 10)) 9)) (eNameB 3))) (bOr (tOf (eOp (oEq 6 true) (eCall (Ph (n0 + 10)) 14 [] (aCons (eName 3) (aNil))) (eNameB 11))) (bOr (tOf (eOp (oEq 6 false) (eNameB 11) (eNameB 7))) (bOr (tOf (eOp (oEq 6 false) (eNameB 11) (eNameB 3))) (bNot (tOf (eOp (oEq 6 false) (eNameB 11) (eMake (Ph (n0 + 10)) 3 [] (aCons (eOp (opR (Ph (n0 + 10)) 6 oMul) (eC (.int 3)) (eNameB 7)) (aCons (eOp (opR (Ph (n0 + 10)) 6 oMul) (eC (.int 3)) (eNameB 8)) (aNil))))))))))) (sRet (eC (.bl false))) (nxt)) : M TL.Flow) ⟨[s0, s1, s2, .v (.str (tx (strR a))), s4, s5, s6, .v (.int n), .v (.int d), .v (.int m), .v (.int e), .v (.rat a), .v (.rat b), s13], ce⟩ = .ok .nx ⟨[s0, s1, s2, .v (.str (tx (strR a))), s4, s5, s6, .v (.int n), .v (.int d), .v (.int m), .v (.int e), .v (.rat a), .v (.rat b), s13], ce⟩ := by
  have k1 : mulOk a.num d = true := mulOk_r (by have := t.d1; have := t.d2; omega)
  have k2 : mulOk n (a.den : Int) = true := mulOk_r (by have := t.ba; omega)
  have k3 : mulOk b.num e = true := mulOk_r (by have := t.e1; have := t.e2; omega)
  have k4 : mulOk m (b.den : Int) = true := mulOk_r (by have := t.bb; omega)
  have k5 : mulOk n e = true := mulOk_r (by have := t.e1; have := t.e2; omega)
  have k6 : mulOk m d = true := mulOk_r (by have := t.d1; have := t.d2; omega)
  have k7 : mulOk d e = true := mulOk_r (by have := t.e1; have := t.e2; omega)
  have k8 : mulOk n m = true := mulOk_r (by have := t.m1; omega)
  have k9 : mulOk d m = true := mulOk_r (by have := t.m1; omega)
  have k10 : mulOk 3 n = true := mulOk_r (by have := t.n1; omega)
  have k11 : mulOk 3 d = true := mulOk_r (by have := t.d1; have := t.d2; omega)
  have hd0 := a.den_nz
  have hb0 := b.den_nz
  have hd1 : ¬ ((a.den : Int) ≤ 0) := by omega
  have hb1 : ¬ ((b.den : Int) ≤ 0) := by omega
  have lr : (strR a).length ≤ 10 := by
    have r1 := strI_len (k := 4) (by decide) (Nat.lt_trans t.ba.1 (by decide))
    have r2 : (numL a.den).length ≤ 4 := numL_len (by decide) (Nat.lt_trans t.ba.2 (by decide))
    unfold strR
    split <;> simp <;> omega
  have st := v_str (n0 + 9) (q := a) (Nat.lt_trans t.ba.1 (by decide)) (Nat.lt_trans t.ba.2 (by decide)) ce
  have rd := v_read (n0 + 6) (l := strR a) (by omega) ce
  rw [rd_str a] at rd
  have mk := v_make (n0 + 8) (3 * n) (3 * d) (by have := t.d1; omega) (Nat.lt_trans (show (3 * d).natAbs < 2 ^ 64 by have := t.d1; have := t.d2; omega) (Nat.pow_lt_pow_right (by decide) (by decide))) ce
  rw [t.tri] at mk
  have q1 : eqD 6 (.rat a) (.int n) = some false := rfl
  have q2 : eqD 6 (.rat a) (.str (tx (strR a))) = some false := rfl
  unfold rdO at rd
  simp [cv_v, cv_f, cv_err, cl_f, cl_err, cm_v, cm_err, nt_b, nt_err, st_own, st_cell, ap_stF, it1_some, lcC_ok, lcB_f, lcB_t, lcB_b, lcA_some, ap_bnd, bd_ok, bd_err, bd_st, ad_t, ad_f, ad_err, ad_b, sq_nx, sq_rt, sq_err, sq_st, ap_ret, ap_some, ap_eC, ap_name, ap_nameB, ap_nil, ap_cons, ap_op, ap_oP, ap_oC, ap_oEq, ap_oEqF, ap_asB, ap_tOf, ap_bAnd, ap_bOr, ap_bNot, ap_ite, ap_eAnd, ap_eNot, ap_eIf, ap_chain, ap_isi, ap_isis, ap_fld, ap_ix, ap_tup, ap_fLst, ap_eL, ap_tupK, ap_tupK', ap_lenK, ap_lenK', ap_absK, ap_intK, ap_intK', ap_call, ap_callR, ap_fCall, ap_make, ap_callN, ap_meth, ap_opR, ap_opRi, ap_opRt, ap_opRl, ap_opRs, ap_neg, ap_negi, ap_negI, ap_oAddi, ap_oAddt, ap_oAdds, ap_oAddl, ap_oMuli, ap_sl, ap_oNone, ap_oSome, ap_seq, ap_if, ap_sRet, ap_sRetF, ap_sRetN, ap_sRetO, ap_drop, ap_nxt, ap_asg, ap_own, ap_cell, ap_par, ap_par3, ap_raise0, ap_self, ap_for, ap_wV, ap_set, ap_gN, ap_gT, ap_gT', ap_gsNil, ap_gsCons, ap_blsK, b_add, b_sub, b_mul, b_fdiv, b_mod, b_addt, c_lt, c_le, c_gt, c_ge, ap_runF, fin_rt, fin_nx, fin_err, ap_runI, fni_nx, fni_rt, fni_err, finC, ap_arity, setS, isD, isDs, tyB, tyNames, fldD, fget, itemP, putD, eqD_int, eqD_bl, eqD_rat, mget, hasF, List.lookup, so_r, st, sb_ok, rd, mk, eqD_strs, q1, q2, k10, k11]

end Lw

end
section
set_option Elab.async false
set_option linter.all false
set_option maxRecDepth 100000
set_option maxHeartbeats 0
set_option exponentiation.threshold 10000
namespace Lw
open TL Pl

theorem ap_oMuls {z : PySem.Str} {b : D} {c : Cfg} : oMul (.str z) b c = M.opt (mulP (.str z) b) c := id rfl
def big : PySem.Str := TL.strRep 401 (PySem.Str.ofString "1")
theorem mul_big : mulP (.str (PySem.Str.ofString "1")) (.int 401) = some (.str big) := by
  unfold big mulP
  dsimp only
  rw [if_pos (by decide)]
theorem big_len : big.length = 401 := by
  unfold big
  rw [TL.strRep_len]
  decide
def TextD : D := .tup [.str (PySem.Str.ofString "text"), .bl true]
theorem ofS {s : String} {l : List Nat} (h : PySem.Str.ofString s = tx l) : PySem.Str.ofString s = tx l := h
def bads : List D := [.str (PySem.Str.ofString ""), .str (PySem.Str.ofString "1/"), .str (PySem.Str.ofString "/2"), .str (PySem.Str.ofString "2/4"), .str (PySem.Str.ofString "+1"), .str (PySem.Str.ofString "01"), .str (PySem.Str.ofString "1/1"), .str (PySem.Str.ofString "-0"), .str (PySem.Str.ofString "1/0"), .str (PySem.Str.ofString " 1"), .str (PySem.Str.ofString "1.5"), .non, .int 5, .str (PySem.Str.ofString "1/-2"), .str (PySem.Str.ofString "--1"), .str big]
theorem bad_s (n0 : Nat) {s : String} {l : List Nat} (h : PySem.Str.ofString s = tx l) (hl : l.length ≤ 12) (hr : rdR l = none) (ce) : Ph (n0 + 10) 24 [.fn 14, .tup [.str (PySem.Str.ofString s)]] ce = .ok (.v TextD) ce := by
  rw [h]
  exact td_text (n0 + 9) rfl ce (x_read (n0 + 5) hl hr ce)
theorem bads_ok (n0 : Nat) : ∀ x ∈ bads, ∀ ce, Ph (n0 + 10) 24 [.fn 14, .tup [x]] ce = .ok (.v TextD) ce := by
  intro x hx ce
  simp only [bads, List.mem_cons, List.not_mem_nil, or_false] at hx
  rcases hx with rfl | rfl | rfl | rfl | rfl | rfl | rfl | rfl | rfl | rfl | rfl | rfl | rfl | rfl | rfl | rfl
  · exact bad_s n0 (l := []) (by decide) (by decide) (by decide +kernel) ce
  · exact bad_s n0 (l := [49, 47]) (by decide) (by decide) (by decide +kernel) ce
  · exact bad_s n0 (l := [47, 50]) (by decide) (by decide) (by decide +kernel) ce
  · exact bad_s n0 (l := [50, 47, 52]) (by decide) (by decide) (by decide +kernel) ce
  · exact bad_s n0 (l := [43, 49]) (by decide) (by decide) (by decide +kernel) ce
  · exact bad_s n0 (l := [48, 49]) (by decide) (by decide) (by decide +kernel) ce
  · exact bad_s n0 (l := [49, 47, 49]) (by decide) (by decide) (by decide +kernel) ce
  · exact bad_s n0 (l := [45, 48]) (by decide) (by decide) (by decide +kernel) ce
  · exact bad_s n0 (l := [49, 47, 48]) (by decide) (by decide) (by decide +kernel) ce
  · exact bad_s n0 (l := [32, 49]) (by decide) (by decide) (by decide +kernel) ce
  · exact bad_s n0 (l := [49, 46, 53]) (by decide) (by decide) (by decide +kernel) ce
  · exact td_text (n0 + 9) rfl ce (x_readN (n0 + 8) ce)
  · exact td_text (n0 + 9) rfl ce (x_readI (n0 + 8) 5 ce)
  · exact bad_s n0 (l := [49, 47, 45, 50]) (by decide) (by decide) (by decide +kernel) ce
  · exact bad_s n0 (l := [45, 45, 49]) (by decide) (by decide) (by decide +kernel) ce
  · exact td_text (n0 + 9) rfl ce (x_readL (n0 + 8) big (by rw [big_len]; decide) (by rw [big_len]; decide) ce)
theorem er_t : eqD 6 TextD TextD = some true := eq2 (er_s 5 _) (er_b 5 _)
theorem T11 (n0 : Nat) {n d m e : Int} {a b : Rat} (t : Dt n d m e a b) (s0 s1 s2 s3 s4 s5 s6 s13 : Sl) (ce) : ∃ t4, ((sFor (wV (eTup (aCons (eC (.str "")) (aCons (eC (.str "1/")) (aCons (eC (.str "/2")) (aCons (eC (.str "2/4")) (aCons (eC (.str "+1")) (aCons (eC (.str "01")) (aCons (eC (.str "1/1")) (aCons (eC (.str "-0")) (aCons (eC (.str "1/0")) (aCons (eC (.str " 1")) (aCons (eC (.str "1.5")) (aCons (eC .non) (aCons (eC (.int 5)) (aCons (eC (.str "1/-2")) (aCons (eC (.str "--1")) (aCons (eOp (opR (Ph (n0 + 10)) 6 oMul) (eC (.str "1")) (eC (.int 401))) (aNil))))))))))))))))))) (gN 4) (sIf (tOf (eOp (oEq 6 true) (eCall (Ph (n0 + 10)) 24 [] (aCons (eC (.fn 14)) (aCons (eTup (aCons (eName 4) (aNil))) (aNil)))) (eTup (aCons (eC (.str "text")) (aCons (eC (.bl true)) (aNil)))))) (sRet (eC (.bl false))) (nxt))) : M TL.Flow) ⟨[s0, s1, s2, s3, s4, s5, s6, .v (.int n), .v (.int d), .v (.int m), .v (.int e), .v (.rat a), .v (.rat b), s13], ce⟩ = .ok .nx ⟨[s0, s1, s2, s3, t4, s5, s6, .v (.int n), .v (.int d), .v (.int m), .v (.int e), .v (.rat a), .v (.rat b), s13], ce⟩ := by
  have hq := for_map (k := gN 4) (b := ((sIf (tOf (eOp (oEq 6 true) (eCall (Ph (n0 + 10)) 24 [] (aCons (eC (.fn 14)) (aCons (eTup (aCons (eName 4) (aNil))) (aNil)))) (eTup (aCons (eC (.str "text")) (aCons (eC (.bl true)) (aNil)))))) (sRet (eC (.bl false))) (nxt)) : M TL.Flow)) bads id (fun (_ : Unit) cf => ∃ t4, cf = ⟨[s0, s1, s2, s3, t4, s5, s6, .v (.int n), .v (.int d), .v (.int m), .v (.int e), .v (.rat a), .v (.rat b), s13], ce⟩) (fun _ _ => ()) () (c := ⟨[s0, s1, s2, s3, s4, s5, s6, .v (.int n), .v (.int d), .v (.int m), .v (.int e), .v (.rat a), .v (.rat b), s13], ce⟩) ⟨s4, rfl⟩ fun pre x post cf hp ⟨t4, hc⟩ => by
    subst hc
    have hx : x ∈ bads := by rw [hp]; simp
    have h := bads_ok n0 x hx ce
    have q := er_t
    generalize hT : TextD = T at h q
    have hT' : (.tup [.str (PySem.Str.ofString "text"), .bl true] : D) = T := hT
    simp [cv_v, cv_f, cv_err, cl_f, cl_err, cm_v, cm_err, nt_b, nt_err, st_own, st_cell, ap_stF, it1_some, lcC_ok, lcB_f, lcB_t, lcB_b, lcA_some, ap_bnd, bd_ok, bd_err, bd_st, ad_t, ad_f, ad_err, ad_b, sq_nx, sq_rt, sq_err, sq_st, ap_ret, ap_some, ap_eC, ap_name, ap_nameB, ap_nil, ap_cons, ap_op, ap_oP, ap_oC, ap_oEq, ap_oEqF, ap_asB, ap_tOf, ap_bAnd, ap_bOr, ap_bNot, ap_ite, ap_eAnd, ap_eNot, ap_eIf, ap_chain, ap_isi, ap_isis, ap_fld, ap_ix, ap_tup, ap_fLst, ap_eL, ap_tupK, ap_tupK', ap_lenK, ap_lenK', ap_absK, ap_intK, ap_intK', ap_call, ap_callR, ap_fCall, ap_make, ap_callN, ap_meth, ap_opR, ap_opRi, ap_opRt, ap_opRl, ap_opRs, ap_neg, ap_negi, ap_negI, ap_oAddi, ap_oAddt, ap_oAdds, ap_oAddl, ap_oMuli, ap_sl, ap_oNone, ap_oSome, ap_seq, ap_if, ap_sRet, ap_sRetF, ap_sRetN, ap_sRetO, ap_drop, ap_nxt, ap_asg, ap_own, ap_cell, ap_par, ap_par3, ap_raise0, ap_self, ap_for, ap_wV, ap_set, ap_gN, ap_gT, ap_gT', ap_gsNil, ap_gsCons, ap_blsK, b_add, b_sub, b_mul, b_fdiv, b_mod, b_addt, c_lt, c_le, c_gt, c_ge, ap_runF, fin_rt, fin_nx, fin_err, ap_runI, fni_nx, fni_rt, fni_err, finC, ap_arity, setS, isD, isDs, tyB, tyNames, fldD, fget, itemP, putD, eqD_int, eqD_bl, eqD_rat, mget, hasF, List.lookup, it1, fs_nx, h, sz_le, q, hT']
  cases hq with
  | intro c' hq =>
    obtain ⟨h1, t4, h2⟩ := hq
    subst h2
    refine ⟨t4, ?_⟩
    rw [List.map_id] at h1
    unfold bads at h1
    simp [cv_v, cv_f, cv_err, cl_f, cl_err, cm_v, cm_err, nt_b, nt_err, st_own, st_cell, ap_stF, it1_some, lcC_ok, lcB_f, lcB_t, lcB_b, lcA_some, ap_bnd, bd_ok, bd_err, bd_st, ad_t, ad_f, ad_err, ad_b, sq_nx, sq_rt, sq_err, sq_st, ap_ret, ap_some, ap_eC, ap_name, ap_nameB, ap_nil, ap_cons, ap_op, ap_oP, ap_oC, ap_oEq, ap_oEqF, ap_asB, ap_tOf, ap_bAnd, ap_bOr, ap_bNot, ap_ite, ap_eAnd, ap_eNot, ap_eIf, ap_chain, ap_isi, ap_isis, ap_fld, ap_ix, ap_tup, ap_fLst, ap_eL, ap_tupK, ap_tupK', ap_lenK, ap_lenK', ap_absK, ap_intK, ap_intK', ap_call, ap_callR, ap_fCall, ap_make, ap_callN, ap_meth, ap_opR, ap_opRi, ap_opRt, ap_opRl, ap_opRs, ap_neg, ap_negi, ap_negI, ap_oAddi, ap_oAddt, ap_oAdds, ap_oAddl, ap_oMuli, ap_sl, ap_oNone, ap_oSome, ap_seq, ap_if, ap_sRet, ap_sRetF, ap_sRetN, ap_sRetO, ap_drop, ap_nxt, ap_asg, ap_own, ap_cell, ap_par, ap_par3, ap_raise0, ap_self, ap_for, ap_wV, ap_set, ap_gN, ap_gT, ap_gT', ap_gsNil, ap_gsCons, ap_blsK, b_add, b_sub, b_mul, b_fdiv, b_mod, b_addt, c_lt, c_le, c_gt, c_ge, ap_runF, fin_rt, fin_nx, fin_err, ap_runI, fni_nx, fni_rt, fni_err, finC, ap_arity, setS, isD, isDs, tyB, tyNames, fldD, fget, itemP, putD, eqD_int, eqD_bl, eqD_rat, mget, hasF, List.lookup, ap_oMuls, mul_big, sz_le, wOf, h1]
theorem T12 (n0 : Nat) {n d m e : Int} {a b : Rat} (t : Dt n d m e a b) (s0 s1 s2 s3 s4 s5 s6 s13 : Sl) (ce) : ∃ l : List Nat, l.length ≤ 12 ∧ ((sAsg (gN 5) (eIf (bAnd (tOf (eOp (oC .gt) (eFld [0] 1 (eName 11)) (eC (.int 1)))) (tOf (eOp (oEq 6 false) (eOp (oP .mod) (eFld [0] 0 (eName 11)) (eC (.int 2))) (eC (.int 0))))) (eOp (opR (Ph (n0 + 10)) 4 oAdd) (eNameB 3) (eC (.str "0"))) (eOp (opR (Ph (n0 + 10)) 4 oAdd) (eNameB 3) (eC (.str "/1"))))) : M TL.Flow) ⟨[s0, s1, s2, .v (.str (tx (strR a))), s4, s5, s6, .v (.int n), .v (.int d), .v (.int m), .v (.int e), .v (.rat a), .v (.rat b), s13], ce⟩ = .ok .nx ⟨[s0, s1, s2, .v (.str (tx (strR a))), s4, .v (.str (tx l)), s6, .v (.int n), .v (.int d), .v (.int m), .v (.int e), .v (.rat a), .v (.rat b), s13], ce⟩ := by
  have lr : (strR a).length ≤ 10 := by
    have r1 := strI_len (k := 4) (by decide) (Nat.lt_trans t.ba.1 (by decide))
    have r2 : (numL a.den).length ≤ 4 := numL_len (by decide) (Nat.lt_trans t.ba.2 (by decide))
    unfold strR
    split <;> simp <;> omega
  have e0 : PySem.Str.ofString "0" = tx [48] := by decide
  have e1 : PySem.Str.ofString "/1" = tx [47, 49] := by decide
  have ad : ∀ z : List Nat, z.length ≤ 2 → binP .add (.str (tx (strR a))) (.str (tx z)) = some (.str (tx (strR a ++ z))) := fun z hz => by
    show (if sizeOk ((tx (strR a)).length + (tx z).length) = true then some (D.str (tx (strR a) ++ tx z)) else none) = _
    rw [if_pos (sz_le (by rw [tx_len, tx_len]; omega)), tx_app]
  have a0 := ad [48] (by decide)
  have a1 := ad [47, 49] (by decide)
  by_cases h1 : 1 < (a.den : Int)
  · by_cases h2 : a.num.fmod 2 = 0
    · exact ⟨strR a ++ [48], by simp; omega, by simp [cv_v, cv_f, cv_err, cl_f, cl_err, cm_v, cm_err, nt_b, nt_err, st_own, st_cell, ap_stF, it1_some, lcC_ok, lcB_f, lcB_t, lcB_b, lcA_some, ap_bnd, bd_ok, bd_err, bd_st, ad_t, ad_f, ad_err, ad_b, sq_nx, sq_rt, sq_err, sq_st, ap_ret, ap_some, ap_eC, ap_name, ap_nameB, ap_nil, ap_cons, ap_op, ap_oP, ap_oC, ap_oEq, ap_oEqF, ap_asB, ap_tOf, ap_bAnd, ap_bOr, ap_bNot, ap_ite, ap_eAnd, ap_eNot, ap_eIf, ap_chain, ap_isi, ap_isis, ap_fld, ap_ix, ap_tup, ap_fLst, ap_eL, ap_tupK, ap_tupK', ap_lenK, ap_lenK', ap_absK, ap_intK, ap_intK', ap_call, ap_callR, ap_fCall, ap_make, ap_callN, ap_meth, ap_opR, ap_opRi, ap_opRt, ap_opRl, ap_opRs, ap_neg, ap_negi, ap_negI, ap_oAddi, ap_oAddt, ap_oAdds, ap_oAddl, ap_oMuli, ap_sl, ap_oNone, ap_oSome, ap_seq, ap_if, ap_sRet, ap_sRetF, ap_sRetN, ap_sRetO, ap_drop, ap_nxt, ap_asg, ap_own, ap_cell, ap_par, ap_par3, ap_raise0, ap_self, ap_for, ap_wV, ap_set, ap_gN, ap_gT, ap_gT', ap_gsNil, ap_gsCons, ap_blsK, b_add, b_sub, b_mul, b_fdiv, b_mod, b_addt, c_lt, c_le, c_gt, c_ge, ap_runF, fin_rt, fin_nx, fin_err, ap_runI, fni_nx, fni_rt, fni_err, finC, ap_arity, setS, isD, isDs, tyB, tyNames, fldD, fget, itemP, putD, eqD_int, eqD_bl, eqD_rat, mget, hasF, List.lookup, h1, h2, e0, a0]⟩
    · exact ⟨strR a ++ [47, 49], by simp; omega, by simp [cv_v, cv_f, cv_err, cl_f, cl_err, cm_v, cm_err, nt_b, nt_err, st_own, st_cell, ap_stF, it1_some, lcC_ok, lcB_f, lcB_t, lcB_b, lcA_some, ap_bnd, bd_ok, bd_err, bd_st, ad_t, ad_f, ad_err, ad_b, sq_nx, sq_rt, sq_err, sq_st, ap_ret, ap_some, ap_eC, ap_name, ap_nameB, ap_nil, ap_cons, ap_op, ap_oP, ap_oC, ap_oEq, ap_oEqF, ap_asB, ap_tOf, ap_bAnd, ap_bOr, ap_bNot, ap_ite, ap_eAnd, ap_eNot, ap_eIf, ap_chain, ap_isi, ap_isis, ap_fld, ap_ix, ap_tup, ap_fLst, ap_eL, ap_tupK, ap_tupK', ap_lenK, ap_lenK', ap_absK, ap_intK, ap_intK', ap_call, ap_callR, ap_fCall, ap_make, ap_callN, ap_meth, ap_opR, ap_opRi, ap_opRt, ap_opRl, ap_opRs, ap_neg, ap_negi, ap_negI, ap_oAddi, ap_oAddt, ap_oAdds, ap_oAddl, ap_oMuli, ap_sl, ap_oNone, ap_oSome, ap_seq, ap_if, ap_sRet, ap_sRetF, ap_sRetN, ap_sRetO, ap_drop, ap_nxt, ap_asg, ap_own, ap_cell, ap_par, ap_par3, ap_raise0, ap_self, ap_for, ap_wV, ap_set, ap_gN, ap_gT, ap_gT', ap_gsNil, ap_gsCons, ap_blsK, b_add, b_sub, b_mul, b_fdiv, b_mod, b_addt, c_lt, c_le, c_gt, c_ge, ap_runF, fin_rt, fin_nx, fin_err, ap_runI, fni_nx, fni_rt, fni_err, finC, ap_arity, setS, isD, isDs, tyB, tyNames, fldD, fget, itemP, putD, eqD_int, eqD_bl, eqD_rat, mget, hasF, List.lookup, h1, h2, e1, a1]⟩
  · exact ⟨strR a ++ [47, 49], by simp; omega, by simp [cv_v, cv_f, cv_err, cl_f, cl_err, cm_v, cm_err, nt_b, nt_err, st_own, st_cell, ap_stF, it1_some, lcC_ok, lcB_f, lcB_t, lcB_b, lcA_some, ap_bnd, bd_ok, bd_err, bd_st, ad_t, ad_f, ad_err, ad_b, sq_nx, sq_rt, sq_err, sq_st, ap_ret, ap_some, ap_eC, ap_name, ap_nameB, ap_nil, ap_cons, ap_op, ap_oP, ap_oC, ap_oEq, ap_oEqF, ap_asB, ap_tOf, ap_bAnd, ap_bOr, ap_bNot, ap_ite, ap_eAnd, ap_eNot, ap_eIf, ap_chain, ap_isi, ap_isis, ap_fld, ap_ix, ap_tup, ap_fLst, ap_eL, ap_tupK, ap_tupK', ap_lenK, ap_lenK', ap_absK, ap_intK, ap_intK', ap_call, ap_callR, ap_fCall, ap_make, ap_callN, ap_meth, ap_opR, ap_opRi, ap_opRt, ap_opRl, ap_opRs, ap_neg, ap_negi, ap_negI, ap_oAddi, ap_oAddt, ap_oAdds, ap_oAddl, ap_oMuli, ap_sl, ap_oNone, ap_oSome, ap_seq, ap_if, ap_sRet, ap_sRetF, ap_sRetN, ap_sRetO, ap_drop, ap_nxt, ap_asg, ap_own, ap_cell, ap_par, ap_par3, ap_raise0, ap_self, ap_for, ap_wV, ap_set, ap_gN, ap_gT, ap_gT', ap_gsNil, ap_gsCons, ap_blsK, b_add, b_sub, b_mul, b_fdiv, b_mod, b_addt, c_lt, c_le, c_gt, c_ge, ap_runF, fin_rt, fin_nx, fin_err, ap_runI, fni_nx, fni_rt, fni_err, finC, ap_arity, setS, isD, isDs, tyB, tyNames, fldD, fget, itemP, putD, eqD_int, eqD_bl, eqD_rat, mget, hasF, List.lookup, h1, e1, a1]⟩
theorem rd_bd {l : List Nat} {q : Rat} (hl : l.length ≤ 12) (h : rdR l = some q) : q.num.natAbs < 10 ^ 20 ∧ q.den < 10 ^ 20 := by
  have hu := Nat.le_trans (unN_len l) hl
  have lT := Nat.le_trans (parT_len (unN l)) hu
  have lL := Nat.le_trans (parL_len (unN l)) hu
  cases h1 : (okP (parT (unN l)) && okP (lowL (unN l))) with
  | false => rw [rd_no h1] at h; cases h
  | true =>
    obtain ⟨h2, h3⟩ := Bool.and_eq_true_iff.mp h1
    rw [rd_yes h2 h3] at h
    have lo12 : (lowL (unN l)).length ≤ 12 := by unfold lowL; split; exact lL; decide
    have vT := val_lt (k := 12) (okP_t h2).1 lT
    have vL := val_lt (k := 12) (okP_t h3).1 lo12
    unfold rdQ at h
    generalize PySem.NumText.digitsVal (parT (unN l)) = A at *
    generalize PySem.NumText.digitsVal (lowL (unN l)) = Bv at *
    by_cases h0 : Bv = 0
    · rw [if_pos h0] at h; cases h
    · rw [if_neg h0] at h
      have bd := frac_bd (a := (A : Int)) (b := (Bv : Int)) (k := 10 ^ 20) (by omega) (by rw [Int.natAbs_natCast]; omega) (by rw [Int.natAbs_natCast]; omega)
      generalize Rat.divInt (A : Int) (Bv : Int) = z at *
      have fin : ∀ w : Rat, (w.num.natAbs < 10 ^ 20 ∧ w.den < 10 ^ 20) → (if strR w = l then some w else none) = some q → q.num.natAbs < 10 ^ 20 ∧ q.den < 10 ^ 20 := fun w hw hq => by
        by_cases hs : strR w = l
        · rw [if_pos hs] at hq; cases hq; exact hw
        · rw [if_neg hs] at hq; cases hq
      cases hN : isN l with
      | false => rw [hN] at h; exact fin z bd h
      | true => rw [hN] at h; exact fin (-z) ⟨by rw [Rat.neg_num, Int.natAbs_neg]; exact bd.1, by rw [Rat.neg_den]; exact bd.2⟩ h
theorem T13 (n0 : Nat) {n d m e : Int} {a b : Rat} {l : List Nat} (hl : l.length ≤ 12) (s0 s1 s2 s3 s4 s5 s6 s13 : Sl) (ce) : ((sIf (bAnd (tOf (eOp (oEq 6 false) (eIx (eCall (Ph (n0 + 10)) 24 [] (aCons (eC (.fn 14)) (aCons (eTup (aCons (eName 5) (aNil))) (aNil)))) (eC (.int 0))) (eC (.str "told")))) (tOf (eOp (oEq 6 true) (M.bnd (eCall (Ph (n0 + 10)) 14 [] (aCons (eName 5) (aNil))) (strO (Ph (n0 + 10)) 9)) (eNameB 5)))) (sRet (eC (.bl false))) (nxt)) : M TL.Flow) ⟨[s0, s1, s2, s3, s4, .v (.str (tx l)), s6, .v (.int n), .v (.int d), .v (.int m), .v (.int e), .v (.rat a), .v (.rat b), s13], ce⟩ = .ok .nx ⟨[s0, s1, s2, s3, s4, .v (.str (tx l)), s6, .v (.int n), .v (.int d), .v (.int m), .v (.int e), .v (.rat a), .v (.rat b), s13], ce⟩ := by
  have rd := v_read (n0 + 6) hl ce
  have ct : (PySem.Str.ofString "told" == PySem.Str.ofString "told") = true := beq_self_eq_true _
  have cx : (PySem.Str.ofString "text" == PySem.Str.ofString "told") = false := by decide
  cases h : rdR l with
  | none =>
    have td := td_text (n0 + 9) (f := 14) rfl ce (x_read (n0 + 5) hl h ce)
    have i0 : L2.atI [D.str (PySem.Str.ofString "text"), .bl true] 0 = some (.str (PySem.Str.ofString "text")) := rfl
    simp [cv_v, cv_f, cv_err, cl_f, cl_err, cm_v, cm_err, nt_b, nt_err, st_own, st_cell, ap_stF, it1_some, lcC_ok, lcB_f, lcB_t, lcB_b, lcA_some, ap_bnd, bd_ok, bd_err, bd_st, ad_t, ad_f, ad_err, ad_b, sq_nx, sq_rt, sq_err, sq_st, ap_ret, ap_some, ap_eC, ap_name, ap_nameB, ap_nil, ap_cons, ap_op, ap_oP, ap_oC, ap_oEq, ap_oEqF, ap_asB, ap_tOf, ap_bAnd, ap_bOr, ap_bNot, ap_ite, ap_eAnd, ap_eNot, ap_eIf, ap_chain, ap_isi, ap_isis, ap_fld, ap_ix, ap_tup, ap_fLst, ap_eL, ap_tupK, ap_tupK', ap_lenK, ap_lenK', ap_absK, ap_intK, ap_intK', ap_call, ap_callR, ap_fCall, ap_make, ap_callN, ap_meth, ap_opR, ap_opRi, ap_opRt, ap_opRl, ap_opRs, ap_neg, ap_negi, ap_negI, ap_oAddi, ap_oAddt, ap_oAdds, ap_oAddl, ap_oMuli, ap_sl, ap_oNone, ap_oSome, ap_seq, ap_if, ap_sRet, ap_sRetF, ap_sRetN, ap_sRetO, ap_drop, ap_nxt, ap_asg, ap_own, ap_cell, ap_par, ap_par3, ap_raise0, ap_self, ap_for, ap_wV, ap_set, ap_gN, ap_gT, ap_gT', ap_gsNil, ap_gsCons, ap_blsK, b_add, b_sub, b_mul, b_fdiv, b_mod, b_addt, c_lt, c_le, c_gt, c_ge, ap_runF, fin_rt, fin_nx, fin_err, ap_runI, fni_nx, fni_rt, fni_err, finC, ap_arity, setS, isD, isDs, tyB, tyNames, fldD, fget, itemP, putD, eqD_int, eqD_bl, eqD_rat, mget, hasF, List.lookup, td, i0, sz_le, eqD_strs, cx]
  | some q =>
    rw [h] at rd
    have td := td_ok1 (n0 + 9) (f := 14) rfl ce ce (show Ph (n0 + 9) 14 [.str (tx l)] ce = _ by have := v_read (n0 + 5) hl ce; rw [h] at this; exact this)
    have bd := rd_bd hl h
    have st := v_str (n0 + 9) bd.1 bd.2 ce
    rw [rd_back h] at st
    unfold rdO at rd
    have i0 : L2.atI [D.str (PySem.Str.ofString "told"), .rat q] 0 = some (.str (PySem.Str.ofString "told")) := rfl
    simp [cv_v, cv_f, cv_err, cl_f, cl_err, cm_v, cm_err, nt_b, nt_err, st_own, st_cell, ap_stF, it1_some, lcC_ok, lcB_f, lcB_t, lcB_b, lcA_some, ap_bnd, bd_ok, bd_err, bd_st, ad_t, ad_f, ad_err, ad_b, sq_nx, sq_rt, sq_err, sq_st, ap_ret, ap_some, ap_eC, ap_name, ap_nameB, ap_nil, ap_cons, ap_op, ap_oP, ap_oC, ap_oEq, ap_oEqF, ap_asB, ap_tOf, ap_bAnd, ap_bOr, ap_bNot, ap_ite, ap_eAnd, ap_eNot, ap_eIf, ap_chain, ap_isi, ap_isis, ap_fld, ap_ix, ap_tup, ap_fLst, ap_eL, ap_tupK, ap_tupK', ap_lenK, ap_lenK', ap_absK, ap_intK, ap_intK', ap_call, ap_callR, ap_fCall, ap_make, ap_callN, ap_meth, ap_opR, ap_opRi, ap_opRt, ap_opRl, ap_opRs, ap_neg, ap_negi, ap_negI, ap_oAddi, ap_oAddt, ap_oAdds, ap_oAddl, ap_oMuli, ap_sl, ap_oNone, ap_oSome, ap_seq, ap_if, ap_sRet, ap_sRetF, ap_sRetN, ap_sRetO, ap_drop, ap_nxt, ap_asg, ap_own, ap_cell, ap_par, ap_par3, ap_raise0, ap_self, ap_for, ap_wV, ap_set, ap_gN, ap_gT, ap_gT', ap_gsNil, ap_gsCons, ap_blsK, b_add, b_sub, b_mul, b_fdiv, b_mod, b_addt, c_lt, c_le, c_gt, c_ge, ap_runF, fin_rt, fin_nx, fin_err, ap_runI, fni_nx, fni_rt, fni_err, finC, ap_arity, setS, isD, isDs, tyB, tyNames, fldD, fget, itemP, putD, eqD_int, eqD_bl, eqD_rat, mget, hasF, List.lookup, td, i0, sz_le, eqD_strs, ct, rd, so_r, st, sb_ok]

end Lw

end
section
set_option Elab.async false
set_option linter.all false
set_option maxRecDepth 100000
set_option maxHeartbeats 0
set_option exponentiation.threshold 10000
namespace Lw
open TL Pl

theorem er_l {m : Nat} {xs : List D} (h : ∀ x ∈ xs, eqD m x x = some true) : eqD (m + 1) (.lst xs) (.lst xs) = some true := by
  show (if xs.length = xs.length then eqL (eqD m) xs xs else some false) = _
  rw [if_pos rfl]
  exact eqL_refl h
def ZeroD : D := .tup [.str (PySem.Str.ofString "zero"), .non]
theorem er_z (m : Nat) : eqD (m + 1) ZeroD ZeroD = some true := eqD_tup (m := m) fun z hz => by
  rcases List.mem_cons.mp hz with rfl | hz
  · exact er_s m _
  · rcases List.mem_cons.mp hz with rfl | hz
    · exact er_n m
    · cases hz
def MalD : D := .tup [.str (PySem.Str.ofString "malformed"), .non]
def tried : List D := [.tup [.int 1, .non], .tup [.non, .int 1], .tup [.bl true, .int 2], .tup [.str (PySem.Str.ofString "1"), .int 1], .tup [.int 1, .bl true], .tup [.tup [.int 1], .int 1]]
theorem tried_ok (n0 : Nat) : ∀ x ∈ tried, ∀ ce, Ph (n0 + 10) 24 [.fn 21, x] ce = .ok (.v MalD) ce := by
  intro x hx ce
  simp only [tried, List.mem_cons, List.not_mem_nil, or_false] at hx
  rcases hx with rfl | rfl | rfl | rfl | rfl | rfl
  · exact td_mal (n0 + 9) rfl ce (x_lmade2 (n0 + 6) (.inr (.inl rfl)) 1 ce)
  · exact td_mal (n0 + 9) rfl ce (x_lmade1 (n0 + 6) (.inr (.inl rfl)) _ ce)
  · exact td_mal (n0 + 9) rfl ce (x_lmade1 (n0 + 6) (.inr (.inr (.inl ⟨_, rfl⟩))) _ ce)
  · exact td_mal (n0 + 9) rfl ce (x_lmade1 (n0 + 6) (.inl ⟨_, rfl⟩) _ ce)
  · exact td_mal (n0 + 9) rfl ce (x_lmade2 (n0 + 6) (.inr (.inr (.inl ⟨_, rfl⟩))) 1 ce)
  · exact td_mal (n0 + 9) rfl ce (x_lmade1 (n0 + 6) (.inr (.inr (.inr ⟨_, rfl⟩))) _ ce)
theorem T14 (n0 : Nat) {n d m e : Int} {a b : Rat} (t : Dt n d m e a b) (s0 s1 s2 s3 s4 s5 s6 : Sl) (ce) : ((sIf (tOf (eOp (oEq 6 true) (eL (fLc [13] (wV (eTup (aCons (eTup (aCons (eC (.int 1)) (aCons (eC (.int 0)) (aNil)))) (aCons (eTup (aCons (eC (.int 0)) (aCons (eC (.int 0)) (aNil)))) (aNil))))) (gN 13) (M.ret true) (eCall (Ph (n0 + 10)) 24 [] (aCons (eC (.fn 21)) (aCons (eName 13) (aNil)))))) (eL (fOp fMulK (eL (fLst (aCons (eTup (aCons (eC (.str "zero")) (aCons (eC .non) (aNil)))) (aNil)))) (eC (.int 2)))))) (sRet (eC (.bl false))) (nxt)) : M TL.Flow) ⟨[s0, s1, s2, s3, s4, s5, s6, .v (.int n), .v (.int d), .v (.int m), .v (.int e), .v (.rat a), .v (.rat b), .no], ce⟩ = .ok .nx ⟨[s0, s1, s2, s3, s4, s5, s6, .v (.int n), .v (.int d), .v (.int m), .v (.int e), .v (.rat a), .v (.rat b), .no], ce⟩ := by
  have x1 := td_zero (n0 + 9) (f := 21) rfl ce (x_lmade0 (n0 + 6) 1 ce)
  have x2 := td_zero (n0 + 9) (f := 21) rfl ce (x_lmade0 (n0 + 6) 0 ce)
  have hz : ∀ x ∈ ([.tup [.int 1, .int 0], .tup [.int 0, .int 0]] : List D), Ph (n0 + 10) 24 [.fn 21, x] ce = .ok (.v ZeroD) ce := by
    intro x hx
    simp only [List.mem_cons, List.not_mem_nil, or_false] at hx
    rcases hx with rfl | rfl
    · exact x1
    · exact x2
  have q : eqD 6 (.lst [ZeroD, ZeroD]) (.lst [ZeroD, ZeroD]) = some true := er_l (m := 5) fun z hz => by
    have : z = ZeroD := by simpa using hz
    subst this
    exact er_z 4
  have r2 : rep 2 [ZeroD] = [ZeroD, ZeroD] := rfl
  have lc := lc_map (vs := [13]) (k := gN 13) (t := M.ret true) (e := eCall (Ph (n0 + 10)) 24 [] (aCons (eC (.fn 21)) (aCons (eName 13) (aNil)))) (mi := wV (eTup (aCons (eTup (aCons (eC (.int 1)) (aCons (eC (.int 0)) (aNil)))) (aCons (eTup (aCons (eC (.int 0)) (aCons (eC (.int 0)) (aNil)))) (aNil))))) (c := ⟨[s0, s1, s2, s3, s4, s5, s6, .v (.int n), .v (.int d), .v (.int m), .v (.int e), .v (.rat a), .v (.rat b), .no], ce⟩) [.tup [.int 1, .int 0], .tup [.int 0, .int 0]] id (fun _ => ZeroD) (by simp [cv_v, cv_f, cv_err, cl_f, cl_err, cm_v, cm_err, nt_b, nt_err, st_own, st_cell, ap_stF, it1_some, lcC_ok, lcB_f, lcB_t, lcB_b, lcA_some, ap_bnd, bd_ok, bd_err, bd_st, ad_t, ad_f, ad_err, ad_b, sq_nx, sq_rt, sq_err, sq_st, ap_ret, ap_some, ap_eC, ap_name, ap_nameB, ap_nil, ap_cons, ap_op, ap_oP, ap_oC, ap_oEq, ap_oEqF, ap_asB, ap_tOf, ap_bAnd, ap_bOr, ap_bNot, ap_ite, ap_eAnd, ap_eNot, ap_eIf, ap_chain, ap_isi, ap_isis, ap_fld, ap_ix, ap_tup, ap_fLst, ap_eL, ap_tupK, ap_tupK', ap_lenK, ap_lenK', ap_absK, ap_intK, ap_intK', ap_call, ap_callR, ap_fCall, ap_make, ap_callN, ap_meth, ap_opR, ap_opRi, ap_opRt, ap_opRl, ap_opRs, ap_neg, ap_negi, ap_negI, ap_oAddi, ap_oAddt, ap_oAdds, ap_oAddl, ap_oMuli, ap_sl, ap_oNone, ap_oSome, ap_seq, ap_if, ap_sRet, ap_sRetF, ap_sRetN, ap_sRetO, ap_drop, ap_nxt, ap_asg, ap_own, ap_cell, ap_par, ap_par3, ap_raise0, ap_self, ap_for, ap_wV, ap_set, ap_gN, ap_gT, ap_gT', ap_gsNil, ap_gsCons, ap_blsK, b_add, b_sub, b_mul, b_fdiv, b_mod, b_addt, c_lt, c_le, c_gt, c_ge, ap_runF, fin_rt, fin_nx, fin_err, ap_runI, fni_nx, fni_rt, fni_err, finC, ap_arity, setS, isD, isDs, tyB, tyNames, fldD, fget, itemP, putD, eqD_int, eqD_bl, eqD_rat, mget, hasF, List.lookup, sz_le, wOf]) (by decide) (fun x hx => by
    have h := hz x hx
    generalize ZeroD = Z at *
    simp [cv_v, cv_f, cv_err, cl_f, cl_err, cm_v, cm_err, nt_b, nt_err, st_own, st_cell, ap_stF, it1_some, lcC_ok, lcB_f, lcB_t, lcB_b, lcA_some, ap_bnd, bd_ok, bd_err, bd_st, ad_t, ad_f, ad_err, ad_b, sq_nx, sq_rt, sq_err, sq_st, ap_ret, ap_some, ap_eC, ap_name, ap_nameB, ap_nil, ap_cons, ap_op, ap_oP, ap_oC, ap_oEq, ap_oEqF, ap_asB, ap_tOf, ap_bAnd, ap_bOr, ap_bNot, ap_ite, ap_eAnd, ap_eNot, ap_eIf, ap_chain, ap_isi, ap_isis, ap_fld, ap_ix, ap_tup, ap_fLst, ap_eL, ap_tupK, ap_tupK', ap_lenK, ap_lenK', ap_absK, ap_intK, ap_intK', ap_call, ap_callR, ap_fCall, ap_make, ap_callN, ap_meth, ap_opR, ap_opRi, ap_opRt, ap_opRl, ap_opRs, ap_neg, ap_negi, ap_negI, ap_oAddi, ap_oAddt, ap_oAdds, ap_oAddl, ap_oMuli, ap_sl, ap_oNone, ap_oSome, ap_seq, ap_if, ap_sRet, ap_sRetF, ap_sRetN, ap_sRetO, ap_drop, ap_nxt, ap_asg, ap_own, ap_cell, ap_par, ap_par3, ap_raise0, ap_self, ap_for, ap_wV, ap_set, ap_gN, ap_gT, ap_gT', ap_gsNil, ap_gsCons, ap_blsK, b_add, b_sub, b_mul, b_fdiv, b_mod, b_addt, c_lt, c_le, c_gt, c_ge, ap_runF, fin_rt, fin_nx, fin_err, ap_runI, fni_nx, fni_rt, fni_err, finC, ap_arity, setS, isD, isDs, tyB, tyNames, fldD, fget, itemP, putD, eqD_int, eqD_bl, eqD_rat, mget, hasF, List.lookup, lc1, hs_ok, wipeL, h])
  have zz : (.tup [.str (PySem.Str.ofString "zero"), .non] : D) = ZeroD := rfl
  have ml : ([.tup [.int 1, .int 0], .tup [.int 0, .int 0]] : List D).map (fun _ => ZeroD) = [ZeroD, ZeroD] := rfl
  rw [ml] at lc
  generalize ZeroD = Z at *
  clear x1 x2 hz
  have sm : small63 2 = true := by decide
  simp [cv_v, cv_f, cv_err, cl_f, cl_err, cm_v, cm_err, nt_b, nt_err, st_own, st_cell, ap_stF, it1_some, lcC_ok, lcB_f, lcB_t, lcB_b, lcA_some, ap_bnd, bd_ok, bd_err, bd_st, ad_t, ad_f, ad_err, ad_b, sq_nx, sq_rt, sq_err, sq_st, ap_ret, ap_some, ap_eC, ap_name, ap_nameB, ap_nil, ap_cons, ap_op, ap_oP, ap_oC, ap_oEq, ap_oEqF, ap_asB, ap_tOf, ap_bAnd, ap_bOr, ap_bNot, ap_ite, ap_eAnd, ap_eNot, ap_eIf, ap_chain, ap_isi, ap_isis, ap_fld, ap_ix, ap_tup, ap_fLst, ap_eL, ap_tupK, ap_tupK', ap_lenK, ap_lenK', ap_absK, ap_intK, ap_intK', ap_call, ap_callR, ap_fCall, ap_make, ap_callN, ap_meth, ap_opR, ap_opRi, ap_opRt, ap_opRl, ap_opRs, ap_neg, ap_negi, ap_negI, ap_oAddi, ap_oAddt, ap_oAdds, ap_oAddl, ap_oMuli, ap_sl, ap_oNone, ap_oSome, ap_seq, ap_if, ap_sRet, ap_sRetF, ap_sRetN, ap_sRetO, ap_drop, ap_nxt, ap_asg, ap_own, ap_cell, ap_par, ap_par3, ap_raise0, ap_self, ap_for, ap_wV, ap_set, ap_gN, ap_gT, ap_gT', ap_gsNil, ap_gsCons, ap_blsK, b_add, b_sub, b_mul, b_fdiv, b_mod, b_addt, c_lt, c_le, c_gt, c_ge, ap_runF, fin_rt, fin_nx, fin_err, ap_runI, fni_nx, fni_rt, fni_err, finC, ap_arity, setS, isD, isDs, tyB, tyNames, fldD, fget, itemP, putD, eqD_int, eqD_bl, eqD_rat, mget, hasF, List.lookup, lc, zz, sz_le, ap_fOp, ap_fMul, r2, q, sm, restL]
theorem T15 (n0 : Nat) {n d m e : Int} {a b : Rat} (t : Dt n d m e a b) (s0 s1 s2 s3 s4 s5 s6 s13 : Sl) (ce) : ((sOwn 6 (fLst (aCons (eTup (aCons (eC (.int 1)) (aCons (eC .non) (aNil)))) (aCons (eTup (aCons (eC .non) (aCons (eC (.int 1)) (aNil)))) (aCons (eTup (aCons (eC (.bl true)) (aCons (eC (.int 2)) (aNil)))) (aCons (eTup (aCons (eC (.str "1")) (aCons (eC (.int 1)) (aNil)))) (aCons (eTup (aCons (eC (.int 1)) (aCons (eC (.bl true)) (aNil)))) (aCons (eTup (aCons (eTup (aCons (eC (.int 1)) (aNil))) (aCons (eC (.int 1)) (aNil)))) (aNil))))))))) : M TL.Flow) ⟨[s0, s1, s2, s3, s4, s5, s6, .v (.int n), .v (.int d), .v (.int m), .v (.int e), .v (.rat a), .v (.rat b), s13], ce⟩ = .ok .nx ⟨[s0, s1, s2, s3, s4, s5, .own tried, .v (.int n), .v (.int d), .v (.int m), .v (.int e), .v (.rat a), .v (.rat b), s13], ce⟩ := by
  simp [cv_v, cv_f, cv_err, cl_f, cl_err, cm_v, cm_err, nt_b, nt_err, st_own, st_cell, ap_stF, it1_some, lcC_ok, lcB_f, lcB_t, lcB_b, lcA_some, ap_bnd, bd_ok, bd_err, bd_st, ad_t, ad_f, ad_err, ad_b, sq_nx, sq_rt, sq_err, sq_st, ap_ret, ap_some, ap_eC, ap_name, ap_nameB, ap_nil, ap_cons, ap_op, ap_oP, ap_oC, ap_oEq, ap_oEqF, ap_asB, ap_tOf, ap_bAnd, ap_bOr, ap_bNot, ap_ite, ap_eAnd, ap_eNot, ap_eIf, ap_chain, ap_isi, ap_isis, ap_fld, ap_ix, ap_tup, ap_fLst, ap_eL, ap_tupK, ap_tupK', ap_lenK, ap_lenK', ap_absK, ap_intK, ap_intK', ap_call, ap_callR, ap_fCall, ap_make, ap_callN, ap_meth, ap_opR, ap_opRi, ap_opRt, ap_opRl, ap_opRs, ap_neg, ap_negi, ap_negI, ap_oAddi, ap_oAddt, ap_oAdds, ap_oAddl, ap_oMuli, ap_sl, ap_oNone, ap_oSome, ap_seq, ap_if, ap_sRet, ap_sRetF, ap_sRetN, ap_sRetO, ap_drop, ap_nxt, ap_asg, ap_own, ap_cell, ap_par, ap_par3, ap_raise0, ap_self, ap_for, ap_wV, ap_set, ap_gN, ap_gT, ap_gT', ap_gsNil, ap_gsCons, ap_blsK, b_add, b_sub, b_mul, b_fdiv, b_mod, b_addt, c_lt, c_le, c_gt, c_ge, ap_runF, fin_rt, fin_nx, fin_err, ap_runI, fni_nx, fni_rt, fni_err, finC, ap_arity, setS, isD, isDs, tyB, tyNames, fldD, fget, itemP, putD, eqD_int, eqD_bl, eqD_rat, mget, hasF, List.lookup, sz_le, tried]
theorem T16 (n0 : Nat) {n d m e : Int} {a b : Rat} (t : Dt n d m e a b) (s0 s1 s2 s3 s4 s5 s6 : Sl) (ce) : ((sIf (tOf (eOp (oEq 6 true) (eL (fLc [13] (wV (eName 6)) (gN 13) (M.ret true) (eIx (eCall (Ph (n0 + 10)) 24 [] (aCons (eC (.fn 21)) (aCons (eName 13) (aNil)))) (eC (.int 0))))) (eL (fOp fMulK (eL (fLst (aCons (eC (.str "malformed")) (aNil)))) (eC (.int 6)))))) (sRet (eC (.bl false))) (nxt)) : M TL.Flow) ⟨[s0, s1, s2, s3, s4, s5, .own tried, .v (.int n), .v (.int d), .v (.int m), .v (.int e), .v (.rat a), .v (.rat b), .no], ce⟩ = .ok .nx ⟨[s0, s1, s2, s3, s4, s5, .v (.lst tried), .v (.int n), .v (.int d), .v (.int m), .v (.int e), .v (.rat a), .v (.rat b), .no], ce⟩ := by
  have hz := fun x hx => tried_ok n0 x hx ce
  have i0 : L2.atI [D.str (PySem.Str.ofString "malformed"), .non] 0 = some (.str (PySem.Str.ofString "malformed")) := rfl
  have q : eqD 6 (.lst (List.replicate 6 (.str (PySem.Str.ofString "malformed")))) (.lst (List.replicate 6 (.str (PySem.Str.ofString "malformed")))) = some true := er_l (m := 5) fun z hz => by
    have : z = .str (PySem.Str.ofString "malformed") := List.eq_of_mem_replicate hz
    subst this
    exact er_s 5 _
  have r2 : rep 6 [.str (PySem.Str.ofString "malformed")] = List.replicate 6 (.str (PySem.Str.ofString "malformed")) := rfl
  have lc := lc_map (vs := [13]) (k := gN 13) (t := M.ret true) (e := eIx (eCall (Ph (n0 + 10)) 24 [] (aCons (eC (.fn 21)) (aCons (eName 13) (aNil)))) (eC (.int 0))) (mi := M.ret tried) (c := ⟨[s0, s1, s2, s3, s4, s5, .v (.lst tried), .v (.int n), .v (.int d), .v (.int m), .v (.int e), .v (.rat a), .v (.rat b), .no], ce⟩) tried id (fun _ => .str (PySem.Str.ofString "malformed")) (by rw [List.map_id]; rfl) (by decide) (fun x hx => by
    have h := hz x hx
    unfold MalD at h
    simp [cv_v, cv_f, cv_err, cl_f, cl_err, cm_v, cm_err, nt_b, nt_err, st_own, st_cell, ap_stF, it1_some, lcC_ok, lcB_f, lcB_t, lcB_b, lcA_some, ap_bnd, bd_ok, bd_err, bd_st, ad_t, ad_f, ad_err, ad_b, sq_nx, sq_rt, sq_err, sq_st, ap_ret, ap_some, ap_eC, ap_name, ap_nameB, ap_nil, ap_cons, ap_op, ap_oP, ap_oC, ap_oEq, ap_oEqF, ap_asB, ap_tOf, ap_bAnd, ap_bOr, ap_bNot, ap_ite, ap_eAnd, ap_eNot, ap_eIf, ap_chain, ap_isi, ap_isis, ap_fld, ap_ix, ap_tup, ap_fLst, ap_eL, ap_tupK, ap_tupK', ap_lenK, ap_lenK', ap_absK, ap_intK, ap_intK', ap_call, ap_callR, ap_fCall, ap_make, ap_callN, ap_meth, ap_opR, ap_opRi, ap_opRt, ap_opRl, ap_opRs, ap_neg, ap_negi, ap_negI, ap_oAddi, ap_oAddt, ap_oAdds, ap_oAddl, ap_oMuli, ap_sl, ap_oNone, ap_oSome, ap_seq, ap_if, ap_sRet, ap_sRetF, ap_sRetN, ap_sRetO, ap_drop, ap_nxt, ap_asg, ap_own, ap_cell, ap_par, ap_par3, ap_raise0, ap_self, ap_for, ap_wV, ap_set, ap_gN, ap_gT, ap_gT', ap_gsNil, ap_gsCons, ap_blsK, b_add, b_sub, b_mul, b_fdiv, b_mod, b_addt, c_lt, c_le, c_gt, c_ge, ap_runF, fin_rt, fin_nx, fin_err, ap_runI, fni_nx, fni_rt, fni_err, finC, ap_arity, setS, isD, isDs, tyB, tyNames, fldD, fget, itemP, putD, eqD_int, eqD_bl, eqD_rat, mget, hasF, List.lookup, lc1, hs_ok, wipeL, h, i0])
  have ml : tried.map (fun _ => (.str (PySem.Str.ofString "malformed") : D)) = List.replicate 6 (.str (PySem.Str.ofString "malformed")) := rfl
  rw [ml] at lc
  generalize List.replicate 6 (D.str (PySem.Str.ofString "malformed")) = Z at *
  clear hz
  have mi : wV (eName 6) ⟨[s0, s1, s2, s3, s4, s5, .own tried, .v (.int n), .v (.int d), .v (.int m), .v (.int e), .v (.rat a), .v (.rat b), .no], ce⟩ = .ok tried ⟨[s0, s1, s2, s3, s4, s5, .v (.lst tried), .v (.int n), .v (.int d), .v (.int m), .v (.int e), .v (.rat a), .v (.rat b), .no], ce⟩ := by
    generalize tried = TT
    simp [cv_v, cv_f, cv_err, cl_f, cl_err, cm_v, cm_err, nt_b, nt_err, st_own, st_cell, ap_stF, it1_some, lcC_ok, lcB_f, lcB_t, lcB_b, lcA_some, ap_bnd, bd_ok, bd_err, bd_st, ad_t, ad_f, ad_err, ad_b, sq_nx, sq_rt, sq_err, sq_st, ap_ret, ap_some, ap_eC, ap_name, ap_nameB, ap_nil, ap_cons, ap_op, ap_oP, ap_oC, ap_oEq, ap_oEqF, ap_asB, ap_tOf, ap_bAnd, ap_bOr, ap_bNot, ap_ite, ap_eAnd, ap_eNot, ap_eIf, ap_chain, ap_isi, ap_isis, ap_fld, ap_ix, ap_tup, ap_fLst, ap_eL, ap_tupK, ap_tupK', ap_lenK, ap_lenK', ap_absK, ap_intK, ap_intK', ap_call, ap_callR, ap_fCall, ap_make, ap_callN, ap_meth, ap_opR, ap_opRi, ap_opRt, ap_opRl, ap_opRs, ap_neg, ap_negi, ap_negI, ap_oAddi, ap_oAddt, ap_oAdds, ap_oAddl, ap_oMuli, ap_sl, ap_oNone, ap_oSome, ap_seq, ap_if, ap_sRet, ap_sRetF, ap_sRetN, ap_sRetO, ap_drop, ap_nxt, ap_asg, ap_own, ap_cell, ap_par, ap_par3, ap_raise0, ap_self, ap_for, ap_wV, ap_set, ap_gN, ap_gT, ap_gT', ap_gsNil, ap_gsCons, ap_blsK, b_add, b_sub, b_mul, b_fdiv, b_mod, b_addt, c_lt, c_le, c_gt, c_ge, ap_runF, fin_rt, fin_nx, fin_err, ap_runI, fni_nx, fni_rt, fni_err, finC, ap_arity, setS, isD, isDs, tyB, tyNames, fldD, fget, itemP, putD, eqD_int, eqD_bl, eqD_rat, mget, hasF, List.lookup, wOf]
  have lc2 := fLc_mi (vs := [13]) (k := gN 13) (t := M.ret true) (e := eIx (eCall (Ph (n0 + 10)) 24 [] (aCons (eC (.fn 21)) (aCons (eName 13) (aNil)))) (eC (.int 0))) mi
  rw [lc] at lc2
  clear lc mi
  generalize tried = TT at *
  have sm : small63 6 = true := by decide
  simp [cv_v, cv_f, cv_err, cl_f, cl_err, cm_v, cm_err, nt_b, nt_err, st_own, st_cell, ap_stF, it1_some, lcC_ok, lcB_f, lcB_t, lcB_b, lcA_some, ap_bnd, bd_ok, bd_err, bd_st, ad_t, ad_f, ad_err, ad_b, sq_nx, sq_rt, sq_err, sq_st, ap_ret, ap_some, ap_eC, ap_name, ap_nameB, ap_nil, ap_cons, ap_op, ap_oP, ap_oC, ap_oEq, ap_oEqF, ap_asB, ap_tOf, ap_bAnd, ap_bOr, ap_bNot, ap_ite, ap_eAnd, ap_eNot, ap_eIf, ap_chain, ap_isi, ap_isis, ap_fld, ap_ix, ap_tup, ap_fLst, ap_eL, ap_tupK, ap_tupK', ap_lenK, ap_lenK', ap_absK, ap_intK, ap_intK', ap_call, ap_callR, ap_fCall, ap_make, ap_callN, ap_meth, ap_opR, ap_opRi, ap_opRt, ap_opRl, ap_opRs, ap_neg, ap_negi, ap_negI, ap_oAddi, ap_oAddt, ap_oAdds, ap_oAddl, ap_oMuli, ap_sl, ap_oNone, ap_oSome, ap_seq, ap_if, ap_sRet, ap_sRetF, ap_sRetN, ap_sRetO, ap_drop, ap_nxt, ap_asg, ap_own, ap_cell, ap_par, ap_par3, ap_raise0, ap_self, ap_for, ap_wV, ap_set, ap_gN, ap_gT, ap_gT', ap_gsNil, ap_gsCons, ap_blsK, b_add, b_sub, b_mul, b_fdiv, b_mod, b_addt, c_lt, c_le, c_gt, c_ge, ap_runF, fin_rt, fin_nx, fin_err, ap_runI, fni_nx, fni_rt, fni_err, finC, ap_arity, setS, isD, isDs, tyB, tyNames, fldD, fget, itemP, putD, eqD_int, eqD_bl, eqD_rat, mget, hasF, List.lookup, lc2, sz_le, ap_fOp, ap_fMul, r2, q, sm, restL]
theorem T17 (n0 : Nat) {n d m e : Int} {a b : Rat} (t : Dt n d m e a b) (s0 s1 s2 s3 s4 s5 s6 s13 : Sl) (ce) : ∃ t4, ((sFor (wV (eTup (aCons (eC .non) (aCons (eC (.int 1)) (aCons (eC (.str "1")) (aCons (eTup (aCons (eName 11) (aNil))) (aNil))))))) (gN 4) (sIf (bOr (tOf (eOp (oEq 6 true) (eIx (eCall (Ph (n0 + 10)) 24 [] (aCons (eC (.fn 23)) (aCons (eTup (aCons (eName 11) (aCons (eName 4) (aNil)))) (aNil)))) (eC (.int 0))) (eC (.str "malformed")))) (tOf (eOp (oEq 6 true) (eIx (eCall (Ph (n0 + 10)) 24 [] (aCons (eC (.fn 22)) (aCons (eTup (aCons (eName 11) (aCons (eName 4) (aNil)))) (aNil)))) (eC (.int 0))) (eC (.str "malformed"))))) (sRet (eC (.bl false))) (nxt))) : M TL.Flow) ⟨[s0, s1, s2, s3, s4, s5, s6, .v (.int n), .v (.int d), .v (.int m), .v (.int e), .v (.rat a), .v (.rat b), s13], ce⟩ = .ok .nx ⟨[s0, s1, s2, s3, t4, s5, s6, .v (.int n), .v (.int d), .v (.int m), .v (.int e), .v (.rat a), .v (.rat b), s13], ce⟩ := by
  have key : ∀ x, NotR x → Ph (n0 + 10) 24 [.fn 23, .tup [.rat a, x]] ce = .ok (.v MalD) ce ∧ Ph (n0 + 10) 24 [.fn 22, .tup [.rat a, x]] ce = .ok (.v MalD) ce := fun x h =>
    ⟨td_mal (n0 + 9) rfl ce (x_lplus (n0 + 6) h a ce), td_mal (n0 + 9) rfl ce (x_lover (n0 + 6) h a ce)⟩
  have i0 : L2.atI [D.str (PySem.Str.ofString "malformed"), .non] 0 = some (.str (PySem.Str.ofString "malformed")) := rfl
  have hq := for_map (k := gN 4) (b := ((sIf (bOr (tOf (eOp (oEq 6 true) (eIx (eCall (Ph (n0 + 10)) 24 [] (aCons (eC (.fn 23)) (aCons (eTup (aCons (eName 11) (aCons (eName 4) (aNil)))) (aNil)))) (eC (.int 0))) (eC (.str "malformed")))) (tOf (eOp (oEq 6 true) (eIx (eCall (Ph (n0 + 10)) 24 [] (aCons (eC (.fn 22)) (aCons (eTup (aCons (eName 11) (aCons (eName 4) (aNil)))) (aNil)))) (eC (.int 0))) (eC (.str "malformed"))))) (sRet (eC (.bl false))) (nxt)) : M TL.Flow)) ([.non, .int 1, .str (PySem.Str.ofString "1"), .tup [.rat a]] : List D) id (fun (_ : Unit) cf => ∃ t4, cf = ⟨[s0, s1, s2, s3, t4, s5, s6, .v (.int n), .v (.int d), .v (.int m), .v (.int e), .v (.rat a), .v (.rat b), s13], ce⟩) (fun _ _ => ()) () (c := ⟨[s0, s1, s2, s3, s4, s5, s6, .v (.int n), .v (.int d), .v (.int m), .v (.int e), .v (.rat a), .v (.rat b), s13], ce⟩) ⟨s4, rfl⟩ fun pre x post cf hp ⟨t4, hc⟩ => by
    subst hc
    have hx : x ∈ ([.non, .int 1, .str (PySem.Str.ofString "1"), .tup [.rat a]] : List D) := by rw [hp]; simp
    have hr : NotR x := by
      simp only [List.mem_cons, List.not_mem_nil, or_false] at hx
      rcases hx with rfl | rfl | rfl | rfl
      · exact .inr (.inl rfl)
      · exact .inr (.inr (.inl ⟨_, rfl⟩))
      · exact .inl ⟨_, rfl⟩
      · exact .inr (.inr (.inr ⟨_, rfl⟩))
    obtain ⟨h1, h2⟩ := key x hr
    unfold MalD at h1 h2
    simp [cv_v, cv_f, cv_err, cl_f, cl_err, cm_v, cm_err, nt_b, nt_err, st_own, st_cell, ap_stF, it1_some, lcC_ok, lcB_f, lcB_t, lcB_b, lcA_some, ap_bnd, bd_ok, bd_err, bd_st, ad_t, ad_f, ad_err, ad_b, sq_nx, sq_rt, sq_err, sq_st, ap_ret, ap_some, ap_eC, ap_name, ap_nameB, ap_nil, ap_cons, ap_op, ap_oP, ap_oC, ap_oEq, ap_oEqF, ap_asB, ap_tOf, ap_bAnd, ap_bOr, ap_bNot, ap_ite, ap_eAnd, ap_eNot, ap_eIf, ap_chain, ap_isi, ap_isis, ap_fld, ap_ix, ap_tup, ap_fLst, ap_eL, ap_tupK, ap_tupK', ap_lenK, ap_lenK', ap_absK, ap_intK, ap_intK', ap_call, ap_callR, ap_fCall, ap_make, ap_callN, ap_meth, ap_opR, ap_opRi, ap_opRt, ap_opRl, ap_opRs, ap_neg, ap_negi, ap_negI, ap_oAddi, ap_oAddt, ap_oAdds, ap_oAddl, ap_oMuli, ap_sl, ap_oNone, ap_oSome, ap_seq, ap_if, ap_sRet, ap_sRetF, ap_sRetN, ap_sRetO, ap_drop, ap_nxt, ap_asg, ap_own, ap_cell, ap_par, ap_par3, ap_raise0, ap_self, ap_for, ap_wV, ap_set, ap_gN, ap_gT, ap_gT', ap_gsNil, ap_gsCons, ap_blsK, b_add, b_sub, b_mul, b_fdiv, b_mod, b_addt, c_lt, c_le, c_gt, c_ge, ap_runF, fin_rt, fin_nx, fin_err, ap_runI, fni_nx, fni_rt, fni_err, finC, ap_arity, setS, isD, isDs, tyB, tyNames, fldD, fget, itemP, putD, eqD_int, eqD_bl, eqD_rat, mget, hasF, List.lookup, it1, fs_nx, h1, h2, i0, sz_le, eqD_strs]
  cases hq with
  | intro c' hq =>
    obtain ⟨h1, t4, h2⟩ := hq
    subst h2
    refine ⟨t4, ?_⟩
    rw [List.map_id] at h1
    simp [cv_v, cv_f, cv_err, cl_f, cl_err, cm_v, cm_err, nt_b, nt_err, st_own, st_cell, ap_stF, it1_some, lcC_ok, lcB_f, lcB_t, lcB_b, lcA_some, ap_bnd, bd_ok, bd_err, bd_st, ad_t, ad_f, ad_err, ad_b, sq_nx, sq_rt, sq_err, sq_st, ap_ret, ap_some, ap_eC, ap_name, ap_nameB, ap_nil, ap_cons, ap_op, ap_oP, ap_oC, ap_oEq, ap_oEqF, ap_asB, ap_tOf, ap_bAnd, ap_bOr, ap_bNot, ap_ite, ap_eAnd, ap_eNot, ap_eIf, ap_chain, ap_isi, ap_isis, ap_fld, ap_ix, ap_tup, ap_fLst, ap_eL, ap_tupK, ap_tupK', ap_lenK, ap_lenK', ap_absK, ap_intK, ap_intK', ap_call, ap_callR, ap_fCall, ap_make, ap_callN, ap_meth, ap_opR, ap_opRi, ap_opRt, ap_opRl, ap_opRs, ap_neg, ap_negi, ap_negI, ap_oAddi, ap_oAddt, ap_oAdds, ap_oAddl, ap_oMuli, ap_sl, ap_oNone, ap_oSome, ap_seq, ap_if, ap_sRet, ap_sRetF, ap_sRetN, ap_sRetO, ap_drop, ap_nxt, ap_asg, ap_own, ap_cell, ap_par, ap_par3, ap_raise0, ap_self, ap_for, ap_wV, ap_set, ap_gN, ap_gT, ap_gT', ap_gsNil, ap_gsCons, ap_blsK, b_add, b_sub, b_mul, b_fdiv, b_mod, b_addt, c_lt, c_le, c_gt, c_ge, ap_runF, fin_rt, fin_nx, fin_err, ap_runI, fni_nx, fni_rt, fni_err, finC, ap_arity, setS, isD, isDs, tyB, tyNames, fldD, fget, itemP, putD, eqD_int, eqD_bl, eqD_rat, mget, hasF, List.lookup, sz_le, wOf, h1]
theorem v_law (n0 : Nat) (ns : List Int) : ∃ ce, Ph (n0 + 11) 25 [.scr ns] [] = .ok (.v (.bl true)) ce := by
  obtain ⟨a0, b0, st⟩ := v_state (n0 + 9) ns []
  have g0 : Gs [[.int a0, .int b0]] := ⟨_, _, rfl⟩
  generalize hce0 : [[D.int a0, .int b0]] = ce0 at *
  obtain ⟨v1, ce1, e1, g1, l1⟩ := v_take (n0 + 9) (m := 2001) (by decide) (by decide) g0
  obtain ⟨v2, ce2, e2, g2, l2⟩ := v_take (n0 + 9) (m := 60) (by decide) (by decide) g1
  obtain ⟨v3, ce3, e3, g3, l3⟩ := v_take (n0 + 9) (m := 2001) (by decide) (by decide) g2
  obtain ⟨v4, ce4, e4, g4, l4⟩ := v_take (n0 + 9) (m := 60) (by decide) (by decide) g3
  obtain ⟨n, hn⟩ : ∃ n : Int, (v1 : Int) - 1000 = n := ⟨_, rfl⟩
  obtain ⟨d, hd⟩ : ∃ n : Int, 1 + (v2 : Int) = n := ⟨_, rfl⟩
  obtain ⟨m, hm⟩ : ∃ n : Int, (v3 : Int) - 1000 = n := ⟨_, rfl⟩
  obtain ⟨e, he⟩ : ∃ n : Int, -1 - (v4 : Int) = n := ⟨_, rfl⟩
  have t : Dt n d m e (Rat.divInt n d) (Rat.divInt m e) := ⟨by omega, by omega, by omega, by omega, by omega, by omega, rfl, rfl⟩
  generalize Rat.divInt n d = a at t
  generalize Rat.divInt m e = b at t
  simp at e1 e2 e3 e4
  have h0 : ((sCell 1 (fCall (Ph (n0 + 10)) 15 [] (aCons (eName 0) (aNil)))) : M TL.Flow) ⟨[.v (.scr ns), .no, .no, .no, .no, .no, .no, .no, .no, .no, .no, .no, .no, .no], []⟩ = .ok .nx ⟨[.v (.scr ns), .v (.cell 0), .no, .no, .no, .no, .no, .no, .no, .no, .no, .no, .no, .no], ce0⟩ := by
    simp [cv_v, cv_f, cv_err, cl_f, cl_err, cm_v, cm_err, nt_b, nt_err, st_own, st_cell, ap_stF, it1_some, lcC_ok, lcB_f, lcB_t, lcB_b, lcA_some, ap_bnd, bd_ok, bd_err, bd_st, ad_t, ad_f, ad_err, ad_b, sq_nx, sq_rt, sq_err, sq_st, ap_ret, ap_some, ap_eC, ap_name, ap_nameB, ap_nil, ap_cons, ap_op, ap_oP, ap_oC, ap_oEq, ap_oEqF, ap_asB, ap_tOf, ap_bAnd, ap_bOr, ap_bNot, ap_ite, ap_eAnd, ap_eNot, ap_eIf, ap_chain, ap_isi, ap_isis, ap_fld, ap_ix, ap_tup, ap_fLst, ap_eL, ap_tupK, ap_tupK', ap_lenK, ap_lenK', ap_absK, ap_intK, ap_intK', ap_call, ap_callR, ap_fCall, ap_make, ap_callN, ap_meth, ap_opR, ap_opRi, ap_opRt, ap_opRl, ap_opRs, ap_neg, ap_negi, ap_negI, ap_oAddi, ap_oAddt, ap_oAdds, ap_oAddl, ap_oMuli, ap_sl, ap_oNone, ap_oSome, ap_seq, ap_if, ap_sRet, ap_sRetF, ap_sRetN, ap_sRetO, ap_drop, ap_nxt, ap_asg, ap_own, ap_cell, ap_par, ap_par3, ap_raise0, ap_self, ap_for, ap_wV, ap_set, ap_gN, ap_gT, ap_gT', ap_gsNil, ap_gsCons, ap_blsK, b_add, b_sub, b_mul, b_fdiv, b_mod, b_addt, c_lt, c_le, c_gt, c_ge, ap_runF, fin_rt, fin_nx, fin_err, ap_runI, fni_nx, fni_rt, fni_err, finC, ap_arity, setS, isD, isDs, tyB, tyNames, fldD, fget, itemP, putD, eqD_int, eqD_bl, eqD_rat, mget, hasF, List.lookup, st, hce0]
  have h1 : ((sPar 7 8 (aCons (eOp (opR (Ph (n0 + 10)) 5 (oP .sub)) (eCall (Ph (n0 + 10)) 16 [] (aCons (eName 1) (aCons (eC (.int 2001)) (aNil)))) (eC (.int 1000))) (aCons (eOp (opR (Ph (n0 + 10)) 4 oAdd) (eC (.int 1)) (eCall (Ph (n0 + 10)) 16 [] (aCons (eName 1) (aCons (eC (.int 60)) (aNil))))) (aNil)))) : M TL.Flow) ⟨[.v (.scr ns), .v (.cell 0), .no, .no, .no, .no, .no, .no, .no, .no, .no, .no, .no, .no], ce0⟩ = .ok .nx ⟨[.v (.scr ns), .v (.cell 0), .no, .no, .no, .no, .no, .v (.int n), .v (.int d), .no, .no, .no, .no, .no], ce2⟩ := by
    simp [cv_v, cv_f, cv_err, cl_f, cl_err, cm_v, cm_err, nt_b, nt_err, st_own, st_cell, ap_stF, it1_some, lcC_ok, lcB_f, lcB_t, lcB_b, lcA_some, ap_bnd, bd_ok, bd_err, bd_st, ad_t, ad_f, ad_err, ad_b, sq_nx, sq_rt, sq_err, sq_st, ap_ret, ap_some, ap_eC, ap_name, ap_nameB, ap_nil, ap_cons, ap_op, ap_oP, ap_oC, ap_oEq, ap_oEqF, ap_asB, ap_tOf, ap_bAnd, ap_bOr, ap_bNot, ap_ite, ap_eAnd, ap_eNot, ap_eIf, ap_chain, ap_isi, ap_isis, ap_fld, ap_ix, ap_tup, ap_fLst, ap_eL, ap_tupK, ap_tupK', ap_lenK, ap_lenK', ap_absK, ap_intK, ap_intK', ap_call, ap_callR, ap_fCall, ap_make, ap_callN, ap_meth, ap_opR, ap_opRi, ap_opRt, ap_opRl, ap_opRs, ap_neg, ap_negi, ap_negI, ap_oAddi, ap_oAddt, ap_oAdds, ap_oAddl, ap_oMuli, ap_sl, ap_oNone, ap_oSome, ap_seq, ap_if, ap_sRet, ap_sRetF, ap_sRetN, ap_sRetO, ap_drop, ap_nxt, ap_asg, ap_own, ap_cell, ap_par, ap_par3, ap_raise0, ap_self, ap_for, ap_wV, ap_set, ap_gN, ap_gT, ap_gT', ap_gsNil, ap_gsCons, ap_blsK, b_add, b_sub, b_mul, b_fdiv, b_mod, b_addt, c_lt, c_le, c_gt, c_ge, ap_runF, fin_rt, fin_nx, fin_err, ap_runI, fni_nx, fni_rt, fni_err, finC, ap_arity, setS, isD, isDs, tyB, tyNames, fldD, fget, itemP, putD, eqD_int, eqD_bl, eqD_rat, mget, hasF, List.lookup, e1, e2, hn, hd, sz_le]
  have h2 : ((sPar 9 10 (aCons (eOp (opR (Ph (n0 + 10)) 5 (oP .sub)) (eCall (Ph (n0 + 10)) 16 [] (aCons (eName 1) (aCons (eC (.int 2001)) (aNil)))) (eC (.int 1000))) (aCons (eOp (opR (Ph (n0 + 10)) 5 (oP .sub)) (M.bnd (eC (.int 1)) oNegI) (eCall (Ph (n0 + 10)) 16 [] (aCons (eName 1) (aCons (eC (.int 60)) (aNil))))) (aNil)))) : M TL.Flow) ⟨[.v (.scr ns), .v (.cell 0), .no, .no, .no, .no, .no, .v (.int n), .v (.int d), .no, .no, .no, .no, .no], ce2⟩ = .ok .nx ⟨[.v (.scr ns), .v (.cell 0), .no, .no, .no, .no, .no, .v (.int n), .v (.int d), .v (.int m), .v (.int e), .no, .no, .no], ce4⟩ := by
    simp [cv_v, cv_f, cv_err, cl_f, cl_err, cm_v, cm_err, nt_b, nt_err, st_own, st_cell, ap_stF, it1_some, lcC_ok, lcB_f, lcB_t, lcB_b, lcA_some, ap_bnd, bd_ok, bd_err, bd_st, ad_t, ad_f, ad_err, ad_b, sq_nx, sq_rt, sq_err, sq_st, ap_ret, ap_some, ap_eC, ap_name, ap_nameB, ap_nil, ap_cons, ap_op, ap_oP, ap_oC, ap_oEq, ap_oEqF, ap_asB, ap_tOf, ap_bAnd, ap_bOr, ap_bNot, ap_ite, ap_eAnd, ap_eNot, ap_eIf, ap_chain, ap_isi, ap_isis, ap_fld, ap_ix, ap_tup, ap_fLst, ap_eL, ap_tupK, ap_tupK', ap_lenK, ap_lenK', ap_absK, ap_intK, ap_intK', ap_call, ap_callR, ap_fCall, ap_make, ap_callN, ap_meth, ap_opR, ap_opRi, ap_opRt, ap_opRl, ap_opRs, ap_neg, ap_negi, ap_negI, ap_oAddi, ap_oAddt, ap_oAdds, ap_oAddl, ap_oMuli, ap_sl, ap_oNone, ap_oSome, ap_seq, ap_if, ap_sRet, ap_sRetF, ap_sRetN, ap_sRetO, ap_drop, ap_nxt, ap_asg, ap_own, ap_cell, ap_par, ap_par3, ap_raise0, ap_self, ap_for, ap_wV, ap_set, ap_gN, ap_gT, ap_gT', ap_gsNil, ap_gsCons, ap_blsK, b_add, b_sub, b_mul, b_fdiv, b_mod, b_addt, c_lt, c_le, c_gt, c_ge, ap_runF, fin_rt, fin_nx, fin_err, ap_runI, fni_nx, fni_rt, fni_err, finC, ap_arity, setS, isD, isDs, tyB, tyNames, fldD, fget, itemP, putD, eqD_int, eqD_bl, eqD_rat, mget, hasF, List.lookup, e3, e4, hm, he, sz_le]
  have h3 : ((sPar 11 12 (aCons (eMake (Ph (n0 + 10)) 3 [] (aCons (eName 7) (aCons (eName 8) (aNil)))) (aCons (eMake (Ph (n0 + 10)) 3 [] (aCons (eName 9) (aCons (eName 10) (aNil)))) (aNil)))) : M TL.Flow) ⟨[.v (.scr ns), .v (.cell 0), .no, .no, .no, .no, .no, .v (.int n), .v (.int d), .v (.int m), .v (.int e), .no, .no, .no], ce4⟩ = .ok .nx ⟨[.v (.scr ns), .v (.cell 0), .no, .no, .no, .no, .no, .v (.int n), .v (.int d), .v (.int m), .v (.int e), .v (.rat a), .v (.rat b), .no], ce4⟩ := T3 n0 t _ _ _ _ _ _ _ _ _ _ _
  have h4 : ((sIf (bOr (tOf (eOp (oEq 6 true) (eOp (opR (Ph (n0 + 10)) 6 oMul) (eFld [0] 0 (eName 11)) (eNameB 8)) (eOp (opR (Ph (n0 + 10)) 6 oMul) (eNameB 7) (eFld [0] 1 (eName 11))))) (bOr (tOf (eOp (oEq 6 true) (eOp (opR (Ph (n0 + 10)) 6 oMul) (eFld [0] 0 (eName 12)) (eNameB 10)) (eOp (opR (Ph (n0 + 10)) 6 oMul) (eNameB 9) (eFld [0] 1 (eName 12))))) (bOr (tOf (eOp (oC .le) (eFld [0] 1 (eName 11)) (eC (.int 0)))) (bOr (tOf (eOp (oC .le) (eFld [0] 1 (eName 12)) (eC (.int 0)))) (bOr (tOf (eOp (oEq 6 true) (eCall (Ph (n0 + 10)) 20 [] (aCons (eFld [0] 0 (eName 11)) (aCons (eFld [0] 1 (eName 11)) (aNil)))) (eC (.int 1)))) (tOf (eOp (oEq 6 true) (eCall (Ph (n0 + 10)) 20 [] (aCons (eFld [0] 0 (eName 12)) (aCons (eFld [0] 1 (eName 12)) (aNil)))) (eC (.int 1))))))))) (sRet (eC (.bl false))) (nxt)) : M TL.Flow) ⟨[.v (.scr ns), .v (.cell 0), .no, .no, .no, .no, .no, .v (.int n), .v (.int d), .v (.int m), .v (.int e), .v (.rat a), .v (.rat b), .no], ce4⟩ = .ok .nx ⟨[.v (.scr ns), .v (.cell 0), .no, .no, .no, .no, .no, .v (.int n), .v (.int d), .v (.int m), .v (.int e), .v (.rat a), .v (.rat b), .no], ce4⟩ := T4 n0 t _ _ _ _ _ _ _ _ _
  have h5 : ((sIf (bOr (tOf (eOp (oEq 6 true) (eOp (opR (Ph (n0 + 10)) 4 oAdd) (eNameB 11) (eNameB 12)) (eMake (Ph (n0 + 10)) 3 [] (aCons (eOp (opR (Ph (n0 + 10)) 4 oAdd) (eOp (opR (Ph (n0 + 10)) 6 oMul) (eNameB 7) (eNameB 10)) (eOp (opR (Ph (n0 + 10)) 6 oMul) (eNameB 9) (eNameB 8))) (aCons (eOp (opR (Ph (n0 + 10)) 6 oMul) (eNameB 8) (eNameB 10)) (aNil)))))) (bOr (tOf (eOp (oEq 6 true) (eOp (opR (Ph (n0 + 10)) 5 (oP .sub)) (eNameB 11) (eNameB 12)) (eMake (Ph (n0 + 10)) 3 [] (aCons (eOp (opR (Ph (n0 + 10)) 5 (oP .sub)) (eOp (opR (Ph (n0 + 10)) 6 oMul) (eNameB 7) (eNameB 10)) (eOp (opR (Ph (n0 + 10)) 6 oMul) (eNameB 9) (eNameB 8))) (aCons (eOp (opR (Ph (n0 + 10)) 6 oMul) (eNameB 8) (eNameB 10)) (aNil)))))) (bOr (tOf (eOp (oEq 6 true) (eOp (opR (Ph (n0 + 10)) 6 oMul) (eNameB 11) (eNameB 12)) (eMake (Ph (n0 + 10)) 3 [] (aCons (eOp (opR (Ph (n0 + 10)) 6 oMul) (eNameB 7) (eNameB 9)) (aCons (eOp (opR (Ph (n0 + 10)) 6 oMul) (eNameB 8) (eNameB 10)) (aNil)))))) (tOf (eOp (oEq 6 true) (M.bnd (eName 11) (oNeg (Ph (n0 + 10)) 7)) (eMake (Ph (n0 + 10)) 3 [] (aCons (M.bnd (eName 7) (oNeg (Ph (n0 + 10)) 7)) (aCons (eName 8) (aNil))))))))) (sRet (eC (.bl false))) (nxt)) : M TL.Flow) ⟨[.v (.scr ns), .v (.cell 0), .no, .no, .no, .no, .no, .v (.int n), .v (.int d), .v (.int m), .v (.int e), .v (.rat a), .v (.rat b), .no], ce4⟩ = .ok .nx ⟨[.v (.scr ns), .v (.cell 0), .no, .no, .no, .no, .no, .v (.int n), .v (.int d), .v (.int m), .v (.int e), .v (.rat a), .v (.rat b), .no], ce4⟩ := T5 n0 t _ _ _ _ _ _ _ _ _
  have h6 : ((sAsg (gN 2) (eCall (Ph (n0 + 10)) 24 [] (aCons (eC (.fn 22)) (aCons (eTup (aCons (eName 11) (aCons (eName 12) (aNil)))) (aNil))))) : M TL.Flow) ⟨[.v (.scr ns), .v (.cell 0), .no, .no, .no, .no, .no, .v (.int n), .v (.int d), .v (.int m), .v (.int e), .v (.rat a), .v (.rat b), .no], ce4⟩ = .ok .nx ⟨[.v (.scr ns), .v (.cell 0), .v (toldD n d m e), .no, .no, .no, .no, .v (.int n), .v (.int d), .v (.int m), .v (.int e), .v (.rat a), .v (.rat b), .no], ce4⟩ := T6 n0 t _ _ _ _ _ _ _ _ _
  have h7 : ((sIf (tOf (eOp (oEq 6 true) (eNameB 2) (eIf (tOf (eOp (oEq 6 false) (eNameB 9) (eC (.int 0)))) (eTup (aCons (eC (.str "zero")) (aCons (eC .non) (aNil)))) (eTup (aCons (eC (.str "told")) (aCons (eMake (Ph (n0 + 10)) 3 [] (aCons (eOp (opR (Ph (n0 + 10)) 6 oMul) (eNameB 7) (eNameB 10)) (aCons (eOp (opR (Ph (n0 + 10)) 6 oMul) (eNameB 8) (eNameB 9)) (aNil)))) (aNil))))))) (sRet (eC (.bl false))) (nxt)) : M TL.Flow) ⟨[.v (.scr ns), .v (.cell 0), .v (toldD n d m e), .no, .no, .no, .no, .v (.int n), .v (.int d), .v (.int m), .v (.int e), .v (.rat a), .v (.rat b), .no], ce4⟩ = .ok .nx ⟨[.v (.scr ns), .v (.cell 0), .v (toldD n d m e), .no, .no, .no, .no, .v (.int n), .v (.int d), .v (.int m), .v (.int e), .v (.rat a), .v (.rat b), .no], ce4⟩ := T7 n0 t _ _ .no _ _ _ _ _ _
  have h8 : ((sIf (bOr (bNot (tOf (eCall (Ph (n0 + 10)) 19 [] (aCons (eMeth (Ph (n0 + 10)) [(0, 11)] 4 (eName 11) aNil) (aCons (eIf (tOf (eOp (oC .gt) (eNameB 7) (eC (.int 0)))) (eC (.int 1)) (eIf (tOf (eOp (oC .lt) (eNameB 7) (eC (.int 0)))) (M.bnd (eC (.int 1)) oNegI) (eC (.int 0)))) (aNil)))))) (bOr (bNot (tOf (eCall (Ph (n0 + 10)) 17 [] (aCons (eMeth (Ph (n0 + 10)) [(0, 12)] 5 (eName 11) aNil) (aCons (eOp (oEq 6 false) (eOp (oP .mod) (eNameB 7) (eNameB 8)) (eC (.int 0))) (aNil)))))) (bNot (tOf (eCall (Ph (n0 + 10)) 17 [] (aCons (eOp (oEq 6 false) (eNameB 11) (eNameB 12)) (aCons (eOp (oEq 6 false) (eOp (opR (Ph (n0 + 10)) 6 oMul) (eNameB 7) (eNameB 10)) (eOp (opR (Ph (n0 + 10)) 6 oMul) (eNameB 9) (eNameB 8))) (aNil)))))))) (sRet (eC (.bl false))) (nxt)) : M TL.Flow) ⟨[.v (.scr ns), .v (.cell 0), .v (toldD n d m e), .no, .no, .no, .no, .v (.int n), .v (.int d), .v (.int m), .v (.int e), .v (.rat a), .v (.rat b), .no], ce4⟩ = .ok .nx ⟨[.v (.scr ns), .v (.cell 0), .v (toldD n d m e), .no, .no, .no, .no, .v (.int n), .v (.int d), .v (.int m), .v (.int e), .v (.rat a), .v (.rat b), .no], ce4⟩ := T8 n0 t _ _ _ _ _ _ _ _ _
  have h9 : ((sAsg (gN 3) (eIf (tOf (eOp (oEq 6 false) (eFld [0] 1 (eName 11)) (eC (.int 1)))) (M.bnd (eFld [0] 0 (eName 11)) (strO (Ph (n0 + 10)) 9)) (eOp (opR (Ph (n0 + 10)) 4 oAdd) (eOp (opR (Ph (n0 + 10)) 4 oAdd) (M.bnd (eFld [0] 0 (eName 11)) (strO (Ph (n0 + 10)) 9)) (eC (.str "/"))) (M.bnd (eFld [0] 1 (eName 11)) (strO (Ph (n0 + 10)) 9))))) : M TL.Flow) ⟨[.v (.scr ns), .v (.cell 0), .v (toldD n d m e), .no, .no, .no, .no, .v (.int n), .v (.int d), .v (.int m), .v (.int e), .v (.rat a), .v (.rat b), .no], ce4⟩ = .ok .nx ⟨[.v (.scr ns), .v (.cell 0), .v (toldD n d m e), .v (.str (tx (strR a))), .no, .no, .no, .v (.int n), .v (.int d), .v (.int m), .v (.int e), .v (.rat a), .v (.rat b), .no], ce4⟩ := T9 n0 t _ _ _ _ _ _ _ _ _
  have h10 : ((sIf (bOr (tOf (eOp (oEq 6 true) (M.bnd (eName 11) (strO (Ph (n0 + 10)) 9)) (eNameB 3))) (bOr (tOf (eOp (oEq 6 true) (eCall (Ph (n0 + 10)) 14 [] (aCons (eName 3) (aNil))) (eNameB 11))) (bOr (tOf (eOp (oEq 6 false) (eNameB 11) (eNameB 7))) (bOr (tOf (eOp (oEq 6 false) (eNameB 11) (eNameB 3))) (bNot (tOf (eOp (oEq 6 false) (eNameB 11) (eMake (Ph (n0 + 10)) 3 [] (aCons (eOp (opR (Ph (n0 + 10)) 6 oMul) (eC (.int 3)) (eNameB 7)) (aCons (eOp (opR (Ph (n0 + 10)) 6 oMul) (eC (.int 3)) (eNameB 8)) (aNil))))))))))) (sRet (eC (.bl false))) (nxt)) : M TL.Flow) ⟨[.v (.scr ns), .v (.cell 0), .v (toldD n d m e), .v (.str (tx (strR a))), .no, .no, .no, .v (.int n), .v (.int d), .v (.int m), .v (.int e), .v (.rat a), .v (.rat b), .no], ce4⟩ = .ok .nx ⟨[.v (.scr ns), .v (.cell 0), .v (toldD n d m e), .v (.str (tx (strR a))), .no, .no, .no, .v (.int n), .v (.int d), .v (.int m), .v (.int e), .v (.rat a), .v (.rat b), .no], ce4⟩ := T10 n0 t _ _ _ .no _ _ _ _ _
  obtain ⟨t4, h11⟩ := T11 n0 t (.v (.scr ns)) (.v (.cell 0)) (.v (toldD n d m e)) (.v (.str (tx (strR a)))) .no .no .no .no ce4
  obtain ⟨l, hl, h12⟩ := T12 n0 t (.v (.scr ns)) (.v (.cell 0)) (.v (toldD n d m e)) .no t4 .no .no .no ce4
  have h13 : ((sIf (bAnd (tOf (eOp (oEq 6 false) (eIx (eCall (Ph (n0 + 10)) 24 [] (aCons (eC (.fn 14)) (aCons (eTup (aCons (eName 5) (aNil))) (aNil)))) (eC (.int 0))) (eC (.str "told")))) (tOf (eOp (oEq 6 true) (M.bnd (eCall (Ph (n0 + 10)) 14 [] (aCons (eName 5) (aNil))) (strO (Ph (n0 + 10)) 9)) (eNameB 5)))) (sRet (eC (.bl false))) (nxt)) : M TL.Flow) ⟨[.v (.scr ns), .v (.cell 0), .v (toldD n d m e), .v (.str (tx (strR a))), t4, .v (.str (tx l)), .no, .v (.int n), .v (.int d), .v (.int m), .v (.int e), .v (.rat a), .v (.rat b), .no], ce4⟩ = .ok .nx ⟨[.v (.scr ns), .v (.cell 0), .v (toldD n d m e), .v (.str (tx (strR a))), t4, .v (.str (tx l)), .no, .v (.int n), .v (.int d), .v (.int m), .v (.int e), .v (.rat a), .v (.rat b), .no], ce4⟩ := T13 n0 hl _ _ _ _ _ .no _ _ _
  have h14 : ((sIf (tOf (eOp (oEq 6 true) (eL (fLc [13] (wV (eTup (aCons (eTup (aCons (eC (.int 1)) (aCons (eC (.int 0)) (aNil)))) (aCons (eTup (aCons (eC (.int 0)) (aCons (eC (.int 0)) (aNil)))) (aNil))))) (gN 13) (M.ret true) (eCall (Ph (n0 + 10)) 24 [] (aCons (eC (.fn 21)) (aCons (eName 13) (aNil)))))) (eL (fOp fMulK (eL (fLst (aCons (eTup (aCons (eC (.str "zero")) (aCons (eC .non) (aNil)))) (aNil)))) (eC (.int 2)))))) (sRet (eC (.bl false))) (nxt)) : M TL.Flow) ⟨[.v (.scr ns), .v (.cell 0), .v (toldD n d m e), .v (.str (tx (strR a))), t4, .v (.str (tx l)), .no, .v (.int n), .v (.int d), .v (.int m), .v (.int e), .v (.rat a), .v (.rat b), .no], ce4⟩ = .ok .nx ⟨[.v (.scr ns), .v (.cell 0), .v (toldD n d m e), .v (.str (tx (strR a))), t4, .v (.str (tx l)), .no, .v (.int n), .v (.int d), .v (.int m), .v (.int e), .v (.rat a), .v (.rat b), .no], ce4⟩ := T14 n0 t _ _ _ _ _ _ _ _
  have h15 : ((sOwn 6 (fLst (aCons (eTup (aCons (eC (.int 1)) (aCons (eC .non) (aNil)))) (aCons (eTup (aCons (eC .non) (aCons (eC (.int 1)) (aNil)))) (aCons (eTup (aCons (eC (.bl true)) (aCons (eC (.int 2)) (aNil)))) (aCons (eTup (aCons (eC (.str "1")) (aCons (eC (.int 1)) (aNil)))) (aCons (eTup (aCons (eC (.int 1)) (aCons (eC (.bl true)) (aNil)))) (aCons (eTup (aCons (eTup (aCons (eC (.int 1)) (aNil))) (aCons (eC (.int 1)) (aNil)))) (aNil))))))))) : M TL.Flow) ⟨[.v (.scr ns), .v (.cell 0), .v (toldD n d m e), .v (.str (tx (strR a))), t4, .v (.str (tx l)), .no, .v (.int n), .v (.int d), .v (.int m), .v (.int e), .v (.rat a), .v (.rat b), .no], ce4⟩ = .ok .nx ⟨[.v (.scr ns), .v (.cell 0), .v (toldD n d m e), .v (.str (tx (strR a))), t4, .v (.str (tx l)), .own tried, .v (.int n), .v (.int d), .v (.int m), .v (.int e), .v (.rat a), .v (.rat b), .no], ce4⟩ := T15 n0 t _ _ _ _ _ _ _ _ _
  have h16 : ((sIf (tOf (eOp (oEq 6 true) (eL (fLc [13] (wV (eName 6)) (gN 13) (M.ret true) (eIx (eCall (Ph (n0 + 10)) 24 [] (aCons (eC (.fn 21)) (aCons (eName 13) (aNil)))) (eC (.int 0))))) (eL (fOp fMulK (eL (fLst (aCons (eC (.str "malformed")) (aNil)))) (eC (.int 6)))))) (sRet (eC (.bl false))) (nxt)) : M TL.Flow) ⟨[.v (.scr ns), .v (.cell 0), .v (toldD n d m e), .v (.str (tx (strR a))), t4, .v (.str (tx l)), .own tried, .v (.int n), .v (.int d), .v (.int m), .v (.int e), .v (.rat a), .v (.rat b), .no], ce4⟩ = .ok .nx ⟨[.v (.scr ns), .v (.cell 0), .v (toldD n d m e), .v (.str (tx (strR a))), t4, .v (.str (tx l)), .v (.lst tried), .v (.int n), .v (.int d), .v (.int m), .v (.int e), .v (.rat a), .v (.rat b), .no], ce4⟩ := T16 n0 t _ _ _ _ _ _ .no _
  obtain ⟨t4b, h17⟩ := T17 n0 t (.v (.scr ns)) (.v (.cell 0)) (.v (toldD n d m e)) (.v (.str (tx (strR a)))) t4 (.v (.str (tx l))) (.v (.lst tried)) .no ce4
  refine ⟨ce4, ?_⟩
  rw [e_law, ap_arity, if_pos (show [D.scr ns].length = 1 by rfl), ap_runF]
  show finF (B_law (Ph (n0 + 10)) ⟨[.v (.scr ns), .no, .no, .no, .no, .no, .no, .no, .no, .no, .no, .no, .no, .no], []⟩) = _
  unfold B_law
  rw [ap_seq, h0, sq_nx, ap_seq, h1, sq_nx, ap_seq, h2, sq_nx, ap_seq, h3, sq_nx, ap_seq, h4, sq_nx, ap_seq, h5, sq_nx, ap_seq, h6, sq_nx, ap_seq, h7, sq_nx, ap_seq, h8, sq_nx, ap_seq, h9, sq_nx, ap_seq, h10, sq_nx, ap_seq, h11, sq_nx, ap_seq, h12, sq_nx, ap_seq, h13, sq_nx, ap_seq, h14, sq_nx, ap_seq, h15, sq_nx, ap_seq, h16, sq_nx, ap_seq, h17, sq_nx]
  rfl

end Lw

end
section
set_option Elab.async false
set_option linter.all false
set_option maxRecDepth 100000
set_option maxHeartbeats 0
namespace Lw
open PySem L2 TL
section
variable {K : PySem.W.Frag} {mg : Str → Option Value} {Φ : Phi} {P : Program} {w : World} {base : Heap} {k : Nat} {fd : FuncData}
theorem sc_is_integer : FnScope ["value"] ["value"] (defScope s_is_integer) := ⟨rfl, rfl, rfl, by decide +kernel, rfl, by decide +kernel, by decide +kernel⟩
theorem k_is_integer (fx : Fx K mg) (lv : Lv K mg Φ P w base k) (FD : FunD (tb K mg).K "is_integer" "is_integer" (defArgs s_is_integer) (defBody s_is_integer) (defScope s_is_integer) [] [] ((tb K mg).fa 1) fd) : FnOk P w (tb K mg).K (tb K mg).mg base (L2.CX P w) (k + 8) ((tb K mg).fa 1) fd ["value"] (spF (tb K mg) (stp Φ 1)) :=
  fn_F (k := k + 7) (N := ["value"]) (m := B_is_integer Φ) FD sc_is_integer (fun cdv A outer s H E hr C => by
  have h0 := hr.mono (show k ≤ k + 7 by omega)
  have h1 := hr.mono (show k + 1 ≤ k + 7 by omega)
  exact ss_one (s_ret (s_and (s_isi C fx.isq (sb_name 0) (k_ty C (fx.f 2) (by decide +kernel)) rfl (fx.f 0)) (s_one (s_not (s_isi C fx.isq (sb_name 0) (k_ty C (fx.f 1) (by decide +kernel)) rfl (fx.f 0)))))))
theorem sc_common : FnScope ["a", "b"] ["a", "b"] (defScope s_common) := ⟨rfl, rfl, rfl, by decide +kernel, rfl, by decide +kernel, by decide +kernel⟩
theorem k_common (fx : Fx K mg) (lv : Lv K mg Φ P w base k) (FD : FunD (tb K mg).K "common" "common" (defArgs s_common) (defBody s_common) (defScope s_common) [] [] ((tb K mg).fa 2) fd) : FnOk P w (tb K mg).K (tb K mg).mg base (L2.CX P w) (k + 8) ((tb K mg).fa 2) fd ["a", "b"] (spF (tb K mg) (stp Φ 2)) :=
  fn_F (k := k + 7) (N := ["a", "b"]) (m := B_common Φ) FD sc_common (fun cdv A outer s H E hr C => by
  have h0 := hr.mono (show k ≤ k + 7 by omega)
  have h1 := hr.mono (show k + 1 ≤ k + 7 by omega)
  exact ss_cons (s_par 0 1 C (s_cons (s_abs C (sb_name 0) rfl (fx.f 3)) (s_cons (s_abs C (sb_name 1) rfl (fx.f 3)) (s_nil)))) (ss_cons (s_while NF C (t_cmp (op_eq' 6 ⟨C, lv.eq⟩ hr true) (sb_name 1) ((SndE.b (s_int))) (by rfl)) (ss_one (s_par 0 1 C (s_cons (s_name 1) (s_cons (s_op op_mod' (sb_name 0) (sb_name 1)) (s_nil)))))) (ss_one (s_retO 0))))
theorem sc_Ratio___add__ : FnScope ["self", "other"] ["self", "other"] (defScope s_Ratio___add__) := ⟨rfl, rfl, rfl, by decide +kernel, rfl, by decide +kernel, by decide +kernel⟩
theorem k_Ratio___add__ (fx : Fx K mg) (lv : Lv K mg Φ P w base k) (FD : FunD (tb K mg).K "__add__" "Ratio.__add__" (defArgs s_Ratio___add__) (defBody s_Ratio___add__) (defScope s_Ratio___add__) [] [] ((tb K mg).fa 4) fd) : FnOk P w (tb K mg).K (tb K mg).mg base (L2.CX P w) (k + 8) ((tb K mg).fa 4) fd ["self", "other"] (spF (tb K mg) (stp Φ 4)) :=
  fn_F (k := k + 7) (N := ["self", "other"]) (m := B_Ratio___add__ Φ) FD sc_Ratio___add__ (fun cdv A outer s H E hr C => by
  have h0 := hr.mono (show k ≤ k + 7 by omega)
  have h1 := hr.mono (show k + 1 ≤ k + 7 by omega)
  exact ss_cons (s_expr (s_call C (lv.fn 13 rfl) h0 (fx.g 9) (List.Mem.head _) (s_cons (s_name 1) (s_nil)))) (ss_one (s_ret (s_make C (lv.make 0 3 rfl) h1 (fx.g 8) (List.Mem.head _) (s_cons (s_op (op_R C fx.opq_Add (lv.fn 4 rfl) h0 (op_addL C)) ((SndE.b (s_op (op_R C fx.opq_Mult (lv.fn 6 rfl) h0 (op_mulL C)) ((SndE.b (s_fld C fx.fq_n rfl (s_name 0)))) ((SndE.b (s_fld C fx.fq_d rfl (s_name 1))))))) ((SndE.b (s_op (op_R C fx.opq_Mult (lv.fn 6 rfl) h0 (op_mulL C)) ((SndE.b (s_fld C fx.fq_n rfl (s_name 1)))) ((SndE.b (s_fld C fx.fq_d rfl (s_name 0)))))))) (s_cons (s_op (op_R C fx.opq_Mult (lv.fn 6 rfl) h0 (op_mulL C)) ((SndE.b (s_fld C fx.fq_d rfl (s_name 0)))) ((SndE.b (s_fld C fx.fq_d rfl (s_name 1))))) (s_nil)))))))
theorem sc_Ratio___sub__ : FnScope ["self", "other"] ["self", "other"] (defScope s_Ratio___sub__) := ⟨rfl, rfl, rfl, by decide +kernel, rfl, by decide +kernel, by decide +kernel⟩
theorem k_Ratio___sub__ (fx : Fx K mg) (lv : Lv K mg Φ P w base k) (FD : FunD (tb K mg).K "__sub__" "Ratio.__sub__" (defArgs s_Ratio___sub__) (defBody s_Ratio___sub__) (defScope s_Ratio___sub__) [] [] ((tb K mg).fa 5) fd) : FnOk P w (tb K mg).K (tb K mg).mg base (L2.CX P w) (k + 8) ((tb K mg).fa 5) fd ["self", "other"] (spF (tb K mg) (stp Φ 5)) :=
  fn_F (k := k + 7) (N := ["self", "other"]) (m := B_Ratio___sub__ Φ) FD sc_Ratio___sub__ (fun cdv A outer s H E hr C => by
  have h0 := hr.mono (show k ≤ k + 7 by omega)
  have h1 := hr.mono (show k + 1 ≤ k + 7 by omega)
  exact ss_cons (s_expr (s_call C (lv.fn 13 rfl) h0 (fx.g 9) (List.Mem.head _) (s_cons (s_name 1) (s_nil)))) (ss_one (s_ret (s_make C (lv.make 0 3 rfl) h1 (fx.g 8) (List.Mem.head _) (s_cons (s_op (op_R C fx.opq_Sub (lv.fn 5 rfl) h0 op_sub') ((SndE.b (s_op (op_R C fx.opq_Mult (lv.fn 6 rfl) h0 (op_mulL C)) ((SndE.b (s_fld C fx.fq_n rfl (s_name 0)))) ((SndE.b (s_fld C fx.fq_d rfl (s_name 1))))))) ((SndE.b (s_op (op_R C fx.opq_Mult (lv.fn 6 rfl) h0 (op_mulL C)) ((SndE.b (s_fld C fx.fq_n rfl (s_name 1)))) ((SndE.b (s_fld C fx.fq_d rfl (s_name 0)))))))) (s_cons (s_op (op_R C fx.opq_Mult (lv.fn 6 rfl) h0 (op_mulL C)) ((SndE.b (s_fld C fx.fq_d rfl (s_name 0)))) ((SndE.b (s_fld C fx.fq_d rfl (s_name 1))))) (s_nil)))))))
theorem sc_Ratio___mul__ : FnScope ["self", "other"] ["self", "other"] (defScope s_Ratio___mul__) := ⟨rfl, rfl, rfl, by decide +kernel, rfl, by decide +kernel, by decide +kernel⟩
theorem k_Ratio___mul__ (fx : Fx K mg) (lv : Lv K mg Φ P w base k) (FD : FunD (tb K mg).K "__mul__" "Ratio.__mul__" (defArgs s_Ratio___mul__) (defBody s_Ratio___mul__) (defScope s_Ratio___mul__) [] [] ((tb K mg).fa 6) fd) : FnOk P w (tb K mg).K (tb K mg).mg base (L2.CX P w) (k + 8) ((tb K mg).fa 6) fd ["self", "other"] (spF (tb K mg) (stp Φ 6)) :=
  fn_F (k := k + 7) (N := ["self", "other"]) (m := B_Ratio___mul__ Φ) FD sc_Ratio___mul__ (fun cdv A outer s H E hr C => by
  have h0 := hr.mono (show k ≤ k + 7 by omega)
  have h1 := hr.mono (show k + 1 ≤ k + 7 by omega)
  exact ss_cons (s_expr (s_call C (lv.fn 13 rfl) h0 (fx.g 9) (List.Mem.head _) (s_cons (s_name 1) (s_nil)))) (ss_one (s_ret (s_make C (lv.make 0 3 rfl) h1 (fx.g 8) (List.Mem.head _) (s_cons (s_op (op_R C fx.opq_Mult (lv.fn 6 rfl) h0 (op_mulL C)) ((SndE.b (s_fld C fx.fq_n rfl (s_name 0)))) ((SndE.b (s_fld C fx.fq_n rfl (s_name 1))))) (s_cons (s_op (op_R C fx.opq_Mult (lv.fn 6 rfl) h0 (op_mulL C)) ((SndE.b (s_fld C fx.fq_d rfl (s_name 0)))) ((SndE.b (s_fld C fx.fq_d rfl (s_name 1))))) (s_nil)))))))
theorem sc_Ratio___neg__ : FnScope ["self"] ["self"] (defScope s_Ratio___neg__) := ⟨rfl, rfl, rfl, by decide +kernel, rfl, by decide +kernel, by decide +kernel⟩
theorem k_Ratio___neg__ (fx : Fx K mg) (lv : Lv K mg Φ P w base k) (FD : FunD (tb K mg).K "__neg__" "Ratio.__neg__" (defArgs s_Ratio___neg__) (defBody s_Ratio___neg__) (defScope s_Ratio___neg__) [] [] ((tb K mg).fa 7) fd) : FnOk P w (tb K mg).K (tb K mg).mg base (L2.CX P w) (k + 8) ((tb K mg).fa 7) fd ["self"] (spF (tb K mg) (stp Φ 7)) :=
  fn_F (k := k + 7) (N := ["self"]) (m := B_Ratio___neg__ Φ) FD sc_Ratio___neg__ (fun cdv A outer s H E hr C => by
  have h0 := hr.mono (show k ≤ k + 7 by omega)
  have h1 := hr.mono (show k + 1 ≤ k + 7 by omega)
  exact ss_one (s_ret (s_make C (lv.make 0 3 rfl) h1 (fx.g 8) (List.Mem.head _) (s_cons (s_neg C fx.negq (lv.fn 7 rfl) h0 (s_fld C fx.fq_n rfl (s_name 0))) (s_cons (s_fld C fx.fq_d rfl (s_name 0)) (s_nil))))))
theorem sc_Ratio___eq__ : FnScope ["self", "other"] ["self", "other"] (defScope s_Ratio___eq__) := ⟨rfl, rfl, rfl, by decide +kernel, rfl, by decide +kernel, by decide +kernel⟩
theorem k_Ratio___eq__ (fx : Fx K mg) (FD : FunD (tb K mg).K "__eq__" "Ratio.__eq__" (defArgs s_Ratio___eq__) (defBody s_Ratio___eq__) (defScope s_Ratio___eq__) [] [] ((tb K mg).fa 8) fd) : FnOk P w (tb K mg).K (tb K mg).mg base (L2.CX P w) (k + 8) ((tb K mg).fa 8) fd ["self", "other"] (spF (tb K mg) (stp Φ 8)) :=
  fn_F (k := k + 7) (N := ["self", "other"]) (m := B_Ratio___eq__ Φ) FD sc_Ratio___eq__ (fun cdv A outer s H E hr C => by
  have h0 := hr.mono (show k ≤ k + 7 by omega)
  have h1 := hr.mono (show k + 1 ≤ k + 7 by omega)
  exact ss_one (s_ret (s_and (s_isi C fx.isq (sb_name 1) (k_own C (fx.g 8)) rfl (fx.f 0)) (s_and (s_cmp (op_eqF false) ((SndE.b (s_fld C fx.fq_n rfl (s_name 0)))) ((SndE.b (s_fld C fx.fq_n rfl (s_name 1)))) (by rfl)) (s_one (s_cmp (op_eqF false) ((SndE.b (s_fld C fx.fq_d rfl (s_name 0)))) ((SndE.b (s_fld C fx.fq_d rfl (s_name 1)))) (by rfl)))))))
theorem sc_Ratio___str__ : FnScope ["self"] ["self"] (defScope s_Ratio___str__) := ⟨rfl, rfl, rfl, by decide +kernel, rfl, by decide +kernel, by decide +kernel⟩
theorem k_Ratio___str__ (fx : Fx K mg) (lv : Lv K mg Φ P w base k) (FD : FunD (tb K mg).K "__str__" "Ratio.__str__" (defArgs s_Ratio___str__) (defBody s_Ratio___str__) (defScope s_Ratio___str__) [] [] ((tb K mg).fa 9) fd) : FnOk P w (tb K mg).K (tb K mg).mg base (L2.CX P w) (k + 8) ((tb K mg).fa 9) fd ["self"] (spF (tb K mg) (stp Φ 9)) :=
  fn_F (k := k + 7) (N := ["self"]) (m := B_Ratio___str__ Φ) FD sc_Ratio___str__ (fun cdv A outer s H E hr C => by
  have h0 := hr.mono (show k ≤ k + 7 by omega)
  have h1 := hr.mono (show k + 1 ≤ k + 7 by omega)
  exact ss_cons (s_ifS (t_cmp (op_eq' 6 ⟨C, lv.eq⟩ hr false) ((SndE.b (s_fld C fx.fq_d rfl (s_name 0)))) ((SndE.b (s_int))) (by rfl)) (ss_one (s_ret (s_strO C fx.strq (lv.fn 9 rfl) (hr.mono (by omega)) (s_fld C fx.fq_n rfl (s_name 0)) rfl (fx.f 10)))) (ss_nil)) (ss_one (s_ret (s_fs (.cons (s_fmt (s_fld C fx.fq_n rfl (s_name 0))) (.cons (s_str) (.cons (s_fmt (s_fld C fx.fq_d rfl (s_name 0))) .nil)))))))
theorem sc_Ratio_over : FnScope ["self", "other"] ["self", "other"] (defScope s_Ratio_over) := ⟨rfl, rfl, rfl, by decide +kernel, rfl, by decide +kernel, by decide +kernel⟩
theorem k_Ratio_over (fx : Fx K mg) (lv : Lv K mg Φ P w base k) (FD : FunD (tb K mg).K "over" "Ratio.over" (defArgs s_Ratio_over) (defBody s_Ratio_over) (defScope s_Ratio_over) [] [] ((tb K mg).fa 10) fd) : FnOk P w (tb K mg).K (tb K mg).mg base (L2.CX P w) (k + 8) ((tb K mg).fa 10) fd ["self", "other"] (spF (tb K mg) (stp Φ 10)) :=
  fn_F (k := k + 7) (N := ["self", "other"]) (m := B_Ratio_over Φ) FD sc_Ratio_over (fun cdv A outer s H E hr C => by
  have h0 := hr.mono (show k ≤ k + 7 by omega)
  have h1 := hr.mono (show k + 1 ≤ k + 7 by omega)
  exact ss_cons (s_expr (s_call C (lv.fn 13 rfl) h0 (fx.g 9) (List.Mem.head _) (s_cons (s_name 1) (s_nil)))) (ss_one (s_ret (s_make C (lv.make 0 3 rfl) h1 (fx.g 8) (List.Mem.head _) (s_cons (s_op (op_R C fx.opq_Mult (lv.fn 6 rfl) h0 (op_mulL C)) ((SndE.b (s_fld C fx.fq_n rfl (s_name 0)))) ((SndE.b (s_fld C fx.fq_d rfl (s_name 1))))) (s_cons (s_op (op_R C fx.opq_Mult (lv.fn 6 rfl) h0 (op_mulL C)) ((SndE.b (s_fld C fx.fq_d rfl (s_name 0)))) ((SndE.b (s_fld C fx.fq_n rfl (s_name 1))))) (s_nil)))))))
theorem sc_Ratio_sign : FnScope ["self"] ["self"] (defScope s_Ratio_sign) := ⟨rfl, rfl, rfl, by decide +kernel, rfl, by decide +kernel, by decide +kernel⟩
theorem k_Ratio_sign (fx : Fx K mg) (lv : Lv K mg Φ P w base k) (FD : FunD (tb K mg).K "sign" "Ratio.sign" (defArgs s_Ratio_sign) (defBody s_Ratio_sign) (defScope s_Ratio_sign) [] [] ((tb K mg).fa 11) fd) : FnOk P w (tb K mg).K (tb K mg).mg base (L2.CX P w) (k + 8) ((tb K mg).fa 11) fd ["self"] (spF (tb K mg) (stp Φ 11)) :=
  fn_F (k := k + 7) (N := ["self"]) (m := B_Ratio_sign Φ) FD sc_Ratio_sign (fun cdv A outer s H E hr C => by
  have h0 := hr.mono (show k ≤ k + 7 by omega)
  have h1 := hr.mono (show k + 1 ≤ k + 7 by omega)
  exact ss_one (s_ret (s_if (t_cmp op_gt' ((SndE.b (s_fld C fx.fq_n rfl (s_name 0)))) ((SndE.b (s_int))) (by rfl)) (s_int) (s_if (t_cmp op_lt' ((SndE.b (s_fld C fx.fq_n rfl (s_name 0)))) ((SndE.b (s_int))) (by rfl)) (s_negI (s_int)) (s_int)))))
theorem sc_Ratio_is_whole : FnScope ["self"] ["self"] (defScope s_Ratio_is_whole) := ⟨rfl, rfl, rfl, by decide +kernel, rfl, by decide +kernel, by decide +kernel⟩
theorem k_Ratio_is_whole (fx : Fx K mg) (lv : Lv K mg Φ P w base k) (FD : FunD (tb K mg).K "is_whole" "Ratio.is_whole" (defArgs s_Ratio_is_whole) (defBody s_Ratio_is_whole) (defScope s_Ratio_is_whole) [] [] ((tb K mg).fa 12) fd) : FnOk P w (tb K mg).K (tb K mg).mg base (L2.CX P w) (k + 8) ((tb K mg).fa 12) fd ["self"] (spF (tb K mg) (stp Φ 12)) :=
  fn_F (k := k + 7) (N := ["self"]) (m := B_Ratio_is_whole Φ) FD sc_Ratio_is_whole (fun cdv A outer s H E hr C => by
  have h0 := hr.mono (show k ≤ k + 7 by omega)
  have h1 := hr.mono (show k + 1 ≤ k + 7 by omega)
  exact ss_one (s_ret (s_cmp (op_eq' 6 ⟨C, lv.eq⟩ hr false) ((SndE.b (s_fld C fx.fq_d rfl (s_name 0)))) ((SndE.b (s_int))) (by rfl))))
theorem sc_check_ratio : FnScope ["value"] ["value"] (defScope s_check_ratio) := ⟨rfl, rfl, rfl, by decide +kernel, rfl, by decide +kernel, by decide +kernel⟩
theorem k_check_ratio (fx : Fx K mg) (lv : Lv K mg Φ P w base k) (FD : FunD (tb K mg).K "check_ratio" "check_ratio" (defArgs s_check_ratio) (defBody s_check_ratio) (defScope s_check_ratio) [] [] ((tb K mg).fa 13) fd) : FnOk P w (tb K mg).K (tb K mg).mg base (L2.CX P w) (k + 8) ((tb K mg).fa 13) fd ["value"] (spF (tb K mg) (stp Φ 13)) :=
  fn_F (k := k + 7) (N := ["value"]) (m := B_check_ratio Φ) FD sc_check_ratio (fun cdv A outer s H E hr C => by
  have h0 := hr.mono (show k ≤ k + 7 by omega)
  have h1 := hr.mono (show k + 1 ≤ k + 7 by omega)
  exact ss_one (s_ifS (t_not (t_val (s_isi C fx.isq (sb_name 0) (k_own C (fx.g 8)) rfl (fx.f 0)))) (ss_one (s_raise0 C PySem.F.excBase_ValueError fx.rz_Malformed (fx.g 7))) (ss_nil)))
theorem sc_read_ratio : FnScope ["text", "piece", "found", "top", "slash", "low", "c"] ["text"] (defScope s_read_ratio) := ⟨rfl, rfl, rfl, by decide +kernel, rfl, by decide +kernel, by decide +kernel⟩
theorem k_read_ratio (fx : Fx K mg) (lv : Lv K mg Φ P w base k) (FD : FunD (tb K mg).K "read_ratio" "read_ratio" (defArgs s_read_ratio) (defBody s_read_ratio) (defScope s_read_ratio) [] [] ((tb K mg).fa 14) fd) : FnOk P w (tb K mg).K (tb K mg).mg base (L2.CX P w) (k + 8) ((tb K mg).fa 14) fd ["text"] (spF (tb K mg) (stp Φ 14)) :=
  fn_F (k := k + 7) (N := ["text", "piece", "found", "top", "slash", "low", "c"]) (m := B_read_ratio Φ) FD sc_read_ratio (fun cdv A outer s H E hr C => by
  have h0 := hr.mono (show k ≤ k + 7 by omega)
  have h1 := hr.mono (show k + 1 ≤ k + 7 by omega)
  exact ss_cons (s_ifS (PW.pt (w_or (t_not (t_val (s_isi C fx.isq (sb_name 0) (k_ty C (fx.f 10) (by decide +kernel)) rfl (fx.f 0)))) (w_or1 (t_cmp op_gt' ((SndE.b (s_len C (sb_name 0) rfl (fx.f 13)))) ((SndE.b ((fx.i 14).elim fun _ hh => s_glob (v := .int 400) C hh ⟨_, rfl⟩ (fun _ => rfl)))) (by rfl))))) (ss_one (s_raiseX C fx.rz_NoText lv.xi_NoText h1 (fx.g 11) (s_cons (s_int) (s_nil)))) (ss_nil)) (ss_cons (s_asg (s_mth PySem.F.plainAttrs_str PySem.F.slot_str_partition PySem.F.type_str_partition mt_partition mth_pt (s_mth PySem.F.plainAttrs_str PySem.F.slot_str_removeprefix PySem.F.type_str_removeprefix mt_removeprefix mth_rp (s_name 0) (s_cons (s_str) (s_nil))) (s_cons (s_str) (s_nil))) (g_tup 3 C (gs_cons (g_name 3 C) (gs_cons (g_name 4 C) (gs_cons (g_name 5 C) (gs_nil)))))) (ss_cons (s_for C (i_val C (s_tup (s_cons (s_name 3) (s_cons (s_if (t_cmp (op_eq' 6 ⟨C, lv.eq⟩ hr false) (sb_name 4) ((SndE.b (s_str))) (by rfl)) (s_name 5) (s_str)) (s_nil))))) (g_name 1 C) (ss_one (s_ifS (PW.pt (w_or (t_cmp (op_eq' 6 ⟨C, lv.eq⟩ hr false) (sb_name 1) ((SndE.b (s_str))) (by rfl)) (w_or1 (t_not (t_val (s_all C ((SndE.b (SndF.e (f_lc C (i_val C (s_name 1)) (own := [(("c" : Str), 6)]) (blkOk_by (by rfl)) (fun s H A cl fp C => g_name 6 C) (fun s H A cl fp C => ts_nil) (fun s H A cl fp C => s_chain op_le' op_le' ((SndE.b (s_str))) (sb_name 6) ((SndE.b (s_str)))))))) rfl (fx.f 12))))))) (ss_one (s_raiseX C fx.rz_NoText lv.xi_NoText h1 (fx.g 11) (s_cons (s_int) (s_nil)))) (ss_nil)))) (ss_cons (s_ifS (PW.pt (w_and (t_cmp (op_eq' 6 ⟨C, lv.eq⟩ hr false) (sb_name 4) ((SndE.b (s_str))) (by rfl)) (w_and1 (t_cmp (op_eq' 6 ⟨C, lv.eq⟩ hr false) ((SndE.b (s_int' C (sb_name 5) rfl (fx.f 2)))) ((SndE.b (s_int))) (by rfl))))) (ss_one (s_raiseX C fx.rz_NoText lv.xi_NoText h1 (fx.g 11) (s_cons (s_int) (s_nil)))) (ss_nil)) (ss_cons (s_set 2 C (s_make C (lv.make 0 3 rfl) h1 (fx.g 8) (List.Mem.head _) (s_cons (s_int' C (sb_name 3) rfl (fx.f 2)) (s_cons (s_if (t_cmp (op_eq' 6 ⟨C, lv.eq⟩ hr false) (sb_name 4) ((SndE.b (s_str))) (by rfl)) (s_int' C (sb_name 5) rfl (fx.f 2)) (s_int)) (s_nil))))) (ss_cons (s_set 2 C (s_if (t_val (s_mth PySem.F.plainAttrs_str PySem.F.slot_str_startswith PySem.F.type_str_startswith mt_startswith mth_sw (s_name 0) (s_cons (s_str) (s_nil)))) (s_neg C fx.negq (lv.fn 7 rfl) h0 (s_name 2)) (s_name 2))) (ss_cons (s_ifS (t_cmp (op_eq' 6 ⟨C, lv.eq⟩ hr true) ((SndE.b (s_strO C fx.strq (lv.fn 9 rfl) (hr.mono (by omega)) (s_name 2) rfl (fx.f 10)))) (sb_name 0) (by rfl)) (ss_one (s_raiseX C fx.rz_NoText lv.xi_NoText h1 (fx.g 11) (s_cons (s_int) (s_nil)))) (ss_nil)) (ss_one (s_retO 2)))))))))
theorem sc__law_state : FnScope ["script", "seed", "total", "cell"] ["script"] (defScope s__law_state) := ⟨rfl, rfl, rfl, by decide +kernel, rfl, by decide +kernel, by decide +kernel⟩
theorem k__law_state (fx : Fx K mg) (lv : Lv K mg Φ P w base k) (FD : FunD (tb K mg).K "_law_state" "_law_state" (defArgs s__law_state) (defBody s__law_state) (defScope s__law_state) [] [] ((tb K mg).fa 15) fd) : FnOk P w (tb K mg).K (tb K mg).mg base (L2.CX P w) (k + 8) ((tb K mg).fa 15) fd ["script"] (spF (tb K mg) (stp Φ 15)) :=
  fn_F (k := k + 7) (N := ["script", "seed", "total", "cell"]) (m := B__law_state Φ) FD sc__law_state (fun cdv A outer s H E hr C => by
  have h0 := hr.mono (show k ≤ k + 7 by omega)
  have h1 := hr.mono (show k + 1 ≤ k + 7 by omega)
  exact ss_cons (s_set 1 C (s_int)) (ss_cons (s_set 2 C (s_int)) (ss_cons (s_for C (i_val C (s_sl C (sb_name 0) (o_none) (o_some (s_int)))) (g_name 3 C) (ss_cons (s_set 1 C (s_op (op_R C fx.opq_Add (lv.fn 4 rfl) h0 (op_addL C)) ((SndE.b (s_op (op_R C fx.opq_Mult (lv.fn 6 rfl) h0 (op_mulL C)) (sb_name 1) ((SndE.b (s_int)))))) ((SndE.b (s_abs C (sb_name 3) rfl (fx.f 3)))))) (ss_one (s_set 2 C (s_op op_mod' ((SndE.b (s_int' C ((SndE.b (s_op (op_R C fx.opq_Add (lv.fn 4 rfl) h0 (op_addL C)) ((SndE.b (s_op (op_R C fx.opq_Mult (lv.fn 6 rfl) h0 (op_mulL C)) (sb_name 2) ((SndE.b (s_int)))))) (sb_name 3)))) rfl (fx.f 2)))) ((SndE.b (s_int)))))))) (ss_one (s_retF (f_lst (s_cons (s_name 1) (s_cons (s_if (t_cmp (op_eq' 6 ⟨C, lv.eq⟩ hr true) (sb_name 2) ((SndE.b (s_int))) (by rfl)) (s_name 2) (s_int)) (s_nil)))))))))
theorem sc__law_take : FnScope ["state", "m", "value"] ["state", "m"] (defScope s__law_take) := ⟨rfl, rfl, rfl, by decide +kernel, rfl, by decide +kernel, by decide +kernel⟩
theorem k__law_take (fx : Fx K mg) (lv : Lv K mg Φ P w base k) (FD : FunD (tb K mg).K "_law_take" "_law_take" (defArgs s__law_take) (defBody s__law_take) (defScope s__law_take) [] [] ((tb K mg).fa 16) fd) : FnOk P w (tb K mg).K (tb K mg).mg base (L2.CX P w) (k + 8) ((tb K mg).fa 16) fd ["state", "m"] (spF (tb K mg) (stp Φ 16)) :=
  fn_F (k := k + 7) (N := ["state", "m", "value"]) (m := B__law_take Φ) FD sc__law_take (fun cdv A outer s H E hr C => by
  have h0 := hr.mono (show k ≤ k + 7 by omega)
  have h1 := hr.mono (show k + 1 ≤ k + 7 by omega)
  exact ss_cons (s_ifS (t_cmp op_gt' ((SndE.b (s_ix C (sb_name 0) (s_int)))) ((SndE.b (s_int))) (by rfl)) (ss_cons (s_set 2 C (s_op op_mod' ((SndE.b (s_int' C ((SndE.b (s_ix C (sb_name 0) (s_int)))) rfl (fx.f 2)))) (sb_name 1))) (ss_cons (s_sub 0 (s_op op_fdiv' ((SndE.b (s_ix C (sb_name 0) (s_int)))) (sb_name 1)) (s_int)) (ss_one (s_retO 2)))) (ss_nil)) (ss_cons (s_sub 0 (s_op op_mod' ((SndE.b (s_int' C ((SndE.b (s_op (op_R C fx.opq_Add (lv.fn 4 rfl) h0 (op_addL C)) ((SndE.b (s_op (op_R C fx.opq_Mult (lv.fn 6 rfl) h0 (op_mulL C)) ((SndE.b (s_ix C (sb_name 0) (s_int)))) ((SndE.b (s_int)))))) ((SndE.b (s_int)))))) rfl (fx.f 2)))) ((SndE.b (s_int)))) (s_int)) (ss_one (s_ret (s_op op_mod' ((SndE.b (s_int' C ((SndE.b (s_op op_fdiv' ((SndE.b (s_ix C (sb_name 0) (s_int)))) ((SndE.b (s_int)))))) rfl (fx.f 2)))) (sb_name 1))))))
theorem sc__law_says : FnScope ["value", "due"] ["value", "due"] (defScope s__law_says) := ⟨rfl, rfl, rfl, by decide +kernel, rfl, by decide +kernel, by decide +kernel⟩
theorem k__law_says (fx : Fx K mg) (lv : Lv K mg Φ P w base k) (FD : FunD (tb K mg).K "_law_says" "_law_says" (defArgs s__law_says) (defBody s__law_says) (defScope s__law_says) [] [] ((tb K mg).fa 17) fd) : FnOk P w (tb K mg).K (tb K mg).mg base (L2.CX P w) (k + 8) ((tb K mg).fa 17) fd ["value", "due"] (spF (tb K mg) (stp Φ 17)) :=
  fn_F (k := k + 7) (N := ["value", "due"]) (m := B__law_says Φ) FD sc__law_says (fun cdv A outer s H E hr C => by
  have h0 := hr.mono (show k ≤ k + 7 by omega)
  have h1 := hr.mono (show k + 1 ≤ k + 7 by omega)
  exact ss_one (s_ret (s_and (s_isi C fx.isq (sb_name 0) (k_ty C (fx.f 1) (by decide +kernel)) rfl (fx.f 0)) (s_one (s_cmp (op_eq' 6 ⟨C, lv.eq⟩ hr false) (sb_name 0) (sb_name 1) (by rfl))))))
theorem sc__law_is_whole : FnScope ["value"] ["value"] (defScope s__law_is_whole) := ⟨rfl, rfl, rfl, by decide +kernel, rfl, by decide +kernel, by decide +kernel⟩
theorem k__law_is_whole (fx : Fx K mg) (lv : Lv K mg Φ P w base k) (FD : FunD (tb K mg).K "_law_is_whole" "_law_is_whole" (defArgs s__law_is_whole) (defBody s__law_is_whole) (defScope s__law_is_whole) [] [] ((tb K mg).fa 18) fd) : FnOk P w (tb K mg).K (tb K mg).mg base (L2.CX P w) (k + 8) ((tb K mg).fa 18) fd ["value"] (spF (tb K mg) (stp Φ 18)) :=
  fn_F (k := k + 7) (N := ["value"]) (m := B__law_is_whole Φ) FD sc__law_is_whole (fun cdv A outer s H E hr C => by
  have h0 := hr.mono (show k ≤ k + 7 by omega)
  have h1 := hr.mono (show k + 1 ≤ k + 7 by omega)
  exact ss_one (s_ret (s_and (s_isi C fx.isq (sb_name 0) (k_ty C (fx.f 2) (by decide +kernel)) rfl (fx.f 0)) (s_one (s_not (s_isi C fx.isq (sb_name 0) (k_ty C (fx.f 1) (by decide +kernel)) rfl (fx.f 0)))))))
theorem sc__law_same : FnScope ["one", "two", "k"] ["one", "two"] (defScope s__law_same) := ⟨rfl, rfl, rfl, by decide +kernel, rfl, by decide +kernel, by decide +kernel⟩
theorem k__law_same (fx : Fx K mg) (lv : Lv K mg Φ P w base k) (FD : FunD (tb K mg).K "_law_same" "_law_same" (defArgs s__law_same) (defBody s__law_same) (defScope s__law_same) [] [] ((tb K mg).fa 19) fd) : FnOk P w (tb K mg).K (tb K mg).mg base (L2.CX P w) (k + 8) ((tb K mg).fa 19) fd ["one", "two"] (spF (tb K mg) (stp Φ 19)) :=
  fn_F (k := k + 7) (N := ["one", "two", "k"]) (m := B__law_same Φ) FD sc__law_same (fun cdv A outer s H E hr C => by
  have h0 := hr.mono (show k ≤ k + 7 by omega)
  have h1 := hr.mono (show k + 1 ≤ k + 7 by omega)
  exact ss_cons (s_ifS (t_val (s_isi C fx.isq (sb_name 1) (k_ty C (fx.f 16) (by decide +kernel)) rfl (fx.f 0))) (ss_one (s_ret (s_and (s_isi C fx.isq (sb_name 0) (k_ty C (fx.f 16) (by decide +kernel)) rfl (fx.f 0)) (s_and (s_cmp (op_eq' 6 ⟨C, lv.eq⟩ hr false) ((SndE.b (s_len C (sb_name 0) rfl (fx.f 13)))) ((SndE.b (s_len C (sb_name 1) rfl (fx.f 13)))) (by rfl)) (s_one (s_all C ((SndE.b (SndF.e (f_lc C (i_range1 C (s_cons (s_len C (sb_name 1) rfl (fx.f 13)) (s_nil)) (fx.f 17)) (own := [(("k" : Str), 2)]) (blkOk_by (by rfl)) (fun s H A cl fp C => g_name 2 C) (fun s H A cl fp C => ts_nil) (fun s H A cl fp C => s_call C (lv.fn 19 rfl) h0 (fx.g 18) (List.Mem.head _) (s_cons (s_ix C (sb_name 0) (s_name 2)) (s_cons (s_ix C (sb_name 1) (s_name 2)) (s_nil)))))))) rfl (fx.f 12))))))) (ss_nil)) (ss_cons (s_ifS (t_val (s_isi C fx.isq (sb_name 1) (k_ty C (fx.f 10) (by decide +kernel)) rfl (fx.f 0))) (ss_one (s_ret (s_and (s_isi C fx.isq (sb_name 0) (k_ty C (fx.f 10) (by decide +kernel)) rfl (fx.f 0)) (s_one (s_cmp (op_eq' 6 ⟨C, lv.eq⟩ hr false) (sb_name 0) (sb_name 1) (by rfl)))))) (ss_nil)) (ss_cons (s_ifS (t_cmp op_is' (sb_name 1) ((SndE.b (s_non))) (by rfl)) (ss_one (s_ret (s_cmp op_is' (sb_name 0) ((SndE.b (s_non))) (by rfl)))) (ss_nil)) (ss_one (s_ret (s_and (s_call C (lv.fn 18 rfl) h0 (fx.g 15) (List.Mem.head _) (s_cons (s_name 0) (s_nil))) (s_one (s_cmp (op_eq' 6 ⟨C, lv.eq⟩ hr false) (sb_name 0) (sb_name 1) (by rfl)))))))))
theorem sc__law_common : FnScope ["a", "b"] ["a", "b"] (defScope s__law_common) := ⟨rfl, rfl, rfl, by decide +kernel, rfl, by decide +kernel, by decide +kernel⟩
theorem k__law_common (fx : Fx K mg) (lv : Lv K mg Φ P w base k) (FD : FunD (tb K mg).K "_law_common" "_law_common" (defArgs s__law_common) (defBody s__law_common) (defScope s__law_common) [] [] ((tb K mg).fa 20) fd) : FnOk P w (tb K mg).K (tb K mg).mg base (L2.CX P w) (k + 8) ((tb K mg).fa 20) fd ["a", "b"] (spF (tb K mg) (stp Φ 20)) :=
  fn_F (k := k + 7) (N := ["a", "b"]) (m := B__law_common Φ) FD sc__law_common (fun cdv A outer s H E hr C => by
  have h0 := hr.mono (show k ≤ k + 7 by omega)
  have h1 := hr.mono (show k + 1 ≤ k + 7 by omega)
  exact ss_cons (s_while NF C (t_cmp (op_eq' 6 ⟨C, lv.eq⟩ hr true) (sb_name 1) ((SndE.b (s_int))) (by rfl)) (ss_one (s_par 0 1 C (s_cons (s_name 1) (s_cons (s_op op_mod' ((SndE.b (s_int' C (sb_name 0) rfl (fx.f 2)))) (sb_name 1)) (s_nil)))))) (ss_one (s_ret (s_abs C (sb_name 0) rfl (fx.f 3)))))
theorem sc__law_db_made : FnScope ["n", "d"] ["n", "d"] (defScope s__law_db_made) := ⟨rfl, rfl, rfl, by decide +kernel, rfl, by decide +kernel, by decide +kernel⟩
theorem k__law_db_made (fx : Fx K mg) (lv : Lv K mg Φ P w base k) (FD : FunD (tb K mg).K "_law_db_made" "_law_db_made" (defArgs s__law_db_made) (defBody s__law_db_made) (defScope s__law_db_made) [] [] ((tb K mg).fa 21) fd) : FnOk P w (tb K mg).K (tb K mg).mg base (L2.CX P w) (k + 8) ((tb K mg).fa 21) fd ["n", "d"] (spF (tb K mg) (stp Φ 21)) :=
  fn_F (k := k + 7) (N := ["n", "d"]) (m := B__law_db_made Φ) FD sc__law_db_made (fun cdv A outer s H E hr C => by
  have h0 := hr.mono (show k ≤ k + 7 by omega)
  have h1 := hr.mono (show k + 1 ≤ k + 7 by omega)
  exact ss_one (s_ret (s_make C (lv.make 0 3 rfl) h1 (fx.g 8) (List.Mem.head _) (s_cons (s_name 0) (s_cons (s_name 1) (s_nil))))))
theorem sc__law_db_over : FnScope ["a", "b"] ["a", "b"] (defScope s__law_db_over) := ⟨rfl, rfl, rfl, by decide +kernel, rfl, by decide +kernel, by decide +kernel⟩
theorem k__law_db_over (fx : Fx K mg) (lv : Lv K mg Φ P w base k) (FD : FunD (tb K mg).K "_law_db_over" "_law_db_over" (defArgs s__law_db_over) (defBody s__law_db_over) (defScope s__law_db_over) [] [] ((tb K mg).fa 22) fd) : FnOk P w (tb K mg).K (tb K mg).mg base (L2.CX P w) (k + 8) ((tb K mg).fa 22) fd ["a", "b"] (spF (tb K mg) (stp Φ 22)) :=
  fn_F (k := k + 7) (N := ["a", "b"]) (m := B__law_db_over Φ) FD sc__law_db_over (fun cdv A outer s H E hr C => by
  have h0 := hr.mono (show k ≤ k + 7 by omega)
  have h1 := hr.mono (show k + 1 ≤ k + 7 by omega)
  exact ss_one (s_ret (s_meth C (fx.mq_over lv) h0 rfl (s_name 0) (s_cons (s_name 1) (s_nil)))))
theorem sc__law_db_plus_of : FnScope ["a", "b"] ["a", "b"] (defScope s__law_db_plus_of) := ⟨rfl, rfl, rfl, by decide +kernel, rfl, by decide +kernel, by decide +kernel⟩
theorem k__law_db_plus_of (fx : Fx K mg) (lv : Lv K mg Φ P w base k) (FD : FunD (tb K mg).K "_law_db_plus_of" "_law_db_plus_of" (defArgs s__law_db_plus_of) (defBody s__law_db_plus_of) (defScope s__law_db_plus_of) [] [] ((tb K mg).fa 23) fd) : FnOk P w (tb K mg).K (tb K mg).mg base (L2.CX P w) (k + 8) ((tb K mg).fa 23) fd ["a", "b"] (spF (tb K mg) (stp Φ 23)) :=
  fn_F (k := k + 7) (N := ["a", "b"]) (m := B__law_db_plus_of Φ) FD sc__law_db_plus_of (fun cdv A outer s H E hr C => by
  have h0 := hr.mono (show k ≤ k + 7 by omega)
  have h1 := hr.mono (show k + 1 ≤ k + 7 by omega)
  exact ss_one (s_ret (s_op (op_R C fx.opq_Add (lv.fn 4 rfl) h0 (op_addL C)) (sb_name 0) (sb_name 1))))
theorem sc__law_db_told : FnScope ["act", "given", "error"] ["act", "given"] (defScope s__law_db_told) := ⟨rfl, rfl, rfl, by decide +kernel, rfl, by decide +kernel, by decide +kernel⟩
theorem k__law_db_told (fx : Fx K mg) (lv : Lv K mg Φ P w base k) (FD : FunD (tb K mg).K "_law_db_told" "_law_db_told" (defArgs s__law_db_told) (defBody s__law_db_told) (defScope s__law_db_told) [] [] ((tb K mg).fa 24) fd) : FnOk P w (tb K mg).K (tb K mg).mg base (L2.CX P w) (k + 8) ((tb K mg).fa 24) fd ["act", "given"] (spF (tb K mg) (stp Φ 24)) :=
  fn_F (k := k + 7) (N := ["act", "given", "error"]) (m := B__law_db_told Φ) FD sc__law_db_told (fun cdv A outer s H E hr C => by
  have h0 := hr.mono (show k ≤ k + 7 by omega)
  have h1 := hr.mono (show k + 1 ≤ k + 7 by omega)
  exact ss_one (s_try C fx.xt (fun W pn xe C => ss_one (s_ret (s_tup (s_cons (s_str) (s_cons (s_if (t_cmp (op_eq' 6 ⟨C, lv.eq⟩ hr false) ((SndE.b (s_len C (sb_name 1) rfl (fx.f 13)))) ((SndE.b (s_int))) (by rfl)) (s_callN 0 C (lv.all) h0 (s_cons (s_ix C (sb_name 1) (s_int)) (s_cons (s_ix C (sb_name 1) (s_int)) (s_nil)))) (s_callN 0 C (lv.all) h0 (s_cons (s_ix C (sb_name 1) (s_int)) (s_nil)))) (s_nil)))))) (.cons ⟨rfl, by decide, .inl (fx.g 5)⟩ .none (h_plain fun a oe pn => ss_one (s_ret (s_tup (s_cons (s_str) (s_cons (s_non) (s_nil)))))) (.cons ⟨rfl, by decide, .inl (fx.g 7)⟩ .none (h_plain fun a oe pn => ss_one (s_ret (s_tup (s_cons (s_str) (s_cons (s_non) (s_nil)))))) (.cons ⟨rfl, by decide, .inl (fx.g 11)⟩ (.some rfl rfl) (h_pairW lv.iw (L2H.roomH_of (hr.mono (by omega))) C.mg (fx.g 15) fx.xf_NoText fx.rz_NoText.no rfl C.K) .nil)))))
theorem sc_law : FnScope ["script", "state", "told", "text", "bad", "bent", "tried", "n", "d", "m", "e", "a", "b", "given"] ["script"] (defScope s_law) := ⟨rfl, rfl, rfl, by decide +kernel, rfl, by decide +kernel, by decide +kernel⟩
theorem k_law (fx : Fx K mg) (lv : Lv K mg Φ P w base k) (FD : FunD (tb K mg).K "law" "law" (defArgs s_law) (defBody s_law) (defScope s_law) [] [] ((tb K mg).fa 25) fd) : FnOk P w (tb K mg).K (tb K mg).mg base (L2.CX P w) (k + 8) ((tb K mg).fa 25) fd ["script"] (spF (tb K mg) (stp Φ 25)) :=
  fn_F (k := k + 7) (N := ["script", "state", "told", "text", "bad", "bent", "tried", "n", "d", "m", "e", "a", "b", "given"]) (m := B_law Φ) FD sc_law (fun cdv A outer s H E hr C => by
  have h0 := hr.mono (show k ≤ k + 7 by omega)
  have h1 := hr.mono (show k + 1 ≤ k + 7 by omega)
  exact ss_cons (s_cell 1 C (f_call C (lv.fn 15 rfl) h0 (fx.g 27) (List.Mem.head _) (s_cons (s_name 0) (s_nil)))) (ss_cons (s_par 7 8 C (s_cons (s_op (op_R C fx.opq_Sub (lv.fn 5 rfl) h0 op_sub') ((SndE.b (s_call C (lv.fn 16 rfl) h0 (fx.g 26) (List.Mem.head _) (s_cons (s_name 1) (s_cons (s_int) (s_nil)))))) ((SndE.b (s_int)))) (s_cons (s_op (op_R C fx.opq_Add (lv.fn 4 rfl) h0 (op_addL C)) ((SndE.b (s_int))) ((SndE.b (s_call C (lv.fn 16 rfl) h0 (fx.g 26) (List.Mem.head _) (s_cons (s_name 1) (s_cons (s_int) (s_nil))))))) (s_nil)))) (ss_cons (s_par 9 10 C (s_cons (s_op (op_R C fx.opq_Sub (lv.fn 5 rfl) h0 op_sub') ((SndE.b (s_call C (lv.fn 16 rfl) h0 (fx.g 26) (List.Mem.head _) (s_cons (s_name 1) (s_cons (s_int) (s_nil)))))) ((SndE.b (s_int)))) (s_cons (s_op (op_R C fx.opq_Sub (lv.fn 5 rfl) h0 op_sub') ((SndE.b (s_negI (s_int)))) ((SndE.b (s_call C (lv.fn 16 rfl) h0 (fx.g 26) (List.Mem.head _) (s_cons (s_name 1) (s_cons (s_int) (s_nil))))))) (s_nil)))) (ss_cons (s_par 11 12 C (s_cons (s_make C (lv.make 0 3 rfl) h1 (fx.g 8) (List.Mem.head _) (s_cons (s_name 7) (s_cons (s_name 8) (s_nil)))) (s_cons (s_make C (lv.make 0 3 rfl) h1 (fx.g 8) (List.Mem.head _) (s_cons (s_name 9) (s_cons (s_name 10) (s_nil)))) (s_nil)))) (ss_cons (s_ifS (PW.pt (w_or (t_cmp (op_eq' 6 ⟨C, lv.eq⟩ hr true) ((SndE.b (s_op (op_R C fx.opq_Mult (lv.fn 6 rfl) h0 (op_mulL C)) ((SndE.b (s_fld C fx.fq_n rfl (s_name 11)))) (sb_name 8)))) ((SndE.b (s_op (op_R C fx.opq_Mult (lv.fn 6 rfl) h0 (op_mulL C)) (sb_name 7) ((SndE.b (s_fld C fx.fq_d rfl (s_name 11))))))) (by rfl)) (w_or (t_cmp (op_eq' 6 ⟨C, lv.eq⟩ hr true) ((SndE.b (s_op (op_R C fx.opq_Mult (lv.fn 6 rfl) h0 (op_mulL C)) ((SndE.b (s_fld C fx.fq_n rfl (s_name 12)))) (sb_name 10)))) ((SndE.b (s_op (op_R C fx.opq_Mult (lv.fn 6 rfl) h0 (op_mulL C)) (sb_name 9) ((SndE.b (s_fld C fx.fq_d rfl (s_name 12))))))) (by rfl)) (w_or (t_cmp op_le' ((SndE.b (s_fld C fx.fq_d rfl (s_name 11)))) ((SndE.b (s_int))) (by rfl)) (w_or (t_cmp op_le' ((SndE.b (s_fld C fx.fq_d rfl (s_name 12)))) ((SndE.b (s_int))) (by rfl)) (w_or (t_cmp (op_eq' 6 ⟨C, lv.eq⟩ hr true) ((SndE.b (s_call C (lv.fn 20 rfl) h0 (fx.g 25) (List.Mem.head _) (s_cons (s_fld C fx.fq_n rfl (s_name 11)) (s_cons (s_fld C fx.fq_d rfl (s_name 11)) (s_nil)))))) ((SndE.b (s_int))) (by rfl)) (w_or1 (t_cmp (op_eq' 6 ⟨C, lv.eq⟩ hr true) ((SndE.b (s_call C (lv.fn 20 rfl) h0 (fx.g 25) (List.Mem.head _) (s_cons (s_fld C fx.fq_n rfl (s_name 12)) (s_cons (s_fld C fx.fq_d rfl (s_name 12)) (s_nil)))))) ((SndE.b (s_int))) (by rfl))))))))) (ss_one (s_ret (s_bl))) (ss_nil)) (ss_cons (s_ifS (PW.pt (w_or (t_cmp (op_eq' 6 ⟨C, lv.eq⟩ hr true) ((SndE.b (s_op (op_R C fx.opq_Add (lv.fn 4 rfl) h0 (op_addL C)) (sb_name 11) (sb_name 12)))) ((SndE.b (s_make C (lv.make 0 3 rfl) h1 (fx.g 8) (List.Mem.head _) (s_cons (s_op (op_R C fx.opq_Add (lv.fn 4 rfl) h0 (op_addL C)) ((SndE.b (s_op (op_R C fx.opq_Mult (lv.fn 6 rfl) h0 (op_mulL C)) (sb_name 7) (sb_name 10)))) ((SndE.b (s_op (op_R C fx.opq_Mult (lv.fn 6 rfl) h0 (op_mulL C)) (sb_name 9) (sb_name 8))))) (s_cons (s_op (op_R C fx.opq_Mult (lv.fn 6 rfl) h0 (op_mulL C)) (sb_name 8) (sb_name 10)) (s_nil)))))) (by rfl)) (w_or (t_cmp (op_eq' 6 ⟨C, lv.eq⟩ hr true) ((SndE.b (s_op (op_R C fx.opq_Sub (lv.fn 5 rfl) h0 op_sub') (sb_name 11) (sb_name 12)))) ((SndE.b (s_make C (lv.make 0 3 rfl) h1 (fx.g 8) (List.Mem.head _) (s_cons (s_op (op_R C fx.opq_Sub (lv.fn 5 rfl) h0 op_sub') ((SndE.b (s_op (op_R C fx.opq_Mult (lv.fn 6 rfl) h0 (op_mulL C)) (sb_name 7) (sb_name 10)))) ((SndE.b (s_op (op_R C fx.opq_Mult (lv.fn 6 rfl) h0 (op_mulL C)) (sb_name 9) (sb_name 8))))) (s_cons (s_op (op_R C fx.opq_Mult (lv.fn 6 rfl) h0 (op_mulL C)) (sb_name 8) (sb_name 10)) (s_nil)))))) (by rfl)) (w_or (t_cmp (op_eq' 6 ⟨C, lv.eq⟩ hr true) ((SndE.b (s_op (op_R C fx.opq_Mult (lv.fn 6 rfl) h0 (op_mulL C)) (sb_name 11) (sb_name 12)))) ((SndE.b (s_make C (lv.make 0 3 rfl) h1 (fx.g 8) (List.Mem.head _) (s_cons (s_op (op_R C fx.opq_Mult (lv.fn 6 rfl) h0 (op_mulL C)) (sb_name 7) (sb_name 9)) (s_cons (s_op (op_R C fx.opq_Mult (lv.fn 6 rfl) h0 (op_mulL C)) (sb_name 8) (sb_name 10)) (s_nil)))))) (by rfl)) (w_or1 (t_cmp (op_eq' 6 ⟨C, lv.eq⟩ hr true) ((SndE.b (s_neg C fx.negq (lv.fn 7 rfl) h0 (s_name 11)))) ((SndE.b (s_make C (lv.make 0 3 rfl) h1 (fx.g 8) (List.Mem.head _) (s_cons (s_neg C fx.negq (lv.fn 7 rfl) h0 (s_name 7)) (s_cons (s_name 8) (s_nil)))))) (by rfl))))))) (ss_one (s_ret (s_bl))) (ss_nil)) (ss_cons (s_set 2 C (s_call C (lv.fn 24 rfl) h0 (fx.g 19) (List.Mem.head _) (s_cons (s_fn C (fx.g 20)) (s_cons (s_tup (s_cons (s_name 11) (s_cons (s_name 12) (s_nil)))) (s_nil))))) (ss_cons (s_ifS (t_cmp (op_eq' 6 ⟨C, lv.eq⟩ hr true) (sb_name 2) ((SndE.b (s_if (t_cmp (op_eq' 6 ⟨C, lv.eq⟩ hr false) (sb_name 9) ((SndE.b (s_int))) (by rfl)) (s_tup (s_cons (s_str) (s_cons (s_non) (s_nil)))) (s_tup (s_cons (s_str) (s_cons (s_make C (lv.make 0 3 rfl) h1 (fx.g 8) (List.Mem.head _) (s_cons (s_op (op_R C fx.opq_Mult (lv.fn 6 rfl) h0 (op_mulL C)) (sb_name 7) (sb_name 10)) (s_cons (s_op (op_R C fx.opq_Mult (lv.fn 6 rfl) h0 (op_mulL C)) (sb_name 8) (sb_name 9)) (s_nil)))) (s_nil))))))) (by rfl)) (ss_one (s_ret (s_bl))) (ss_nil)) (ss_cons (s_ifS (PW.pt (w_or (t_not (t_val (s_call C (lv.fn 19 rfl) h0 (fx.g 18) (List.Mem.head _) (s_cons (s_meth0 C (fx.mq_sign lv) h0 rfl (s_name 11)) (s_cons (s_if (t_cmp op_gt' (sb_name 7) ((SndE.b (s_int))) (by rfl)) (s_int) (s_if (t_cmp op_lt' (sb_name 7) ((SndE.b (s_int))) (by rfl)) (s_negI (s_int)) (s_int))) (s_nil)))))) (w_or (t_not (t_val (s_call C (lv.fn 17 rfl) h0 (fx.g 24) (List.Mem.head _) (s_cons (s_meth0 C (fx.mq_is_whole lv) h0 rfl (s_name 11)) (s_cons (s_cmp (op_eq' 6 ⟨C, lv.eq⟩ hr false) ((SndE.b (s_op op_mod' (sb_name 7) (sb_name 8)))) ((SndE.b (s_int))) (by rfl)) (s_nil)))))) (w_or1 (t_not (t_val (s_call C (lv.fn 17 rfl) h0 (fx.g 24) (List.Mem.head _) (s_cons (s_cmp (op_eq' 6 ⟨C, lv.eq⟩ hr false) (sb_name 11) (sb_name 12) (by rfl)) (s_cons (s_cmp (op_eq' 6 ⟨C, lv.eq⟩ hr false) ((SndE.b (s_op (op_R C fx.opq_Mult (lv.fn 6 rfl) h0 (op_mulL C)) (sb_name 7) (sb_name 10)))) ((SndE.b (s_op (op_R C fx.opq_Mult (lv.fn 6 rfl) h0 (op_mulL C)) (sb_name 9) (sb_name 8)))) (by rfl)) (s_nil)))))))))) (ss_one (s_ret (s_bl))) (ss_nil)) (ss_cons (s_set 3 C (s_if (t_cmp (op_eq' 6 ⟨C, lv.eq⟩ hr false) ((SndE.b (s_fld C fx.fq_d rfl (s_name 11)))) ((SndE.b (s_int))) (by rfl)) (s_strO C fx.strq (lv.fn 9 rfl) (hr.mono (by omega)) (s_fld C fx.fq_n rfl (s_name 11)) rfl (fx.f 10)) (s_op (op_R C fx.opq_Add (lv.fn 4 rfl) h0 (op_addL C)) ((SndE.b (s_op (op_R C fx.opq_Add (lv.fn 4 rfl) h0 (op_addL C)) ((SndE.b (s_strO C fx.strq (lv.fn 9 rfl) (hr.mono (by omega)) (s_fld C fx.fq_n rfl (s_name 11)) rfl (fx.f 10)))) ((SndE.b (s_str)))))) ((SndE.b (s_strO C fx.strq (lv.fn 9 rfl) (hr.mono (by omega)) (s_fld C fx.fq_d rfl (s_name 11)) rfl (fx.f 10))))))) (ss_cons (s_ifS (PW.pt (w_or (t_cmp (op_eq' 6 ⟨C, lv.eq⟩ hr true) ((SndE.b (s_strO C fx.strq (lv.fn 9 rfl) (hr.mono (by omega)) (s_name 11) rfl (fx.f 10)))) (sb_name 3) (by rfl)) (w_or (t_cmp (op_eq' 6 ⟨C, lv.eq⟩ hr true) ((SndE.b (s_call C (lv.fn 14 rfl) h0 (fx.g 23) (List.Mem.head _) (s_cons (s_name 3) (s_nil))))) (sb_name 11) (by rfl)) (w_or (t_cmp (op_eq' 6 ⟨C, lv.eq⟩ hr false) (sb_name 11) (sb_name 7) (by rfl)) (w_or (t_cmp (op_eq' 6 ⟨C, lv.eq⟩ hr false) (sb_name 11) (sb_name 3) (by rfl)) (w_or1 (t_not (t_cmp (op_eq' 6 ⟨C, lv.eq⟩ hr false) (sb_name 11) ((SndE.b (s_make C (lv.make 0 3 rfl) h1 (fx.g 8) (List.Mem.head _) (s_cons (s_op (op_R C fx.opq_Mult (lv.fn 6 rfl) h0 (op_mulL C)) ((SndE.b (s_int))) (sb_name 7)) (s_cons (s_op (op_R C fx.opq_Mult (lv.fn 6 rfl) h0 (op_mulL C)) ((SndE.b (s_int))) (sb_name 8)) (s_nil)))))) (by rfl))))))))) (ss_one (s_ret (s_bl))) (ss_nil)) (ss_cons (s_for C (i_val C (s_tup (s_cons (s_str) (s_cons (s_str) (s_cons (s_str) (s_cons (s_str) (s_cons (s_str) (s_cons (s_str) (s_cons (s_str) (s_cons (s_str) (s_cons (s_str) (s_cons (s_str) (s_cons (s_str) (s_cons (s_non) (s_cons (s_int) (s_cons (s_str) (s_cons (s_str) (s_cons (s_op (op_R C fx.opq_Mult (lv.fn 6 rfl) h0 (op_mulL C)) ((SndE.b (s_str))) ((SndE.b (s_int)))) (s_nil))))))))))))))))))) (g_name 4 C) (ss_one (s_ifS (t_cmp (op_eq' 6 ⟨C, lv.eq⟩ hr true) ((SndE.b (s_call C (lv.fn 24 rfl) h0 (fx.g 19) (List.Mem.head _) (s_cons (s_fn C (fx.g 23)) (s_cons (s_tup (s_cons (s_name 4) (s_nil))) (s_nil)))))) ((SndE.b (s_tup (s_cons (s_str) (s_cons (s_bl) (s_nil)))))) (by rfl)) (ss_one (s_ret (s_bl))) (ss_nil)))) (ss_cons (s_set 5 C (s_if (PW.pt (w_and (t_cmp op_gt' ((SndE.b (s_fld C fx.fq_d rfl (s_name 11)))) ((SndE.b (s_int))) (by rfl)) (w_and1 (t_cmp (op_eq' 6 ⟨C, lv.eq⟩ hr false) ((SndE.b (s_op op_mod' ((SndE.b (s_fld C fx.fq_n rfl (s_name 11)))) ((SndE.b (s_int)))))) ((SndE.b (s_int))) (by rfl))))) (s_op (op_R C fx.opq_Add (lv.fn 4 rfl) h0 (op_addL C)) (sb_name 3) ((SndE.b (s_str)))) (s_op (op_R C fx.opq_Add (lv.fn 4 rfl) h0 (op_addL C)) (sb_name 3) ((SndE.b (s_str)))))) (ss_cons (s_ifS (PW.pt (w_and (t_cmp (op_eq' 6 ⟨C, lv.eq⟩ hr false) ((SndE.b (s_ix C ((SndE.b (s_call C (lv.fn 24 rfl) h0 (fx.g 19) (List.Mem.head _) (s_cons (s_fn C (fx.g 23)) (s_cons (s_tup (s_cons (s_name 5) (s_nil))) (s_nil)))))) (s_int)))) ((SndE.b (s_str))) (by rfl)) (w_and1 (t_cmp (op_eq' 6 ⟨C, lv.eq⟩ hr true) ((SndE.b (s_strO C fx.strq (lv.fn 9 rfl) (hr.mono (by omega)) (s_call C (lv.fn 14 rfl) h0 (fx.g 23) (List.Mem.head _) (s_cons (s_name 5) (s_nil))) rfl (fx.f 10)))) (sb_name 5) (by rfl))))) (ss_one (s_ret (s_bl))) (ss_nil)) (ss_cons (s_ifS (t_cmp (op_eq' 6 ⟨C, lv.eq⟩ hr true) ((SndE.b (SndF.e (f_lc C (i_val C (s_tup (s_cons (s_tup (s_cons (s_int) (s_cons (s_int) (s_nil)))) (s_cons (s_tup (s_cons (s_int) (s_cons (s_int) (s_nil)))) (s_nil))))) (own := [(("given" : Str), 13)]) (blkOk_by (by rfl)) (fun s H A cl fp C => g_name 13 C) (fun s H A cl fp C => ts_nil) (fun s H A cl fp C => s_call C (lv.fn 24 rfl) h0 (fx.g 19) (List.Mem.head _) (s_cons (s_fn C (fx.g 22)) (s_cons (s_name 13) (s_nil)))))))) ((SndE.b (SndF.e (f_op op_mulF ((SndE.b (SndF.e (f_lst (s_cons (s_tup (s_cons (s_str) (s_cons (s_non) (s_nil)))) (s_nil)))))) ((SndE.b (s_int))))))) (by rfl)) (ss_one (s_ret (s_bl))) (ss_nil)) (ss_cons (s_own 6 C (f_lst (s_cons (s_tup (s_cons (s_int) (s_cons (s_non) (s_nil)))) (s_cons (s_tup (s_cons (s_non) (s_cons (s_int) (s_nil)))) (s_cons (s_tup (s_cons (s_bl) (s_cons (s_int) (s_nil)))) (s_cons (s_tup (s_cons (s_str) (s_cons (s_int) (s_nil)))) (s_cons (s_tup (s_cons (s_int) (s_cons (s_bl) (s_nil)))) (s_cons (s_tup (s_cons (s_tup (s_cons (s_int) (s_nil))) (s_cons (s_int) (s_nil)))) (s_nil))))))))) (ss_cons (s_ifS (t_cmp (op_eq' 6 ⟨C, lv.eq⟩ hr true) ((SndE.b (SndF.e (f_lc C (i_val C (s_name 6)) (own := [(("given" : Str), 13)]) (blkOk_by (by rfl)) (fun s H A cl fp C => g_name 13 C) (fun s H A cl fp C => ts_nil) (fun s H A cl fp C => s_ix C ((SndE.b (s_call C (lv.fn 24 rfl) h0 (fx.g 19) (List.Mem.head _) (s_cons (s_fn C (fx.g 22)) (s_cons (s_name 13) (s_nil)))))) (s_int)))))) ((SndE.b (SndF.e (f_op op_mulF ((SndE.b (SndF.e (f_lst (s_cons (s_str) (s_nil)))))) ((SndE.b (s_int))))))) (by rfl)) (ss_one (s_ret (s_bl))) (ss_nil)) (ss_cons (s_for C (i_val C (s_tup (s_cons (s_non) (s_cons (s_int) (s_cons (s_str) (s_cons (s_tup (s_cons (s_name 11) (s_nil))) (s_nil))))))) (g_name 4 C) (ss_one (s_ifS (PW.pt (w_or (t_cmp (op_eq' 6 ⟨C, lv.eq⟩ hr true) ((SndE.b (s_ix C ((SndE.b (s_call C (lv.fn 24 rfl) h0 (fx.g 19) (List.Mem.head _) (s_cons (s_fn C (fx.g 21)) (s_cons (s_tup (s_cons (s_name 11) (s_cons (s_name 4) (s_nil)))) (s_nil)))))) (s_int)))) ((SndE.b (s_str))) (by rfl)) (w_or1 (t_cmp (op_eq' 6 ⟨C, lv.eq⟩ hr true) ((SndE.b (s_ix C ((SndE.b (s_call C (lv.fn 24 rfl) h0 (fx.g 19) (List.Mem.head _) (s_cons (s_fn C (fx.g 20)) (s_cons (s_tup (s_cons (s_name 11) (s_cons (s_name 4) (s_nil)))) (s_nil)))))) (s_int)))) ((SndE.b (s_str))) (by rfl))))) (ss_one (s_ret (s_bl))) (ss_nil)))) (ss_one (s_ret (s_bl)))))))))))))))))))))
theorem sc_Ratio___init__ : FnScope ["self", "n", "d", "g"] ["self", "n", "d"] (defScope s_Ratio___init__) := ⟨rfl, rfl, rfl, by decide +kernel, rfl, by decide +kernel, by decide +kernel⟩
theorem k_Ratio___init__ (fx : Fx K mg) (lv : Lv K mg Φ P w base k) (FD : FunD (tb K mg).K "__init__" "Ratio.__init__" (defArgs s_Ratio___init__) (defBody s_Ratio___init__) (defScope s_Ratio___init__) [.int 1] [] ((tb K mg).fa 3) fd) : FnOk P w (tb K mg).K (tb K mg).mg base (L2.CX P w) (k + 8) ((tb K mg).fa 3) fd ["self", "n", "d"] (spI (tb K mg) 0 (stp Φ 3)) :=
  fn_I (k := k + 7) (N := ["self", "n", "d", "g"]) (m := B_Ratio___init__ Φ) FD sc_Ratio___init__ (by decide) (fun cdv A outer s H E hr C => by
  have h0 := hr.mono (show k ≤ k + 7 by omega)
  have h1 := hr.mono (show k + 1 ≤ k + 7 by omega)
  exact ss_cons (s_ifS (PW.pt (w_or (t_not (t_val (s_call C (lv.fn 1 rfl) h0 (fx.g 6) (List.Mem.head _) (s_cons (s_name 1) (s_nil))))) (w_or1 (t_not (t_val (s_call C (lv.fn 1 rfl) h0 (fx.g 6) (List.Mem.head _) (s_cons (s_name 2) (s_nil)))))))) (ss_one (s_raise0 C PySem.F.excBase_ValueError fx.rz_Malformed (fx.g 7))) (ss_nil)) (ss_cons (s_ifS (t_cmp (op_eq' 6 ⟨C, lv.eq⟩ hr false) (sb_name 2) ((SndE.b (s_int))) (by rfl)) (ss_one (s_raise0 C PySem.F.excBase_ValueError fx.rz_ZeroDivisor (fx.g 5))) (ss_nil)) (ss_cons (s_ifS (t_cmp op_lt' (sb_name 2) ((SndE.b (s_int))) (by rfl)) (ss_one (s_par 1 2 C (s_cons (s_neg C fx.negq (lv.fn 7 rfl) h0 (s_name 1)) (s_cons (s_neg C fx.negq (lv.fn 7 rfl) h0 (s_name 2)) (s_nil))))) (ss_nil)) (ss_cons (s_set 3 C (s_call C (lv.fn 2 rfl) h0 (fx.g 4) (List.Mem.head _) (s_cons (s_name 1) (s_cons (s_name 2) (s_nil))))) (ss_cons (s_self C fx.fq_n rfl (s_op op_fdiv' (sb_name 1) (sb_name 3))) (ss_one (s_self C fx.fq_d rfl (s_op op_fdiv' (sb_name 2) (sb_name 3)))))))))
end
end Lw

end
section
set_option Elab.async false
set_option linter.all false
set_option maxRecDepth 100000
set_option maxHeartbeats 0
namespace Lw
open PySem L2 TL
section
variable {K : PySem.W.Frag} {mg : Str → Option Value} {Φ : Phi} {P : Program} {w : World} {base : Heap} {k : Nat} {fd : FuncData}
theorem sc_NoText___init__ : FnScope (["self", "at"] : List Str) (["self", "at"] : List Str) (defScope s_NoText___init__) := ⟨rfl, rfl, rfl, by decide +kernel, rfl, by decide +kernel, by decide +kernel⟩
theorem xi_NoText (fx : Fx K mg) (k : Nat) : ∃ fd ps, FnOk P w (tb K mg).K (tb K mg).mg base (L2.CX P w) (k + 1) ((tb K mg).fa 0) fd ps (spX ((tb K mg).cls 53) ((tb K mg).nm 2)) ∧ Binds (tb K mg).K fd ps [] := by
  obtain ⟨fd, FD⟩ := fx.d.def_ 0 (d := d_NoText___init__) rfl
  exact ⟨fd, (["self", "at"] : List Str), fn_X (T := tb K mg) FD sc_NoText___init__ fx.rz_NoText rfl (fx.g 29) (cread_ok (exB_at fx.x 4 (f := .cread "Fault"))) (cinit_ok (exB_at fx.x 5 (f := .cinit "Fault"))) (fun cdv A outer s H E => ⟨(⟨tC (.str "no text"), pe_str, fun v w H Q h => h _ _ rfl⟩), pv 0, pv 0, pv 1, rfl, ⟨_, rfl⟩, rfl, rfl, rfl, rfl, rfl⟩), FD.bindsN fun _ _ _ _ _ _ us hl => match us, hl with | [_, _], _ => rfl⟩
theorem g_is_integer (fx : Fx K mg) (lv : Lv K mg Φ P w base k) : FnG (tb K mg) (stp Φ) P w base (k + 8) 1 := by
  obtain ⟨fd, FD⟩ := fx.d.def_ 1 (d := d_is_integer) rfl
  exact ⟨⟨fd, (["value"] : List Str), k_is_integer fx lv FD, (dfl_one rfl (FD.bindsN fun _ _ _ _ _ _ us hl => match us, hl with | [_], _ => rfl))⟩, FD.kp⟩
theorem z_is_integer (fx : Fx K mg) (k : Nat) : FnG (tb K mg) (Ph 0) P w base k 1 := by
  obtain ⟨fd, FD⟩ := fx.d.def_ 1 (d := d_is_integer) rfl
  exact ⟨⟨fd, (["value"] : List Str), fn_stuck, (dfl_one rfl (FD.bindsN fun _ _ _ _ _ _ us hl => match us, hl with | [_], _ => rfl))⟩, FD.kp⟩
theorem g_common (fx : Fx K mg) (lv : Lv K mg Φ P w base k) : FnG (tb K mg) (stp Φ) P w base (k + 8) 2 := by
  obtain ⟨fd, FD⟩ := fx.d.def_ 2 (d := d_common) rfl
  exact ⟨⟨fd, (["a", "b"] : List Str), k_common fx lv FD, (dfl_one rfl (FD.bindsN fun _ _ _ _ _ _ us hl => match us, hl with | [_, _], _ => rfl))⟩, FD.kp⟩
theorem z_common (fx : Fx K mg) (k : Nat) : FnG (tb K mg) (Ph 0) P w base k 2 := by
  obtain ⟨fd, FD⟩ := fx.d.def_ 2 (d := d_common) rfl
  exact ⟨⟨fd, (["a", "b"] : List Str), fn_stuck, (dfl_one rfl (FD.bindsN fun _ _ _ _ _ _ us hl => match us, hl with | [_, _], _ => rfl))⟩, FD.kp⟩
theorem g_Ratio___init__ (fx : Fx K mg) (lv : Lv K mg Φ P w base k) : InG (tb K mg) (stp Φ) P w base (k + 8) 0 3 := by
  obtain ⟨fd, FD⟩ := fx.d.def_ 3 (d := d_Ratio___init__) rfl
  exact ⟨⟨fd, (["self", "n", "d"] : List Str), k_Ratio___init__ fx lv FD, (dfl_two rfl (FD.binds1 3 1 (List.cons_ne_nil _ _) rfl fun _ _ _ _ _ _ _ us its hu hi => match us, its, hu, hi with | [_, _, _], [_], _, _ => ⟨_, rfl, rfl⟩) (FD.binds1 2 0 (List.cons_ne_nil _ _) rfl fun _ _ _ _ _ _ _ us its hu hi => match us, its, hu, hi with | [_, _], [_], _, _ => ⟨_, rfl, rfl⟩))⟩, He.mkr_ok (fx.d.fact 31 (f := .mkr "Ratio") rfl)⟩
theorem z_Ratio___init__ (fx : Fx K mg) (k : Nat) : InG (tb K mg) (Ph 0) P w base k 0 3 := by
  obtain ⟨fd, FD⟩ := fx.d.def_ 3 (d := d_Ratio___init__) rfl
  exact ⟨⟨fd, (["self", "n", "d"] : List Str), in_stuck, (dfl_two rfl (FD.binds1 3 1 (List.cons_ne_nil _ _) rfl fun _ _ _ _ _ _ _ us its hu hi => match us, its, hu, hi with | [_, _, _], [_], _, _ => ⟨_, rfl, rfl⟩) (FD.binds1 2 0 (List.cons_ne_nil _ _) rfl fun _ _ _ _ _ _ _ us its hu hi => match us, its, hu, hi with | [_, _], [_], _, _ => ⟨_, rfl, rfl⟩))⟩, He.mkr_ok (fx.d.fact 31 (f := .mkr "Ratio") rfl)⟩
theorem g_Ratio___add__ (fx : Fx K mg) (lv : Lv K mg Φ P w base k) : FnG (tb K mg) (stp Φ) P w base (k + 8) 4 := by
  obtain ⟨fd, FD⟩ := fx.d.def_ 4 (d := d_Ratio___add__) rfl
  exact ⟨⟨fd, (["self", "other"] : List Str), k_Ratio___add__ fx lv FD, (dfl_one rfl (FD.bindsN fun _ _ _ _ _ _ us hl => match us, hl with | [_, _], _ => rfl))⟩, FD.kp⟩
theorem z_Ratio___add__ (fx : Fx K mg) (k : Nat) : FnG (tb K mg) (Ph 0) P w base k 4 := by
  obtain ⟨fd, FD⟩ := fx.d.def_ 4 (d := d_Ratio___add__) rfl
  exact ⟨⟨fd, (["self", "other"] : List Str), fn_stuck, (dfl_one rfl (FD.bindsN fun _ _ _ _ _ _ us hl => match us, hl with | [_, _], _ => rfl))⟩, FD.kp⟩
theorem g_Ratio___sub__ (fx : Fx K mg) (lv : Lv K mg Φ P w base k) : FnG (tb K mg) (stp Φ) P w base (k + 8) 5 := by
  obtain ⟨fd, FD⟩ := fx.d.def_ 5 (d := d_Ratio___sub__) rfl
  exact ⟨⟨fd, (["self", "other"] : List Str), k_Ratio___sub__ fx lv FD, (dfl_one rfl (FD.bindsN fun _ _ _ _ _ _ us hl => match us, hl with | [_, _], _ => rfl))⟩, FD.kp⟩
theorem z_Ratio___sub__ (fx : Fx K mg) (k : Nat) : FnG (tb K mg) (Ph 0) P w base k 5 := by
  obtain ⟨fd, FD⟩ := fx.d.def_ 5 (d := d_Ratio___sub__) rfl
  exact ⟨⟨fd, (["self", "other"] : List Str), fn_stuck, (dfl_one rfl (FD.bindsN fun _ _ _ _ _ _ us hl => match us, hl with | [_, _], _ => rfl))⟩, FD.kp⟩
theorem g_Ratio___mul__ (fx : Fx K mg) (lv : Lv K mg Φ P w base k) : FnG (tb K mg) (stp Φ) P w base (k + 8) 6 := by
  obtain ⟨fd, FD⟩ := fx.d.def_ 6 (d := d_Ratio___mul__) rfl
  exact ⟨⟨fd, (["self", "other"] : List Str), k_Ratio___mul__ fx lv FD, (dfl_one rfl (FD.bindsN fun _ _ _ _ _ _ us hl => match us, hl with | [_, _], _ => rfl))⟩, FD.kp⟩
theorem z_Ratio___mul__ (fx : Fx K mg) (k : Nat) : FnG (tb K mg) (Ph 0) P w base k 6 := by
  obtain ⟨fd, FD⟩ := fx.d.def_ 6 (d := d_Ratio___mul__) rfl
  exact ⟨⟨fd, (["self", "other"] : List Str), fn_stuck, (dfl_one rfl (FD.bindsN fun _ _ _ _ _ _ us hl => match us, hl with | [_, _], _ => rfl))⟩, FD.kp⟩
theorem g_Ratio___neg__ (fx : Fx K mg) (lv : Lv K mg Φ P w base k) : FnG (tb K mg) (stp Φ) P w base (k + 8) 7 := by
  obtain ⟨fd, FD⟩ := fx.d.def_ 7 (d := d_Ratio___neg__) rfl
  exact ⟨⟨fd, (["self"] : List Str), k_Ratio___neg__ fx lv FD, (dfl_one rfl (FD.bindsN fun _ _ _ _ _ _ us hl => match us, hl with | [_], _ => rfl))⟩, FD.kp⟩
theorem z_Ratio___neg__ (fx : Fx K mg) (k : Nat) : FnG (tb K mg) (Ph 0) P w base k 7 := by
  obtain ⟨fd, FD⟩ := fx.d.def_ 7 (d := d_Ratio___neg__) rfl
  exact ⟨⟨fd, (["self"] : List Str), fn_stuck, (dfl_one rfl (FD.bindsN fun _ _ _ _ _ _ us hl => match us, hl with | [_], _ => rfl))⟩, FD.kp⟩
theorem g_Ratio___eq__ (fx : Fx K mg) : FnG (tb K mg) (stp Φ) P w base (k + 8) 8 := by
  obtain ⟨fd, FD⟩ := fx.d.def_ 8 (d := d_Ratio___eq__) rfl
  exact ⟨⟨fd, (["self", "other"] : List Str), k_Ratio___eq__ fx FD, (dfl_one rfl (FD.bindsN fun _ _ _ _ _ _ us hl => match us, hl with | [_, _], _ => rfl))⟩, FD.kp⟩
theorem z_Ratio___eq__ (fx : Fx K mg) (k : Nat) : FnG (tb K mg) (Ph 0) P w base k 8 := by
  obtain ⟨fd, FD⟩ := fx.d.def_ 8 (d := d_Ratio___eq__) rfl
  exact ⟨⟨fd, (["self", "other"] : List Str), fn_stuck, (dfl_one rfl (FD.bindsN fun _ _ _ _ _ _ us hl => match us, hl with | [_, _], _ => rfl))⟩, FD.kp⟩
theorem g_Ratio___str__ (fx : Fx K mg) (lv : Lv K mg Φ P w base k) : FnG (tb K mg) (stp Φ) P w base (k + 8) 9 := by
  obtain ⟨fd, FD⟩ := fx.d.def_ 9 (d := d_Ratio___str__) rfl
  exact ⟨⟨fd, (["self"] : List Str), k_Ratio___str__ fx lv FD, (dfl_one rfl (FD.bindsN fun _ _ _ _ _ _ us hl => match us, hl with | [_], _ => rfl))⟩, FD.kp⟩
theorem z_Ratio___str__ (fx : Fx K mg) (k : Nat) : FnG (tb K mg) (Ph 0) P w base k 9 := by
  obtain ⟨fd, FD⟩ := fx.d.def_ 9 (d := d_Ratio___str__) rfl
  exact ⟨⟨fd, (["self"] : List Str), fn_stuck, (dfl_one rfl (FD.bindsN fun _ _ _ _ _ _ us hl => match us, hl with | [_], _ => rfl))⟩, FD.kp⟩
theorem g_Ratio_over (fx : Fx K mg) (lv : Lv K mg Φ P w base k) : FnG (tb K mg) (stp Φ) P w base (k + 8) 10 := by
  obtain ⟨fd, FD⟩ := fx.d.def_ 10 (d := d_Ratio_over) rfl
  exact ⟨⟨fd, (["self", "other"] : List Str), k_Ratio_over fx lv FD, (dfl_one rfl (FD.bindsN fun _ _ _ _ _ _ us hl => match us, hl with | [_, _], _ => rfl))⟩, FD.kp⟩
theorem z_Ratio_over (fx : Fx K mg) (k : Nat) : FnG (tb K mg) (Ph 0) P w base k 10 := by
  obtain ⟨fd, FD⟩ := fx.d.def_ 10 (d := d_Ratio_over) rfl
  exact ⟨⟨fd, (["self", "other"] : List Str), fn_stuck, (dfl_one rfl (FD.bindsN fun _ _ _ _ _ _ us hl => match us, hl with | [_, _], _ => rfl))⟩, FD.kp⟩
theorem g_Ratio_sign (fx : Fx K mg) (lv : Lv K mg Φ P w base k) : FnG (tb K mg) (stp Φ) P w base (k + 8) 11 := by
  obtain ⟨fd, FD⟩ := fx.d.def_ 11 (d := d_Ratio_sign) rfl
  exact ⟨⟨fd, (["self"] : List Str), k_Ratio_sign fx lv FD, (dfl_one rfl (FD.bindsN fun _ _ _ _ _ _ us hl => match us, hl with | [_], _ => rfl))⟩, FD.kp⟩
theorem z_Ratio_sign (fx : Fx K mg) (k : Nat) : FnG (tb K mg) (Ph 0) P w base k 11 := by
  obtain ⟨fd, FD⟩ := fx.d.def_ 11 (d := d_Ratio_sign) rfl
  exact ⟨⟨fd, (["self"] : List Str), fn_stuck, (dfl_one rfl (FD.bindsN fun _ _ _ _ _ _ us hl => match us, hl with | [_], _ => rfl))⟩, FD.kp⟩
theorem g_Ratio_is_whole (fx : Fx K mg) (lv : Lv K mg Φ P w base k) : FnG (tb K mg) (stp Φ) P w base (k + 8) 12 := by
  obtain ⟨fd, FD⟩ := fx.d.def_ 12 (d := d_Ratio_is_whole) rfl
  exact ⟨⟨fd, (["self"] : List Str), k_Ratio_is_whole fx lv FD, (dfl_one rfl (FD.bindsN fun _ _ _ _ _ _ us hl => match us, hl with | [_], _ => rfl))⟩, FD.kp⟩
theorem z_Ratio_is_whole (fx : Fx K mg) (k : Nat) : FnG (tb K mg) (Ph 0) P w base k 12 := by
  obtain ⟨fd, FD⟩ := fx.d.def_ 12 (d := d_Ratio_is_whole) rfl
  exact ⟨⟨fd, (["self"] : List Str), fn_stuck, (dfl_one rfl (FD.bindsN fun _ _ _ _ _ _ us hl => match us, hl with | [_], _ => rfl))⟩, FD.kp⟩
theorem g_check_ratio (fx : Fx K mg) (lv : Lv K mg Φ P w base k) : FnG (tb K mg) (stp Φ) P w base (k + 8) 13 := by
  obtain ⟨fd, FD⟩ := fx.d.def_ 13 (d := d_check_ratio) rfl
  exact ⟨⟨fd, (["value"] : List Str), k_check_ratio fx lv FD, (dfl_one rfl (FD.bindsN fun _ _ _ _ _ _ us hl => match us, hl with | [_], _ => rfl))⟩, FD.kp⟩
theorem z_check_ratio (fx : Fx K mg) (k : Nat) : FnG (tb K mg) (Ph 0) P w base k 13 := by
  obtain ⟨fd, FD⟩ := fx.d.def_ 13 (d := d_check_ratio) rfl
  exact ⟨⟨fd, (["value"] : List Str), fn_stuck, (dfl_one rfl (FD.bindsN fun _ _ _ _ _ _ us hl => match us, hl with | [_], _ => rfl))⟩, FD.kp⟩
theorem g_read_ratio (fx : Fx K mg) (lv : Lv K mg Φ P w base k) : FnG (tb K mg) (stp Φ) P w base (k + 8) 14 := by
  obtain ⟨fd, FD⟩ := fx.d.def_ 14 (d := d_read_ratio) rfl
  exact ⟨⟨fd, (["text"] : List Str), k_read_ratio fx lv FD, (dfl_one rfl (FD.bindsN fun _ _ _ _ _ _ us hl => match us, hl with | [_], _ => rfl))⟩, FD.kp⟩
theorem z_read_ratio (fx : Fx K mg) (k : Nat) : FnG (tb K mg) (Ph 0) P w base k 14 := by
  obtain ⟨fd, FD⟩ := fx.d.def_ 14 (d := d_read_ratio) rfl
  exact ⟨⟨fd, (["text"] : List Str), fn_stuck, (dfl_one rfl (FD.bindsN fun _ _ _ _ _ _ us hl => match us, hl with | [_], _ => rfl))⟩, FD.kp⟩
theorem g__law_state (fx : Fx K mg) (lv : Lv K mg Φ P w base k) : FnG (tb K mg) (stp Φ) P w base (k + 8) 15 := by
  obtain ⟨fd, FD⟩ := fx.d.def_ 15 (d := d__law_state) rfl
  exact ⟨⟨fd, (["script"] : List Str), k__law_state fx lv FD, (dfl_one rfl (FD.bindsN fun _ _ _ _ _ _ us hl => match us, hl with | [_], _ => rfl))⟩, FD.kp⟩
theorem z__law_state (fx : Fx K mg) (k : Nat) : FnG (tb K mg) (Ph 0) P w base k 15 := by
  obtain ⟨fd, FD⟩ := fx.d.def_ 15 (d := d__law_state) rfl
  exact ⟨⟨fd, (["script"] : List Str), fn_stuck, (dfl_one rfl (FD.bindsN fun _ _ _ _ _ _ us hl => match us, hl with | [_], _ => rfl))⟩, FD.kp⟩
theorem g__law_take (fx : Fx K mg) (lv : Lv K mg Φ P w base k) : FnG (tb K mg) (stp Φ) P w base (k + 8) 16 := by
  obtain ⟨fd, FD⟩ := fx.d.def_ 16 (d := d__law_take) rfl
  exact ⟨⟨fd, (["state", "m"] : List Str), k__law_take fx lv FD, (dfl_one rfl (FD.bindsN fun _ _ _ _ _ _ us hl => match us, hl with | [_, _], _ => rfl))⟩, FD.kp⟩
theorem z__law_take (fx : Fx K mg) (k : Nat) : FnG (tb K mg) (Ph 0) P w base k 16 := by
  obtain ⟨fd, FD⟩ := fx.d.def_ 16 (d := d__law_take) rfl
  exact ⟨⟨fd, (["state", "m"] : List Str), fn_stuck, (dfl_one rfl (FD.bindsN fun _ _ _ _ _ _ us hl => match us, hl with | [_, _], _ => rfl))⟩, FD.kp⟩
theorem g__law_says (fx : Fx K mg) (lv : Lv K mg Φ P w base k) : FnG (tb K mg) (stp Φ) P w base (k + 8) 17 := by
  obtain ⟨fd, FD⟩ := fx.d.def_ 17 (d := d__law_says) rfl
  exact ⟨⟨fd, (["value", "due"] : List Str), k__law_says fx lv FD, (dfl_one rfl (FD.bindsN fun _ _ _ _ _ _ us hl => match us, hl with | [_, _], _ => rfl))⟩, FD.kp⟩
theorem z__law_says (fx : Fx K mg) (k : Nat) : FnG (tb K mg) (Ph 0) P w base k 17 := by
  obtain ⟨fd, FD⟩ := fx.d.def_ 17 (d := d__law_says) rfl
  exact ⟨⟨fd, (["value", "due"] : List Str), fn_stuck, (dfl_one rfl (FD.bindsN fun _ _ _ _ _ _ us hl => match us, hl with | [_, _], _ => rfl))⟩, FD.kp⟩
theorem g__law_is_whole (fx : Fx K mg) (lv : Lv K mg Φ P w base k) : FnG (tb K mg) (stp Φ) P w base (k + 8) 18 := by
  obtain ⟨fd, FD⟩ := fx.d.def_ 18 (d := d__law_is_whole) rfl
  exact ⟨⟨fd, (["value"] : List Str), k__law_is_whole fx lv FD, (dfl_one rfl (FD.bindsN fun _ _ _ _ _ _ us hl => match us, hl with | [_], _ => rfl))⟩, FD.kp⟩
theorem z__law_is_whole (fx : Fx K mg) (k : Nat) : FnG (tb K mg) (Ph 0) P w base k 18 := by
  obtain ⟨fd, FD⟩ := fx.d.def_ 18 (d := d__law_is_whole) rfl
  exact ⟨⟨fd, (["value"] : List Str), fn_stuck, (dfl_one rfl (FD.bindsN fun _ _ _ _ _ _ us hl => match us, hl with | [_], _ => rfl))⟩, FD.kp⟩
theorem g__law_same (fx : Fx K mg) (lv : Lv K mg Φ P w base k) : FnG (tb K mg) (stp Φ) P w base (k + 8) 19 := by
  obtain ⟨fd, FD⟩ := fx.d.def_ 19 (d := d__law_same) rfl
  exact ⟨⟨fd, (["one", "two"] : List Str), k__law_same fx lv FD, (dfl_one rfl (FD.bindsN fun _ _ _ _ _ _ us hl => match us, hl with | [_, _], _ => rfl))⟩, FD.kp⟩
theorem z__law_same (fx : Fx K mg) (k : Nat) : FnG (tb K mg) (Ph 0) P w base k 19 := by
  obtain ⟨fd, FD⟩ := fx.d.def_ 19 (d := d__law_same) rfl
  exact ⟨⟨fd, (["one", "two"] : List Str), fn_stuck, (dfl_one rfl (FD.bindsN fun _ _ _ _ _ _ us hl => match us, hl with | [_, _], _ => rfl))⟩, FD.kp⟩
theorem g__law_common (fx : Fx K mg) (lv : Lv K mg Φ P w base k) : FnG (tb K mg) (stp Φ) P w base (k + 8) 20 := by
  obtain ⟨fd, FD⟩ := fx.d.def_ 20 (d := d__law_common) rfl
  exact ⟨⟨fd, (["a", "b"] : List Str), k__law_common fx lv FD, (dfl_one rfl (FD.bindsN fun _ _ _ _ _ _ us hl => match us, hl with | [_, _], _ => rfl))⟩, FD.kp⟩
theorem z__law_common (fx : Fx K mg) (k : Nat) : FnG (tb K mg) (Ph 0) P w base k 20 := by
  obtain ⟨fd, FD⟩ := fx.d.def_ 20 (d := d__law_common) rfl
  exact ⟨⟨fd, (["a", "b"] : List Str), fn_stuck, (dfl_one rfl (FD.bindsN fun _ _ _ _ _ _ us hl => match us, hl with | [_, _], _ => rfl))⟩, FD.kp⟩
theorem g__law_db_made (fx : Fx K mg) (lv : Lv K mg Φ P w base k) : FnG (tb K mg) (stp Φ) P w base (k + 8) 21 := by
  obtain ⟨fd, FD⟩ := fx.d.def_ 21 (d := d__law_db_made) rfl
  exact ⟨⟨fd, (["n", "d"] : List Str), k__law_db_made fx lv FD, (dfl_one rfl (FD.bindsN fun _ _ _ _ _ _ us hl => match us, hl with | [_, _], _ => rfl))⟩, FD.kp⟩
theorem z__law_db_made (fx : Fx K mg) (k : Nat) : FnG (tb K mg) (Ph 0) P w base k 21 := by
  obtain ⟨fd, FD⟩ := fx.d.def_ 21 (d := d__law_db_made) rfl
  exact ⟨⟨fd, (["n", "d"] : List Str), fn_stuck, (dfl_one rfl (FD.bindsN fun _ _ _ _ _ _ us hl => match us, hl with | [_, _], _ => rfl))⟩, FD.kp⟩
theorem g__law_db_over (fx : Fx K mg) (lv : Lv K mg Φ P w base k) : FnG (tb K mg) (stp Φ) P w base (k + 8) 22 := by
  obtain ⟨fd, FD⟩ := fx.d.def_ 22 (d := d__law_db_over) rfl
  exact ⟨⟨fd, (["a", "b"] : List Str), k__law_db_over fx lv FD, (dfl_one rfl (FD.bindsN fun _ _ _ _ _ _ us hl => match us, hl with | [_, _], _ => rfl))⟩, FD.kp⟩
theorem z__law_db_over (fx : Fx K mg) (k : Nat) : FnG (tb K mg) (Ph 0) P w base k 22 := by
  obtain ⟨fd, FD⟩ := fx.d.def_ 22 (d := d__law_db_over) rfl
  exact ⟨⟨fd, (["a", "b"] : List Str), fn_stuck, (dfl_one rfl (FD.bindsN fun _ _ _ _ _ _ us hl => match us, hl with | [_, _], _ => rfl))⟩, FD.kp⟩
theorem g__law_db_plus_of (fx : Fx K mg) (lv : Lv K mg Φ P w base k) : FnG (tb K mg) (stp Φ) P w base (k + 8) 23 := by
  obtain ⟨fd, FD⟩ := fx.d.def_ 23 (d := d__law_db_plus_of) rfl
  exact ⟨⟨fd, (["a", "b"] : List Str), k__law_db_plus_of fx lv FD, (dfl_one rfl (FD.bindsN fun _ _ _ _ _ _ us hl => match us, hl with | [_, _], _ => rfl))⟩, FD.kp⟩
theorem z__law_db_plus_of (fx : Fx K mg) (k : Nat) : FnG (tb K mg) (Ph 0) P w base k 23 := by
  obtain ⟨fd, FD⟩ := fx.d.def_ 23 (d := d__law_db_plus_of) rfl
  exact ⟨⟨fd, (["a", "b"] : List Str), fn_stuck, (dfl_one rfl (FD.bindsN fun _ _ _ _ _ _ us hl => match us, hl with | [_, _], _ => rfl))⟩, FD.kp⟩
theorem g__law_db_told (fx : Fx K mg) (lv : Lv K mg Φ P w base k) : FnG (tb K mg) (stp Φ) P w base (k + 8) 24 := by
  obtain ⟨fd, FD⟩ := fx.d.def_ 24 (d := d__law_db_told) rfl
  exact ⟨⟨fd, (["act", "given"] : List Str), k__law_db_told fx lv FD, (dfl_one rfl (FD.bindsN fun _ _ _ _ _ _ us hl => match us, hl with | [_, _], _ => rfl))⟩, FD.kp⟩
theorem z__law_db_told (fx : Fx K mg) (k : Nat) : FnG (tb K mg) (Ph 0) P w base k 24 := by
  obtain ⟨fd, FD⟩ := fx.d.def_ 24 (d := d__law_db_told) rfl
  exact ⟨⟨fd, (["act", "given"] : List Str), fn_stuck, (dfl_one rfl (FD.bindsN fun _ _ _ _ _ _ us hl => match us, hl with | [_, _], _ => rfl))⟩, FD.kp⟩
theorem g_law (fx : Fx K mg) (lv : Lv K mg Φ P w base k) : FnG (tb K mg) (stp Φ) P w base (k + 8) 25 := by
  obtain ⟨fd, FD⟩ := fx.d.def_ 25 (d := d_law) rfl
  exact ⟨⟨fd, (["script"] : List Str), k_law fx lv FD, (dfl_one rfl (FD.bindsN fun _ _ _ _ _ _ us hl => match us, hl with | [_], _ => rfl))⟩, FD.kp⟩
theorem z_law (fx : Fx K mg) (k : Nat) : FnG (tb K mg) (Ph 0) P w base k 25 := by
  obtain ⟨fd, FD⟩ := fx.d.def_ 25 (d := d_law) rfl
  exact ⟨⟨fd, (["script"] : List Str), fn_stuck, (dfl_one rfl (FD.bindsN fun _ _ _ _ _ _ us hl => match us, hl with | [_], _ => rfl))⟩, FD.kp⟩
theorem ratq (fx : Fx K mg) (Φ : Phi) : RatQ (tb K mg) (stp Φ) 8 where
  eq := (at_ok (exB_at fx.x 33 (f := .at_ "Ratio" "__eq__" "__eq__"))).1
  ne := He.eqO_ok (exB_at fx.x 38 (f := .bu "Ratio" "__ne__" "object.__ne__"))
  fn := (at_ok (exB_at fx.x 33 (f := .at_ "Ratio" "__eq__" "__eq__"))).2
  ob := of_decide_eq_true (exB_at fx.x 22 (f := .sub "Ratio" "object" true))
  nf := fx.nf
  val := fun a d b ce e => eqR_val (nC := 1) (Ca := []) (Cb := []) rfl a d b ce e
  dfl := List.Mem.head _
theorem iw_ (fx : Fx K mg) : FnW (tb K mg) P w base 18 := by
  obtain ⟨fd, FD⟩ := fx.d.def_ 18 (d := d__law_is_whole) rfl
  exact fn_W FD sc__law_is_whole (FD.bindsN fun _ _ _ _ _ _ us hl => match us, hl with | [_], _ => rfl) (fx.f 0) (fx.f 2) (fx.f 1) rfl rfl rfl rfl
theorem lv_zero (fx : Fx K mg) : Lv K mg (Ph 0) P w base 8 where
  fn := fun f h => by
    unfold isFn at h
    split at h
    · exact z_is_integer fx 8
    · exact z_common fx 8
    · exact z_Ratio___add__ fx 8
    · exact z_Ratio___sub__ fx 8
    · exact z_Ratio___mul__ fx 8
    · exact z_Ratio___neg__ fx 8
    · exact z_Ratio___eq__ fx 8
    · exact z_Ratio___str__ fx 8
    · exact z_Ratio_over fx 8
    · exact z_Ratio_sign fx 8
    · exact z_Ratio_is_whole fx 8
    · exact z_check_ratio fx 8
    · exact z_read_ratio fx 8
    · exact z__law_state fx 8
    · exact z__law_take fx 8
    · exact z__law_says fx 8
    · exact z__law_is_whole fx 8
    · exact z__law_same fx 8
    · exact z__law_common fx 8
    · exact z__law_db_made fx 8
    · exact z__law_db_over fx 8
    · exact z__law_db_plus_of fx 8
    · exact z__law_db_told fx 8
    · exact z_law fx 8
    · cases h
  make := fun C f h => by
    unfold isMk at h
    split at h
    · exact z_Ratio___init__ fx 8
    · cases h
  xi_NoText := xi_NoText fx 7
  iw := iw_ fx
  eq := ⟨stp (fun _ _ _ => .stuck), 8, ratq fx _, g_Ratio___eq__ (k := 0) fx⟩
theorem lv_step (fx : Fx K mg) (lv : Lv K mg Φ P w base k) : Lv K mg (stp Φ) P w base (k + 8) where
  fn := fun f h => by
    unfold isFn at h
    split at h
    · exact g_is_integer fx lv
    · exact g_common fx lv
    · exact g_Ratio___add__ fx lv
    · exact g_Ratio___sub__ fx lv
    · exact g_Ratio___mul__ fx lv
    · exact g_Ratio___neg__ fx lv
    · exact g_Ratio___eq__ fx
    · exact g_Ratio___str__ fx lv
    · exact g_Ratio_over fx lv
    · exact g_Ratio_sign fx lv
    · exact g_Ratio_is_whole fx lv
    · exact g_check_ratio fx lv
    · exact g_read_ratio fx lv
    · exact g__law_state fx lv
    · exact g__law_take fx lv
    · exact g__law_says fx lv
    · exact g__law_is_whole fx lv
    · exact g__law_same fx lv
    · exact g__law_common fx lv
    · exact g__law_db_made fx lv
    · exact g__law_db_over fx lv
    · exact g__law_db_plus_of fx lv
    · exact g__law_db_told fx lv
    · exact g_law fx lv
    · cases h
  make := fun C f h => by
    unfold isMk at h
    split at h
    · exact g_Ratio___init__ fx lv
    · cases h
  xi_NoText := xi_NoText fx (k + 7)
  iw := iw_ fx
  eq := ⟨stp (fun _ _ _ => .stuck), 8, ratq fx _, g_Ratio___eq__ fx⟩
theorem lv_all (fx : Fx K mg) : ∀ n, Lv K mg (Ph n) P w base (8 + 8 * n)
  | 0 => lv_zero fx
  | n + 1 => lv_step fx (lv_all fx n)
end
abbrev Rr : PySem.W.OpenRow := PySem.W.OpenLaw.row PySem.Challenge.rw_doubleroads_k00_whole_ratios_of_numbers
abbrev hk : PySem.W.Hook := hookO 5 fa fn (exB fb)
def ob (s : PySem.W.SharedT) : AlO := obsO 5 fa fn (exB fb) (HandSHeadRun.getT s)
theorem ob_eq (s : PySem.W.SharedT) : ob s = hk.obs s.abs := obsO_eq (HandSHeadRun.getT_eq s)
theorem run (w : World) : HandSHeadRun.RunEq Rr (PySem.W.view Rr.prog [24]) hk ob 40000 loose w := by
  intro os
  kernel_rfl
def LawOk : Prop := ∀ ns : List Int, ns.length ≤ 63 → ∃ ce, Ph 27 25 [.scr ns] [] = .ok (.v (.bl true)) ce
theorem facts {P : Program} {w : World} {K : PySem.W.Frag} {h : Heap} {mg : Str → Option Value} {f : Addr} (ok : LawOk) (X : K.In h) (G : h.Ns mainGlobals mg) (hfa : mg ("law" : Str) = some (.ref f)) (c : SaysO fa fn (exB fb) K) :
    ∃ fd : FuncData, (∀ (s : Shared) (v : Value), BindsTo s fd ⟨[v], []⟩ [("script", v)]) ∧ ∀ base : Heap, K.In base → base.Ns mainGlobals mg → FnOk P w K mg base CX0 224 f fd ["script"] (fun vs H Q _ => spF (tb K mg) (Ph 27 25) vs H Q (fun _ _ _ => False)) := by
  have fx : Fx K mg := ⟨⟨h, X, G⟩, c.d, c.more⟩
  obtain ⟨fd, FD⟩ := fx.d.def_ 25 (d := d_law) rfl
  have e := hfa.symm.trans (fx.g 28 (x := "law"))
  cases e
  have b := FunD.bindsA (ps := ["script"]) FD fun _ _ _ _ _ _ us hl => match us, hl with | [_], _ => rfl
  exact ⟨fd, fun s v => b s [v] rfl, fun base _ _ => FnOk_quiet (k_law fx (lv_all fx 26) FD)⟩
end Lw
open PySem PySem.W PySem.Calls PyProof.Rows
theorem Lw.holds (ok : Lw.LawOk) : PySem.Challenge.rw_doubleroads_k00_whole_ratios_of_numbers.Holds := by
  w_on; o_law
  refine HandSHeadRun.head_any (r := OpenLaw.row PySem.Challenge.rw_doubleroads_k00_whole_ratios_of_numbers) (q := view (OpenLaw.row PySem.Challenge.rw_doubleroads_k00_whole_ratios_of_numbers).prog [24]) (H := Lw.hk) (ob := Lw.ob) (M := 40000) (loose := Lw.loose) (d := HandSHeadRun.topDef (OpenLaw.row PySem.Challenge.rw_doubleroads_k00_whole_ratios_of_numbers).prog 24) (kwd := []) Lw.ob_eq
    (by kernel_rfl) (fun s => by kernel_rfl) Lw.run (by kernel_rfl) (by kernel_rfl) (by kernel_rfl) (by rfl) (by first | assumption | decide +kernel) (by decide +kernel) ⟨rfl, rfl, rfl, rfl, rfl, by decide +kernel⟩ ?hw ?hc
  case hw => w_witness2
  case hc =>
    refine L2.walk_ofE (l := PySem.Challenge.rw_doubleroads_k00_whole_ratios_of_numbers) (n := 63) (k := 224) (x := "script") (CX := L2.CX0) rfl (by decide) (by kernel_rfl) ⟨rfl, by decide, by decide⟩ ?F (fun _ _ _ _ z => z)
    intro w mg fa h Y G hmg0
    obtain ⟨K, KX, c⟩ := Y
    have hmg : mg ("law" : PySem.Str) = some (.ref fa) := by
      have e : (HandSHeadRun.topDef (OpenLaw.row PySem.Challenge.rw_doubleroads_k00_whole_ratios_of_numbers).prog 24).name = ("law" : PySem.Str) := by kernel_rfl
      rw [← e]
      exact hmg0
    obtain ⟨fd, hb, hF⟩ := Lw.facts (P := (PySem.Challenge.rw_doubleroads_k00_whole_ratios_of_numbers).prog) (w := w) ok KX G hmg c
    exact ⟨K, fd, fun vs H Q _ => TL.spF (Lw.tb K mg) (Lw.Ph 27 25) vs H Q (fun _ _ _ => False), KX, hb, fun H a ns hl _ hS => TL.law_end (T := Lw.tb K mg) hS (ok ns hl), hF⟩

end
section
namespace Lw
theorem law_ok : LawOk := fun ns _ => v_law 16 ns
end Lw

end
set_option Elab.async false
set_option maxRecDepth 100000
set_option maxHeartbeats 0
theorem PySem.Challenge.cw_doubleroads_k00_whole_ratios_of_numbers_holds : PySem.Challenge.rw_doubleroads_k00_whole_ratios_of_numbers.Holds := by
  exact Lw.holds Lw.law_ok
