import PyProof.Rows.All
import Wide.All
import OpenK.AllK
import Wide.FinOn
import HandS.ForMost
import HandS.Exc
import HandS.ExcOwn
import HandS.WordsExc
import HandS.IsInst
import HandS.Zip
import HandS.Walk
import HandS.TupAny
import HandS.TupMul
import HandS.Deep
import HandS.Style
import HandS.Conv
import HandS.Wide
import KE.LtData
import KE.SortData
import KE.KTupSum
import KE.GoesEnum
import KE.GoesMore
import KE.KRevSl
import HandS.HotCalls
import HandS.ExcIs
import HandS.SetFor
import HandS.Defaults
import HandS.HeadHook2
import PyProof.ExcBaseAll.ValueError
import HandS.Head2
import HandS.HeadEnd
import Lean
import PySem.Challenge.RW_gainboards_k23_whole_gains_under
set_option Elab.async false
set_option linter.all false
set_option maxRecDepth 100000
set_option maxHeartbeats 4000000
/-! GV1: data, worlds, relations. -/
namespace GV
open PySem L2

inductive D where
  | non | bl (b : Bool) | int (i : Int) | str (x : Str) | tup (xs : List D) | lst (xs : List D) | obj (n : Nat)
inductive Fd where
  | v (d : D) | own (n : Nat) (xs : List D)
inductive MO where
  | lst (xs : List D) | ins (c : Nat) (fs : List (Str × Fd))
abbrev MH := List MO
/-- what an expression yields: plain data, a list that nobody else holds, a list lent by its holder -/
inductive R where
  | v (d : D) | nl (xs : List D) | bw (xs : List D)
inductive Sl where
  | v (d : D) | own (xs : List D) | bw (xs : List D)
abbrev SS := List (Option Sl)
inductive O (α : Type) where
  | ok (a : α) (h : MH) | ex (c : Nat) (h : MH) | no
def O.bind {α β : Type} : O α → (α → MH → O β) → O β
  | .ok a h, k => k a h
  | .ex c h, _ => .ex c h
  | .no, _ => .no
@[simp] theorem O.bind_ok {α β : Type} (a : α) (h : MH) (k : α → MH → O β) : (O.ok a h).bind k = k a h := rfl
@[simp] theorem O.bind_ex {α β : Type} (c : Nat) (h : MH) (k : α → MH → O β) : (O.ex c h : O α).bind k = .ex c h := rfl
@[simp] theorem O.bind_no {α β : Type} (k : α → MH → O β) : (O.no : O α).bind k = .no := rfl
def O.of {α : Type} (h : MH) : Option α → O α
  | some a => .ok a h
  | none => .no
@[simp] theorem O.of_some {α : Type} (h : MH) (a : α) : O.of h (some a) = .ok a h := rfl
@[simp] theorem O.of_none {α : Type} (h : MH) : O.of h (none : Option α) = .no := rfl

structure Wd where
  k : Nat × Option (Str × Nat) → Option Addr
  F : Addr → Prop
def Wd.fp (W : Wd) (a : Addr) : Prop := ∃ q, W.k q = some a

mutual
inductive Rep (K : PySem.W.Frag) (W : Wd) (H : Hp) : V → D → Prop
  | non : Rep K W H .non .non
  | bl (b : Bool) : Rep K W H (.bl b) (.bl b)
  | int (i : Int) : Rep K W H (.int i) (.int i)
  | str (x : Str) : Rep K W H (.str x) (.str x)
  | tup {a : Addr} {vs : List V} {ds : List D} : SqT K H a vs → RepL K W H vs ds → Rep K W H (.ref a) (.tup ds)
  | lst {a : Addr} {vs : List V} {ds : List D} : Rd H a (.lst vs) → W.F a → RepL K W H vs ds → Rep K W H (.ref a) (.lst ds)
  | obj {i : Nat} {a : Addr} : W.k (i, none) = some a → Rep K W H (.ref a) (.obj i)
inductive RepL (K : PySem.W.Frag) (W : Wd) (H : Hp) : List V → List D → Prop
  | nil : RepL K W H [] []
  | cons {v : V} {vs : List V} {d : D} {ds : List D} : Rep K W H v d → RepL K W H vs ds → RepL K W H (v :: vs) (d :: ds)
end

def FRel (K : PySem.W.Frag) (W : Wd) (H : Hp) (i : Nat) (p : Str × Fd) (q : Str × V) : Prop :=
  p.1 = q.1 ∧ match p.2 with
  | .v d => Rep K W H q.2 d
  | .own n xs => ∃ a vs, W.k (i, some (p.1, n)) = some a ∧ q.2 = .ref a ∧ H a = some (.lst vs) ∧ RepL K W H vs xs
def MRel (K : PySem.W.Frag) (cl : Nat → Option Addr) (W : Wd) (H : Hp) (i : Nat) : MO → Prop
  | .lst xs => ∃ a vs, W.k (i, none) = some a ∧ H a = some (.lst vs) ∧ RepL K W H vs xs
  | .ins c fs => ∃ a C dx gs, W.k (i, none) = some a ∧ cl c = some C ∧ H a = some (.ins C dx gs) ∧ Paired (FRel K W H i) fs gs

structure WOk (K : PySem.W.Frag) (cl : Nat → Option Addr) (W : Wd) (h : MH) (H : Hp) : Prop where
  inj : ∀ q q' a, W.k q = some a → W.k q' = some a → q = q'
  dis : ∀ a, W.F a → ¬ W.fp a
  cov : ∀ a, W.fp a → (∃ xs, H a = some (.lst xs)) ∨ ∃ C dx fs, H a = some (.ins C dx fs)
  frz : ∀ a, W.F a → H a ≠ none
  obj : ∀ (i : Nat) o, h[i]? = some o → MRel K cl W H i o
  bnd : ∀ q a, W.k q = some a → q.1 < h.length

structure Ext (W : Wd) (H : Hp) (W' : Wd) (H' : Hp) : Prop where
  keep : ∀ a o, H a = some o → ¬ W.fp a → H' a = some o
  there : ∀ a, H a ≠ none → H' a ≠ none
  fpn : ∀ a, W'.fp a → W.fp a ∨ H a = none
  ids : ∀ q a, W.k q = some a → W'.k q = some a
  fF : ∀ a, W.F a → W'.F a
  fn : ∀ a, W'.F a → W.F a ∨ H a = none

theorem Ext.refl (W : Wd) (H : Hp) : Ext W H W H :=
  ⟨fun _ _ e _ => e, fun _ e => e, fun _ e => .inl e, fun _ _ e => e, fun _ e => e, fun _ e => .inl e⟩
theorem Ext.new {W W' : Wd} {H H' : Hp} (x : Ext W H W' H') {a : Addr} (e : H' a = none) : H a = none := by
  cases q : H a with
  | none => rfl
  | some o => exact absurd e (x.there a (by rw [q]; exact Option.some_ne_none _))
theorem Ext.trans {W W1 W2 : Wd} {H H1 H2 : Hp} (a : Ext W H W1 H1) (b : Ext W1 H1 W2 H2) : Ext W H W2 H2 where
  keep := fun c o e n => b.keep c o (a.keep c o e n) fun z => (a.fpn c z).elim n fun q => by rw [q] at e; cases e
  there := fun c e => b.there c (a.there c e)
  fpn := fun c z => (b.fpn c z).elim (a.fpn c) fun q => .inr (a.new q)
  ids := fun i c e => b.ids i c (a.ids i c e)
  fF := fun c e => b.fF c (a.fF c e)
  fn := fun c z => (b.fn c z).elim (a.fn c) fun q => .inr (a.new q)

section
variable {K : PySem.W.Frag} {cl : Nat → Option Addr} {W W' : Wd} {H H' : Hp} {h h' : MH}
theorem notfp_tup {a : Addr} {xs : List V} (ok : WOk K cl W h H) (e : H a = some (.tup xs)) : ¬ W.fp a := fun z => by
  rcases ok.cov a z with ⟨ys, q⟩ | ⟨C, dx, fs, q⟩ <;> rw [e] at q <;> cases q
theorem notfp_frz {a : Addr} {o : Obj} {u : HO} (ok : WOk K cl W h H) (e : H a = some (.frz o u)) : ¬ W.fp a := fun z => by
  rcases ok.cov a z with ⟨ys, q⟩ | ⟨C, dx, fs, q⟩ <;> rw [e] at q <;> cases q
theorem sqT_ext {a : Addr} {xs : List V} (ok : WOk K cl W h H) (x : Ext W H W' H') (e : SqT K H a xs) : SqT K H' a xs := by
  rcases e with (e | ⟨o, e⟩) | e
  · exact .inl (.inl (x.keep _ _ e (notfp_tup ok e)))
  · exact .inl (.inr ⟨o, x.keep _ _ e (notfp_frz ok e)⟩)
  · exact .inr e
theorem rd_ext {a : Addr} {u : HO} (x : Ext W H W' H') (n : ¬ W.fp a) (e : Rd H a u) : Rd H' a u := by
  rcases e with e | ⟨o, e⟩
  · exact .inl (x.keep _ _ e n)
  · exact .inr ⟨o, x.keep _ _ e n⟩
mutual
theorem Rep.ext (ok : WOk K cl W h H) (x : Ext W H W' H') : ∀ {v : V} {d : D}, Rep K W H v d → Rep K W' H' v d
  | _, _, .non => .non
  | _, _, .bl b => .bl b
  | _, _, .int i => .int i
  | _, _, .str s => .str s
  | _, _, .tup e r => .tup (sqT_ext ok x e) (RepL.ext ok x r)
  | _, _, .lst e f r => .lst (rd_ext x (ok.dis _ f) e) (x.fF _ f) (RepL.ext ok x r)
  | _, _, .obj e => .obj (x.ids _ _ e)
theorem RepL.ext (ok : WOk K cl W h H) (x : Ext W H W' H') : ∀ {vs : List V} {ds : List D}, RepL K W H vs ds → RepL K W' H' vs ds
  | _, _, .nil => .nil
  | _, _, .cons a b => .cons (Rep.ext ok x a) (RepL.ext ok x b)
end
theorem RepL.length : ∀ {vs : List V} {ds : List D}, RepL K W H vs ds → vs.length = ds.length
  | _, _, .nil => rfl
  | _, _, .cons _ b => by simp [RepL.length b]
theorem RepL.get : ∀ {vs : List V} {ds : List D} {i : Nat} {v : V}, RepL K W H vs ds → vs[i]? = some v → ∃ d, ds[i]? = some d ∧ Rep K W H v d
  | _, _, _, _, .nil, e => by simp at e
  | _, _, 0, _, .cons a _, e => by simp at e; subst e; exact ⟨_, rfl, a⟩
  | _, _, i + 1, v, .cons _ b, e => by simpa using RepL.get (i := i) b (by simpa using e)
theorem RepL.get' : ∀ {vs : List V} {ds : List D} {i : Nat} {d : D}, RepL K W H vs ds → ds[i]? = some d → ∃ v, vs[i]? = some v ∧ Rep K W H v d
  | _, _, _, _, .nil, e => by simp at e
  | _, _, 0, _, .cons a _, e => by simp at e; subst e; exact ⟨_, rfl, a⟩
  | _, _, i + 1, v, .cons _ b, e => by simpa using RepL.get' (i := i) b (by simpa using e)
theorem RepL.append : ∀ {vs ws : List V} {ds es : List D}, RepL K W H vs ds → RepL K W H ws es → RepL K W H (vs ++ ws) (ds ++ es)
  | _, _, _, _, .nil, q => q
  | _, _, _, _, .cons a b, q => .cons a (RepL.append b q)
theorem RepL.drop : ∀ {vs : List V} {ds : List D} (n : Nat), RepL K W H vs ds → RepL K W H (vs.drop n) (ds.drop n)
  | _, _, 0, r => r
  | _, _, _ + 1, .nil => .nil
  | _, _, n + 1, .cons _ b => RepL.drop n b
theorem RepL.take : ∀ {vs : List V} {ds : List D} (n : Nat), RepL K W H vs ds → RepL K W H (vs.take n) (ds.take n)
  | _, _, 0, _ => .nil
  | _, _, _ + 1, .nil => .nil
  | _, _, n + 1, .cons a b => .cons a (RepL.take n b)
theorem RepL.set : ∀ {vs : List V} {ds : List D} (n : Nat) {v : V} {d : D}, RepL K W H vs ds → Rep K W H v d → RepL K W H (vs.set n v) (ds.set n d)
  | _, _, _, _, _, .nil, _ => .nil
  | _, _, 0, _, _, .cons _ b, q => .cons q b
  | _, _, n + 1, _, _, .cons a b, q => .cons a (RepL.set n b q)
theorem RepL.ints : ∀ {vs : List V} {ns : List Int}, RepL K W H vs (ns.map D.int) → vs = ns.map V.int
  | _, [], .nil => rfl
  | _, n :: ns, .cons (.int _) b => by simp [RepL.ints b]
theorem RepL.bls : ∀ {vs : List V} {ns : List Bool}, RepL K W H vs (ns.map D.bl) → vs = ns.map V.bl
  | _, [], .nil => rfl
  | _, n :: ns, .cons (.bl _) b => by simp [RepL.bls b]
theorem RepL.flat : ∀ (n : Nat) {vs : List V} {ds : List D}, RepL K W H vs ds → RepL K W H (List.replicate n vs).flatten (List.replicate n ds).flatten
  | 0, _, _, _ => .nil
  | n + 1, _, _, r => by simpa [List.replicate_succ] using r.append (RepL.flat n r)
theorem Paired.ext {i : Nat} (ok : WOk K cl W h H) (x : Ext W H W' H') (own : ∀ f a, W.k (i, some f) = some a → H' a = H a) : ∀ {fs : List (Str × Fd)} {gs : List (Str × V)}, Paired (FRel K W H i) fs gs → Paired (FRel K W' H' i) fs gs
  | _, _, .nil => .nil
  | (f, .v d) :: _, _, .cons a b => .cons ⟨a.1, Rep.ext ok x a.2⟩ (Paired.ext ok x own b)
  | (f, .own n xs) :: _, _, .cons a b => .cons ⟨a.1, by
      obtain ⟨_, p, vs, h1, h2, h3, h4⟩ := a
      exact ⟨p, vs, x.ids _ _ h1, h2, by rw [own _ _ h1]; exact h3, RepL.ext ok x h4⟩⟩ (Paired.ext ok x own b)
end

/-- a result -/
def RRel (K : PySem.W.Frag) (W' : Wd) (H H' : Hp) (v : V) : R → Prop
  | .v d => Rep K W' H' v d
  | .nl xs => ∃ p vs, v = .ref p ∧ H p = none ∧ H' p = some (.lst vs) ∧ RepL K W' H' vs xs ∧ ¬ W'.F p ∧ ¬ W'.fp p
  | .bw xs => ∃ p vs, v = .ref p ∧ H' p = some (.lst vs) ∧ RepL K W' H' vs xs ∧ ¬ W'.fp p
section
variable {K : PySem.W.Frag} {cl : Nat → Option Addr} {W W1 W2 : Wd} {H H1 H2 : Hp} {h1 h2 : MH} {v : V} {r : R}
theorem RRel.ext (ok : WOk K cl W1 h1 H1) (x : Ext W1 H1 W2 H2) (q : RRel K W1 H H1 v r) : RRel K W2 H H2 v r := by
  cases r with
  | v d => exact Rep.ext ok x q
  | nl xs =>
    obtain ⟨p, vs, e1, e2, e3, e4, e5, e6⟩ := q
    have t : H1 p ≠ none := by rw [e3]; exact Option.some_ne_none _
    exact ⟨p, vs, e1, e2, x.keep _ _ e3 e6, RepL.ext ok x e4, fun z => (x.fn p z).elim e5 t, fun z => (x.fpn p z).elim e6 t⟩
  | bw xs =>
    obtain ⟨p, vs, e1, e3, e4, e6⟩ := q
    have t : H1 p ≠ none := by rw [e3]; exact Option.some_ne_none _
    exact ⟨p, vs, e1, x.keep _ _ e3 e6, RepL.ext ok x e4, fun z => (x.fpn p z).elim e6 t⟩
theorem RRel.back (x : Ext W H W1 H1) (q : RRel K W2 H1 H2 v r) : RRel K W2 H H2 v r := by
  cases r with
  | v d => exact q
  | nl xs =>
    obtain ⟨p, vs, e1, e2, e⟩ := q
    exact ⟨p, vs, e1, x.new e2, e⟩
  | bw xs => exact q
end

/-- the slots -/
structure SRel (K : PySem.W.Frag) (W : Wd) (H : Hp) (oA : Nat → Option Addr) (ss : SS) (σ : St) : Prop where
  vs : ∀ (j : Nat) d, ss[j]? = some (some (.v d)) → ∃ v, σ[j]? = some (some v) ∧ Rep K W H v d
  own : ∀ (j : Nat) xs, ss[j]? = some (some (.own xs)) → ∃ a vs, oA j = some a ∧ σ[j]? = some (some (.ref a)) ∧ H a = some (.lst vs) ∧ RepL K W H vs xs
  bw : ∀ (j : Nat) xs, ss[j]? = some (some (.bw xs)) → ∃ a vs, σ[j]? = some (some (.ref a)) ∧ H a = some (.lst vs) ∧ RepL K W H vs xs ∧ ¬ W.fp a ∧ ∀ i, oA i ≠ some a
  inj : ∀ i j a, oA i = some a → oA j = some a → i = j
  free : ∀ j a, oA j = some a → ¬ W.fp a ∧ ¬ W.F a ∧ H a ≠ none
  len : ss.length = σ.length
theorem SRel.ext {K : PySem.W.Frag} {cl : Nat → Option Addr} {W W' : Wd} {H H' : Hp} {h : MH} {oA : Nat → Option Addr} {ss : SS} {σ : St} (ok : WOk K cl W h H) (x : Ext W H W' H') (s : SRel K W H oA ss σ) : SRel K W' H' oA ss σ where
  vs := fun j d e => let ⟨v, e1, e2⟩ := s.vs j d e; ⟨v, e1, Rep.ext ok x e2⟩
  own := fun j xs e => let ⟨a, vs, e1, e2, e3, e4⟩ := s.own j xs e; ⟨a, vs, e1, e2, x.keep _ _ e3 (s.free j a e1).1, RepL.ext ok x e4⟩
  bw := fun j xs e => let ⟨a, vs, e2, e3, e4, e5, e6⟩ := s.bw j xs e; ⟨a, vs, e2, x.keep _ _ e3 e5, RepL.ext ok x e4, fun z => (x.fpn a z).elim e5 (by rw [e3]; exact Option.some_ne_none _), e6⟩
  inj := s.inj
  free := fun j a e => let ⟨e1, e2, e3⟩ := s.free j a e; ⟨fun z => (x.fpn a z).elim e1 e3, fun z => (x.fn a z).elim e2 e3, x.there a e3⟩
  len := s.len
end GV
set_option Elab.async false
set_option linter.all false
set_option maxRecDepth 100000
set_option maxHeartbeats 4000000
/-! GV2: the small language and what it computes. -/
namespace GV
open PySem L2

inductive BOp where | add | sub | mul | fdiv | mod | pow
  deriving DecidableEq
inductive COp where | eq | ne | lt | le | gt | ge | isin | notin | is_ | isnot
  deriving DecidableEq
inductive Ty where | int | bool | tuple | str | list
  deriving DecidableEq
inductive Bi where | len | sum | all | any | min | max | tuple | list | sorted | str | int
  deriving DecidableEq
inductive Mt where | count | index | join | split | upper
  deriving DecidableEq
inductive IK where | seq | rng | enum | zip
  deriving DecidableEq
inductive Tg where | n (j : Nat) | t (ts : List Tg)
inductive E where
  | non | bl (b : Bool) | int (i : Int) | str (x : Str)
  | v (j : Nat)
  | g (c : Nat)
  | bin (o : BOp) (a b : E)
  | neg (a : E)
  | cmp (o : COp) (a b : E)
  | chn (o o' : COp) (a b c : E)
  | and (a b : E) | or (a b : E) | not (a : E)
  | ite (c a b : E)
  | tup (es : List E) | lst (es : List E)
  | ix (a i : E)
  | sl (a : E) (lo hi : Option E)
  | rev (a : E) (lo : Option Nat)
  | call (f : Nat) (es : List E)
  | make (c f : Nat) (es : List E)
  | meth (a : E) (f : Nat) (es : List E)
  | bi (f : Bi) (es : List E)
  | mt (m : Mt) (a : E) (es : List E)
  | isi (a : E) (t : Ty)
  | fld (j : Nat) (f : Str)
  | fix (j : Nat) (f : Str) (i : E)
  | flen (j : Nat) (f : Str)
  | fcut (j : Nat) (f : Str) (lo hi : Option Int)
  | comp (k : IK) (src : List E) (t : Tg) (own : List Nat) (ifs : List E) (e : E)
inductive S where
  | asg (t : Tg) (e : E)
  | asgO (j : Nat) (e : E)
  | asgR (j : Nat) (e : E)
  | par (js : List Nat) (es : List E)
  | par2 (o o' : Bool) (i j : Nat) (a b : E)
  | setI (j : Nat) (i e : E)
  | augI (j : Nat) (o : BOp) (i e : E)
  | aug (j : Nat) (o : BOp) (e : E)
  | app (j : Nat) (e : E)
  | ext (j : Nat) (e : E)
  | pop (t : Tg) (j : Nat) (es : List E)
  | appPop (j l : Nat) (e : E)
  | fldV (j : Nat) (f : Str) (e : E)
  | fldO (j : Nat) (f : Str) (e : E)
  | fldSet (j : Nat) (f : Str) (i e : E)
  | fldApp (j : Nat) (f : Str) (e : E)
  | expr (e : E)
  | ifs (c : E) (a b : List S)
  | for_ (k : IK) (src : List E) (t : Tg) (b : List S)
  | forF (k : IK) (j : Nat) (f : Str) (t : Tg) (b : List S)
  | while_ (c : E) (b : List S)
  | ret (e : E)
  | retN
  | retO (j : Nat)
  | raise (c : Nat)
  | tryW (e : E) (i : Nat)
  | pass
  | frz (j : Nat)
  | wall

/-! ### data -/
def strOkB (x : Str) : Bool := x.cps.all (· < 0x110000)
/-- plain data, not deeper than n -/
def D.okN : Nat → D → Bool
  | _, .non => true
  | _, .bl _ => true
  | _, .int _ => true
  | _, .str x => strOkB x
  | n + 1, .tup xs => xs.all (D.okN n)
  | n + 1, .lst xs => xs.all (D.okN n)
  | 0, .tup _ => false
  | 0, .lst _ => false
  | _, .obj _ => false
mutual
def D.eqb : D → D → Bool
  | .non, .non => true
  | .bl a, .bl b => a == b
  | .bl a, .int j => (if a then 1 else 0) == j
  | .int i, .bl b => i == (if b then 1 else 0)
  | .int i, .int j => i == j
  | .str x, .str y => x == y
  | .lst xs, .lst ys => D.eqbL xs ys
  | .tup xs, .tup ys => D.eqbL xs ys
  | _, _ => false
def D.eqbL : List D → List D → Bool
  | [], [] => true
  | x :: xs, y :: ys => D.eqb x y && D.eqbL xs ys
  | _, _ => false
end
def D.int? : D → Option Int
  | .int i => some i
  | _ => none
def D.bl? : D → Option Bool
  | .bl b => some b
  | _ => none
def ints? : List D → Option (List Int)
  | [] => some []
  | .int i :: r => (ints? r).map (i :: ·)
  | _ => none
def bls? : List D → Option (List Bool)
  | [] => some []
  | .bl i :: r => (bls? r).map (i :: ·)
  | _ => none
def strs? : List D → Option (List Str)
  | [] => some []
  | .str i :: r => (strs? r).map (i :: ·)
  | _ => none
def R.toD : R → Option D
  | .v d => some d
  | .nl xs => some (.lst xs)
  | .bw _ => none
/-- as an operand that is read at once -/
def R.rd : R → D
  | .v d => d
  | .nl xs => .lst xs
  | .bw xs => .lst xs
def R.arg : R → Sl
  | .v d => .v d
  | .nl xs => .v (.lst xs)
  | .bw xs => .bw xs
def D.seq : D → Option (List D)
  | .tup xs => some xs
  | .lst xs => some xs
  | _ => none
def small (n : Nat) : Bool := decide (n ≤ 1000000)
def atD (xs : List D) (i : Int) : Option D := L2.atI xs i
def cutD (xs : List D) (lo hi : Option Int) : List D := (xs.drop (HT.sIx xs.length 0 lo)).take (HT.sIx xs.length xs.length hi - HT.sIx xs.length 0 lo)
def mulOk (i j : Int) : Bool := decide (-(2 ^ 64) < i ∧ i < 2 ^ 64) || decide (-(2 ^ 64) < j ∧ j < 2 ^ 64)
def divOk (j : Int) : Bool := decide (0 < j ∧ j < 2 ^ 2000)
def powOk (i j : Int) : Bool := decide (0 ≤ j ∧ j ≤ 1000 ∧ i.natAbs < 2 ^ 64)
def binI : BOp → Int → Int → Option Int
  | .add, i, j => some (i + j)
  | .sub, i, j => some (i - j)
  | .mul, i, j => if mulOk i j then some (i * j) else none
  | .fdiv, i, j => if divOk j then some (i / j) else none
  | .mod, i, j => if 0 < j then some (i % j) else none
  | .pow, i, j => if powOk i j then some (i ^ j.toNat) else none
def binR : BOp → R → R → Option R
  | o, .v (.int i), .v (.int j) => (binI o i j).map fun k => .v (.int k)
  | .add, .v (.str x), .v (.str y) => if small (x.length + y.length) then some (.v (.str (x ++ y))) else none
  | .add, .v (.tup xs), .v (.tup ys) => if small (xs.length + ys.length) then some (.v (.tup (xs ++ ys))) else none
  | .add, a, b => match a.rd, b.rd with
    | .lst xs, .lst ys => if small (xs.length + ys.length) then some (.nl (xs ++ ys)) else none
    | _, _ => none
  | .mul, .v (.tup xs), .v (.int k) => if decide (0 ≤ k ∧ k ≤ 1000) && decide (xs.length ≤ 1000) then some (.v (.tup (List.replicate k.toNat xs).flatten)) else none
  | .mul, a, .v (.int k) => match a.rd with
    | .lst xs => if decide (0 ≤ k ∧ k ≤ 1000) && decide (xs.length ≤ 1000) then some (.nl (List.replicate k.toNat xs).flatten) else none
    | _ => none
  | _, _, _ => none
mutual
def D.py : D → PyData
  | .non => .none
  | .bl b => .bool b
  | .int i => .int i
  | .str x => .str x
  | .tup xs => .tuple (D.pyL xs)
  | .lst xs => .list (D.pyL xs)
  | .obj _ => .none
def D.pyL : List D → List PyData
  | [] => []
  | d :: ds => D.py d :: D.pyL ds
end
/-- order of plain data -/
def D.ltb (x y : D) : Option Bool := if x.okN 50 && y.okN 50 && PySem.W.alike x.py y.py then some (PySem.W.dataLt x.py y.py) else none
def D.isNon : D → Bool
  | .non => true
  | _ => false
def cmpR : COp → R → R → Option Bool
  | .eq, a, b => if a.rd.okN 60 && b.rd.okN 60 then some (D.eqb a.rd b.rd) else none
  | .ne, a, b => if a.rd.okN 60 && b.rd.okN 60 then some (!D.eqb a.rd b.rd) else none
  | .lt, .v (.int i), .v (.int j) => some (decide (i < j))
  | .le, .v (.int i), .v (.int j) => some (decide (i ≤ j))
  | .gt, .v (.int i), .v (.int j) => some (decide (j < i))
  | .ge, .v (.int i), .v (.int j) => some (decide (j ≤ i))
  | .lt, .v (.tup xs), .v (.tup ys) => D.ltb (.tup xs) (.tup ys)
  | .isin, a, b => match b.rd with
    | .str y => match a with
      | .v (.str x) => some (!(Builtin.Str.occurrences y x 0 y.length 1).isEmpty)
      | _ => none
    | d => match d.seq with
      | some xs => if a.rd.okN 50 && xs.all (D.okN 50) then some (xs.any fun z => D.eqb z a.rd) else none
      | none => none
  | .notin, a, b => match b.rd with
    | .str y => match a with
      | .v (.str x) => some (!!(Builtin.Str.occurrences y x 0 y.length 1).isEmpty)
      | _ => none
    | d => match d.seq with
      | some xs => if a.rd.okN 50 && xs.all (D.okN 50) then some (!xs.any fun z => D.eqb z a.rd) else none
      | none => none
  | .is_, .v d, .v .non => some d.isNon
  | .is_, .v (.bl x), .v (.bl y) => some (decide (x = y))
  | .isnot, .v d, .v .non => some (!d.isNon)
  | .isnot, .v (.bl x), .v (.bl y) => some (!decide (x = y))
  | _, _, _ => none
def tyD : Ty → D → Bool
  | .int, .int _ => true
  | .int, .bl _ => true
  | .bool, .bl _ => true
  | .tuple, .tup _ => true
  | .str, .str _ => true
  | .list, .lst _ => true
  | _, _ => false
def D.noObj : D → Bool
  | .obj _ => false
  | _ => true
def lenD : D → Option Nat
  | .tup xs => some xs.length
  | .lst xs => some xs.length
  | .str x => if small x.length then some x.length else none
  | _ => none
def maxL : List Int → Option Int
  | [] => none
  | x :: r => some (r.foldl max x)
def minL : List Int → Option Int
  | [] => none
  | x :: r => some (r.foldl min x)
/-- sorted(xs): plain data, alike, tuples with an item or no tuples at all -/
def srtOk (ds : List D) : Bool := ds.all (fun d => d.okN 50) && ds.all (fun d => ds.all fun d' => PySem.W.alike d.py d'.py) &&
  (ds.all (fun d => match d with | .tup (_ :: _) => true | _ => false) || ds.all (fun d => match d with | .bl _ => true | .int _ => true | .str _ => true | _ => false)) && small ds.length
def srtD (ds : List D) : Option (List D) := if srtOk ds then some (ds.mergeSort (PySem.W.dataLe false D.py)) else none
def revD (lo : Option Nat) (xs : List D) : List D := (xs.take (match lo with | none => xs.length | some k => k + 1)).reverse
def biR (srt : List D → Option (List D)) : Bi → List R → MH → Option R
  | .len, [.v (.obj i)], h => match h[i]? with
    | some (.lst xs) => some (.v (.int xs.length))
    | _ => none
  | .len, [a], _ => (lenD a.rd).map fun n => .v (.int n)
  | .sum, [a], _ => (a.rd.seq.bind ints?).map fun ns => .v (.int ns.sum)
  | .all, [a], _ => match a.rd with
    | .lst xs => (bls? xs).map fun bs => .v (.bl (bs.all id))
    | _ => none
  | .any, [a], _ => match a.rd with
    | .lst xs => (bls? xs).map fun bs => .v (.bl (bs.any id))
    | _ => none
  | .min, [.v (.int i), .v (.int j)], _ => some (.v (.int (if j < i then j else i)))
  | .max, [.v (.int i), .v (.int j)], _ => some (.v (.int (if j > i then j else i)))
  | .min, [a], _ => match a.rd with
    | .lst xs => ((ints? xs).bind minL).map fun n => .v (.int n)
    | _ => none
  | .max, [a], _ => match a.rd with
    | .lst xs => ((ints? xs).bind maxL).map fun n => .v (.int n)
    | _ => none
  | .tuple, [a], _ => a.rd.seq.map fun xs => .v (.tup xs)
  | .list, [a], _ => a.rd.seq.map fun xs => .nl xs
  | .sorted, [a], _ => match a.rd with
    | .lst xs => (srtD xs).map fun ys => .nl ys
    | _ => none
  | _, _, _ => none
def mtR : Mt → R → List R → Option R
  | .count, a, [b] => match a.rd with
    | .lst xs => if b.rd.okN 50 && xs.all (D.okN 50) then some (.v (.int ((xs.countP fun z => D.eqb z b.rd : Nat) : Int))) else none
    | _ => none
  | .index, a, [b] => match a.rd with
    | .lst xs => if b.rd.okN 50 && xs.all (D.okN 50) then (xs.findIdx? fun z => D.eqb z b.rd).map fun n => .v (.int n) else none
    | _ => none
  | _, _, _ => none
def rngD (a b : Int) : List D := (List.range (b - a).toNat).map fun i => .int (a + (i : Nat))
def itemsR : IK → List R → Option (List D)
  | .seq, [a] => a.rd.seq
  | .rng, [.v (.int n)] => if decide (-(2 ^ 62) ≤ n ∧ n < 2 ^ 62) then some (rngD 0 n) else none
  | .rng, [.v (.int a), .v (.int b)] => if decide ((-(2 ^ 62) ≤ a ∧ a < 2 ^ 62) ∧ -(2 ^ 62) ≤ b ∧ b < 2 ^ 62) then some (rngD a b) else none
  | .enum, [a] => a.rd.seq.map fun xs => xs.zipIdx.map fun p => .tup [.int (p.2 : Nat), p.1]
  | .zip, [a, b] => a.rd.seq.bind fun xs => b.rd.seq.map fun ys => (xs.zip ys).map fun p => .tup [p.1, p.2]
  | .zip, [a, b, c] => a.rd.seq.bind fun xs => b.rd.seq.bind fun ys => c.rd.seq.map fun zs => (xs.zip (ys.zip zs)).map fun p => .tup [p.1, p.2.1, p.2.2]
  | _, _ => none
mutual
def asgT : Tg → D → SS → Option SS
  | .n j, d, ss => if j < ss.length then some (ss.set j (some (.v d))) else none
  | .t ts, .tup ds, ss => asgTs ts ds ss
  | .t _, _, _ => none
def asgTs : List Tg → List D → SS → Option SS
  | [], [], ss => some ss
  | t :: ts, d :: ds, ss => (asgT t d ss).bind (asgTs ts ds)
  | _, _, _ => none
end
def wipeS (ss : SS) : List Nat → SS
  | [] => ss
  | v :: vs => (wipeS ss vs).set v none
def readV (ss : SS) (j : Nat) : Option R := match ss[j]? with
  | some (some (.v d)) => some (.v d)
  | some (some (.own xs)) => some (.bw xs)
  | some (some (.bw xs)) => some (.bw xs)
  | _ => none
def toDs : List R → Option (List D)
  | [] => some []
  | r :: rs => r.toD.bind fun d => (toDs rs).map (d :: ·)
/-- the items of a comprehension -/
def evItems (f : D → MH → O (Option D)) : List D → List D → MH → O (List D)
  | [], acc, h => .ok acc h
  | d :: ds, acc, h => match f d h with
    | .ok (some y) h1 => if small acc.length then evItems f ds (acc ++ [y]) h1 else .no
    | .ok none h1 => evItems f ds acc h1
    | _ => .no
structure Cfg where
  cf : Nat → List Sl → MH → O R
  gc : Nat → Option D
  srt : List D → Option (List D)
  wf : Nat
  wh : Nat → Option D
def blE (r : R) : Option Bool := match r with
  | .v (.bl b) => some b
  | _ => none
def objF (ss : SS) (h : MH) (j : Nat) (f : Str) : Option (Nat × Fd) := match ss[j]? with
  | some (some (.v (.obj i))) => match h[i]? with
    | some (.ins _ fs) => (fs.lookup f).map fun x => (i, x)
    | _ => none
  | _ => none
def fldV (ss : SS) (h : MH) (j : Nat) (f : Str) : Option D := match objF ss h j f with
  | some (_, .v d) => some d
  | _ => none
def fldL (ss : SS) (h : MH) (j : Nat) (f : Str) : Option (List D) := match objF ss h j f with
  | some (_, .own _ xs) => some xs
  | _ => none
/-- a plain index: a name or a written number -/
def simpI (ss : SS) : E → Option Int
  | .v j => match ss[j]? with
    | some (some (.v (.int i))) => some i
    | _ => none
  | .int i => some i
  | .neg (.int i) => some (-i)
  | _ => none
def intOpt : R → Option (Option Int)
  | .v (.int i) => some (some i)
  | _ => none
mutual
def evE (G : Cfg) : E → SS → MH → O R
  | .non, _, h => .ok (.v .non) h
  | .bl b, _, h => .ok (.v (.bl b)) h
  | .int i, _, h => .ok (.v (.int i)) h
  | .str x, _, h => .ok (.v (.str x)) h
  | .v j, ss, h => O.of h (readV ss j)
  | .g c, _, h => O.of h ((G.gc c).map .v)
  | .bin o a b, ss, h => (evE G a ss h).bind fun x h => (evE G b ss h).bind fun y h => O.of h (binR o x y)
  | .neg a, ss, h => (evE G a ss h).bind fun x h => O.of h (match x with | .v (.int i) => some (.v (.int (-i))) | _ => none)
  | .cmp o a b, ss, h => (evE G a ss h).bind fun x h => (evE G b ss h).bind fun y h => O.of h ((cmpR o x y).map fun t => .v (.bl t))
  | .chn o o' a b c, ss, h => (evE G a ss h).bind fun x h => (evE G b ss h).bind fun y h => (O.of h (cmpR o x y)).bind fun t h => match t with
    | true => (evE G c ss h).bind fun z h => O.of h ((cmpR o' y z).map fun t => .v (.bl t))
    | false => .ok (.v (.bl false)) h
  | .and a b, ss, h => (evE G a ss h).bind fun x h => (O.of h (blE x)).bind fun t h => match t with
    | true => evE G b ss h
    | false => .ok (.v (.bl false)) h
  | .or a b, ss, h => (evE G a ss h).bind fun x h => (O.of h (blE x)).bind fun t h => match t with
    | true => .ok (.v (.bl true)) h
    | false => evE G b ss h
  | .not a, ss, h => (evE G a ss h).bind fun x h => O.of h ((blE x).map fun t => .v (.bl (!t)))
  | .ite c a b, ss, h => (evE G c ss h).bind fun x h => (O.of h (blE x)).bind fun t h => match t with
    | true => evE G a ss h
    | false => evE G b ss h
  | .tup es, ss, h => (evL G es ss h).bind fun rs h => O.of h ((toDs rs).bind fun ds => if small ds.length then some (.v (.tup ds)) else none)
  | .lst es, ss, h => (evL G es ss h).bind fun rs h => O.of h ((toDs rs).bind fun ds => if small ds.length then some (.nl ds) else none)
  | .ix a i, ss, h => (evE G a ss h).bind fun x h => (evE G i ss h).bind fun y h => O.of h (match y with
    | .v (.int k) => (x.rd.seq.bind fun xs => atD xs k).map .v
    | _ => none)
  | .sl a lo hi, ss, h => (evE G a ss h).bind fun x h => (evO G lo ss h).bind fun l h => (evO G hi ss h).bind fun u h => O.of h (match x.rd with
      | .lst xs => some (.nl (cutD xs l u))
      | .tup xs => some (.v (.tup (cutD xs l u)))
      | _ => none)
  | .rev a lo, ss, h => (evE G a ss h).bind fun x h => O.of h (match x.rd with
    | .lst xs => some (.nl (revD lo xs))
    | .tup xs => some (.v (.tup (revD lo xs)))
    | _ => none)
  | .call f es, ss, h => (evL G es ss h).bind fun rs h => G.cf f (rs.map R.arg) h
  | .make c f es, ss, h => (evL G es ss h).bind fun rs h => (G.cf f (.v (.obj h.length) :: rs.map R.arg) (h ++ [.ins c []])).bind fun r h1 => match r with
    | .v .non => .ok (.v (.obj h.length)) h1
    | _ => .no
  | .meth a f es, ss, h => (evE G a ss h).bind fun x h => (evL G es ss h).bind fun rs h => match x with
    | .v (.obj i) => G.cf f (.v (.obj i) :: rs.map R.arg) h
    | _ => .no
  | .bi f es, ss, h => (evL G es ss h).bind fun rs h => O.of h (biR G.srt f rs h)
  | .mt m a es, ss, h => (evE G a ss h).bind fun x h => (evL G es ss h).bind fun rs h => O.of h (mtR m x rs)
  | .isi a t, ss, h => (evE G a ss h).bind fun x h => O.of h (if x.rd.noObj then some (.v (.bl (tyD t x.rd))) else none)
  | .fld j f, ss, h => O.of h ((fldV ss h j f).map .v)
  | .fix j f i, ss, h => O.of h ((fldL ss h j f).bind fun xs => (simpI ss i).bind fun k => (atD xs k).map .v)
  | .flen j f, ss, h => O.of h ((fldL ss h j f).map fun xs => .v (.int xs.length))
  | .fcut j f lo hi, ss, h => O.of h ((fldL ss h j f).map fun xs => .nl (cutD xs lo hi))
  | .comp k src t own ifs e, ss, h => (evL G src ss h).bind fun rs h => (O.of h (itemsR k rs)).bind fun ds h =>
      (evItems (fun d h => match asgT t d (wipeS ss own) with
        | none => .no
        | some ss1 => (evT G ifs ss1 h).bind fun b h => match b with
          | true => (evE G e ss1 h).bind fun r h => O.of h (r.toD.map some)
          | false => .ok none h) ds [] h).bind fun xs h => .ok (.nl xs) h
def evL (G : Cfg) : List E → SS → MH → O (List R)
  | [], _, h => .ok [] h
  | e :: es, ss, h => (evE G e ss h).bind fun r h => (evL G es ss h).bind fun rs h => .ok (r :: rs) h
def evO (G : Cfg) : Option E → SS → MH → O (Option Int)
  | none, _, h => .ok none h
  | some e, ss, h => (evE G e ss h).bind fun r h => O.of h (intOpt r)
def evT (G : Cfg) : List E → SS → MH → O Bool
  | [], _, h => .ok true h
  | [e], ss, h => (evE G e ss h).bind fun r h => O.of h (blE r)
  | _, _, _ => .no
end
end GV
set_option Elab.async false
set_option linter.all false
set_option maxRecDepth 100000
set_option maxHeartbeats 4000000
/-! GV3: statements, functions. -/
namespace GV
open PySem L2

inductive Fl where
  | nx (ss : SS) | rt (r : R)
def setSl (ss : SS) (j : Nat) (x : Sl) : Option SS := if j < ss.length then some (ss.set j (some x)) else none
def evFor (body : SS → MH → O Fl) (t : Tg) : List D → SS → MH → O Fl
  | [], ss, h => .ok (.nx ss) h
  | d :: ds, ss, h => (O.of h (asgT t d ss)).bind fun ss1 h => (body ss1 h).bind fun f h1 => match f with
    | .nx ss2 => evFor body t ds ss2 h1
    | .rt r => .ok (.rt r) h1
open Classical in
/-- the field still holds that list -/
noncomputable def sameF (i : Nat) (f : Str) (x : Fd) (h : MH) : Bool := match h[i]? with
  | some (.ins _ fs) => decide (fs.lookup f = some x)
  | _ => false
noncomputable def evForF (body : SS → MH → O Fl) (t : Tg) (i : Nat) (f : Str) (x : Fd) : List D → SS → MH → O Fl
  | [], ss, h => if sameF i f x h then .ok (.nx ss) h else .no
  | d :: ds, ss, h => if sameF i f x h then (O.of h (asgT t d ss)).bind fun ss1 h => (body ss1 h).bind fun f' h1 => match f' with
      | .nx ss2 => evForF body t i f x ds ss2 h1
      | .rt r => .ok (.rt r) h1
    else .no
def evWhile (c : SS → MH → O Bool) (body : SS → MH → O Fl) : Nat → SS → MH → O Fl
  | 0, _, _ => .no
  | n + 1, ss, h => (c ss h).bind fun b h => match b with
    | true => (body ss h).bind fun f h1 => match f with
      | .nx ss2 => evWhile c body n ss2 h1
      | .rt r => .ok (.rt r) h1
    | false => .ok (.nx ss) h
def parS : List Nat → List D → SS → Option SS
  | [], [], ss => some ss
  | j :: js, d :: ds, ss => (setSl ss j (.v d)).bind (parS js ds)
  | _, _, _ => none
/-- one name of two takes a value, as its own list or as data -/
def putS (o : Bool) (j : Nat) (r : R) (ss : SS) : Option SS := match o, r with
  | true, .nl xs => setSl ss j (.own xs)
  | true, _ => none
  | false, r => r.toD.bind fun d => setSl ss j (.v d)
def idxN (n : Nat) (i : Int) : Option Nat := L2.ixN n i
def setFd (f : Str) (x : Fd) : List (Str × Fd) → List (Str × Fd)
  | [] => [(f, x)]
  | (g, y) :: r => if g = f then (g, x) :: r else (g, y) :: setFd f x r
def putFld (h : MH) (i : Nat) (f : Str) (x : Fd) : Option MH := match h[i]? with
  | some (.ins c fs) => if fs.length ≤ 100 then some (h.set i (.ins c (setFd f x fs))) else none
  | _ => none
def objAt (ss : SS) (j : Nat) : Option Nat := match ss[j]? with
  | some (some (.v (.obj i))) => some i
  | _ => none
def retR : R → Option R
  | .bw _ => none
  | r => some r
def lstOnly : R → Option (List D)
  | .nl xs => some xs
  | .bw xs => some xs
  | _ => none
def popL (xs : List D) : List R → Option (D × List D)
  | [] => (xs[xs.length - 1]?).map fun d => (d, xs.dropLast)
  | [.v (.int i)] => if 0 ≤ i ∧ i < xs.length ∧ i < 1000000 then (xs[i.toNat]?).map fun d => (d, xs.eraseIdx i.toNat) else none
  | _ => none
/-- a list grows: one of the frame's own, or one by reference -/
def appTo (ss : SS) (j : Nat) (ys : List D) (h : MH) : O Fl := match ss[j]? with
  | some (some (.own xs)) => if small (xs.length + ys.length) then O.of h ((setSl ss j (.own (xs ++ ys))).map .nx) else .no
  | some (some (.v (.obj i))) => match h[i]? with
    | some (.lst xs) => if small (xs.length + ys.length) then .ok (.nx ss) (h.set i (.lst (xs ++ ys))) else .no
    | _ => .no
  | _ => .no
/-- the name holds a list that may grow -/
def isLst (ss : SS) (j : Nat) (h : MH) : Bool := match ss[j]? with
  | some (some (.own _)) => true
  | some (some (.v (.obj i))) => match h[i]? with
    | some (.lst _) => true
    | _ => false
  | _ => false
mutual
noncomputable def evS (G : Cfg) : S → SS → MH → O Fl
  | .asg t e, ss, h => (evE G e ss h).bind fun r h => O.of h ((r.toD.bind fun d => asgT t d ss).map .nx)
  | .asgO j e, ss, h => (evE G e ss h).bind fun r h => match r with
    | .nl xs => O.of h ((setSl ss j (.own xs)).map .nx)
    | _ => .no
  | .asgR j e, ss, h => (evE G e ss h).bind fun r h => match r with
    | .nl xs => match setSl ss j (.v (.obj h.length)) with
      | some ss' => .ok (.nx ss') (h ++ [.lst xs])
      | none => .no
    | _ => .no
  | .par js es, ss, h => (evL G es ss h).bind fun rs h => O.of h (((toDs rs).bind fun ds => parS js ds ss).map .nx)
  | .par2 o o' i j a b, ss, h => (evE G a ss h).bind fun r h => (evE G b ss h).bind fun r' h => O.of h (((putS o i r ss).bind (putS o' j r')).map .nx)
  | .setI j i e, ss, h => match ss[j]? with
    | some (some (.own xs)) => (evE G e ss h).bind fun r h => match r.toD with
      | some d => (evE G i ss h).bind fun k h => match k with
        | .v (.int k) => match idxN xs.length k with
          | some n => O.of h ((setSl ss j (.own (xs.set n d))).map .nx)
          | none => .no
        | _ => .no
      | none => .no
    | _ => .no
  | .augI j o i e, ss, h => match ss[j]? with
    | some (some (.own xs)) => (evE G i ss h).bind fun k h => match k with
      | .v (.int k) => match idxN xs.length k, atD xs k with
        | some n, some (.int x) => (evE G e ss h).bind fun r h => match r with
          | .v (.int y) => match o with
            | .add => O.of h ((setSl ss j (.own (xs.set n (.int (x + y))))).map .nx)
            | .sub => O.of h ((setSl ss j (.own (xs.set n (.int (x - y))))).map .nx)
            | _ => .no
          | _ => .no
        | _, _ => .no
      | _ => .no
    | _ => .no
  | .aug j o e, ss, h => match ss[j]? with
    | some (some (.v (.int x))) => (evE G e ss h).bind fun r h => match r, o with
      | .v (.int y), .add => O.of h ((setSl ss j (.v (.int (x + y)))).map .nx)
      | .v (.int y), .sub => O.of h ((setSl ss j (.v (.int (x - y)))).map .nx)
      | _, _ => .no
    | _ => .no
  | .app j e, ss, h => match isLst ss j h with
    | true => (evE G e ss h).bind fun r h => match r.toD with
      | some d => appTo ss j [d] h
      | none => .no
    | false => .no
  | .ext j e, ss, h => match isLst ss j h with
    | true => (evE G e ss h).bind fun r h => match r with
      | .nl ys => appTo ss j ys h
      | _ => .no
    | false => .no
  | .pop t j es, ss, h => (evL G es ss h).bind fun rs h => match ss[j]? with
    | some (some (.own xs)) => match popL xs rs with
      | some (d, ys) => O.of h (((setSl ss j (.own ys)).bind (asgT t d)).map .nx)
      | none => .no
    | _ => .no
  | .appPop j l e, ss, h => match ss[j]?, ss[l]? with
    | some (some (.own ys)), some (some (.own xs)) => (evE G e ss h).bind fun r h => match popL xs [r] with
      | some (d, zs) => if j ≠ l ∧ small (ys.length + 1) = true then O.of h (((setSl ss l (.own zs)).bind fun ss1 => setSl ss1 j (.own (ys ++ [d]))).map .nx) else .no
      | none => .no
    | _, _ => .no
  | .fldV j f e, ss, h => (evE G e ss h).bind fun r h => match r.toD, objAt ss j with
    | some d, some i => match putFld h i f (.v d) with
      | some h' => .ok (.nx ss) h'
      | none => .no
    | _, _ => .no
  | .fldO j f e, ss, h => (evE G e ss h).bind fun r h => match r, objAt ss j with
    | .nl xs, some i => match objF ss h j f with
      | some (_, .own n _) => match putFld h i f (.own (n + 1) xs) with
        | some h' => .ok (.nx ss) h'
        | none => .no
      | none => match putFld h i f (.own 0 xs) with
        | some h' => .ok (.nx ss) h'
        | none => .no
      | _ => .no
    | _, _ => .no
  | .fldSet j f i e, ss, h => (evE G e ss h).bind fun r h => match r.toD, simpI ss i, objF ss h j f with
    | some d, some k, some (a, .own n xs) => match idxN xs.length k with
      | some m => match putFld h a f (.own n (xs.set m d)) with
        | some h' => .ok (.nx ss) h'
        | none => .no
      | none => .no
    | _, _, _ => .no
  | .fldApp j f e, ss, h => match objF ss h j f with
    | some (a, .own n xs) => (evE G e ss h).bind fun r h => match r.toD, objF ss h j f with
      | some d, some (a', .own n' xs') => if a = a' ∧ n = n' ∧ small (xs'.length + 1) = true then match putFld h a f (.own n (xs' ++ [d])) with
          | some h' => .ok (.nx ss) h'
          | none => .no
        else .no
      | _, _ => .no
    | _ => .no
  | .expr e, ss, h => (evE G e ss h).bind fun _ h => .ok (.nx ss) h
  | .ifs c a b, ss, h => (evE G c ss h).bind fun r h => (O.of h (blE r)).bind fun t h => match t with
    | true => evB G a ss h
    | false => evB G b ss h
  | .for_ k src t b, ss, h => (evL G src ss h).bind fun rs h => (O.of h (itemsR k rs)).bind fun ds h => match toDs rs with
    | some _ => evFor (evB G b) t ds ss h
    | none => .no
  | .forF k j f t b, ss, h => match objF ss h j f with
    | some (i, .own n xs) => match itemsR k [.nl xs] with
      | some ds => evForF (evB G b) t i f (.own n xs) ds ss h
      | none => .no
    | _ => .no
  | .while_ c b, ss, h => evWhile (fun ss h => (evE G c ss h).bind fun r h => O.of h (blE r)) (evB G b) G.wf ss h
  | .ret e, ss, h => (evE G e ss h).bind fun r h => O.of h ((retR r).map .rt)
  | .retN, _, h => .ok (.rt (.v .non)) h
  | .retO j, ss, h => match ss[j]? with
    | some (some (.own xs)) => .ok (.rt (.nl xs)) h
    | _ => .no
  | .raise c, _, h => .ex c h
  | .tryW e i, ss, h => if i < ss.length then (match evE G e ss h with
    | .ok r h' => O.of h' ((retR r).map .rt)
    | .ex c h' => (match G.wh c with
      | some d => .ok (.rt (.v d)) h'
      | none => .no)
    | .no => .no) else .no
  | .pass, ss, h => .ok (.nx ss) h
  | .wall, _, _ => .no
  | .frz j, ss, h => match ss[j]? with
    | some (some (.own xs)) => O.of h ((setSl ss j (.v (.lst xs))).map .nx)
    | _ => .no
noncomputable def evB (G : Cfg) : List S → SS → MH → O Fl
  | [], ss, h => .ok (.nx ss) h
  | s :: r, ss, h => (evS G s ss h).bind fun f h => match f with
    | .nx ss' => evB G r ss' h
    | .rt x => .ok (.rt x) h
end
structure FD where
  n : Nat
  p : Nat
  body : List S
def R.pure : R → Bool
  | .v d => d.okN 60
  | .nl xs => xs.all (D.okN 60)
  | .bw _ => false
def Fd.pure : Fd → Bool
  | .v d => d.okN 60
  | .own _ xs => xs.all (D.okN 60)
def MO.pure : MO → Bool
  | .lst xs => xs.all (D.okN 60)
  | .ins _ fs => fs.all fun p => p.2.pure
def finish (n : Nat) : O Fl → O R
  | .ok (.rt r) h => if h.length = n then .ok r h else if r.pure && (h.take n).all MO.pure then .ok r (h.take n) else .no
  | .ok (.nx _) h => if h.length = n then .ok (.v .non) h else if (h.take n).all MO.pure then .ok (.v .non) (h.take n) else .no
  | .ex c h => if h.length = n then .ex c h else .no
  | .no => .no
def startS (n : Nat) (args : List Sl) : SS := args.map some ++ List.replicate (n - args.length) none
def whAt (wh : Nat → Option D) : Nat → Nat → Option D
  | 0, _ => none
  | _ + 1, c => wh c
noncomputable def evCall (P : Nat → Option FD) (gc : Nat → Option D) (srt : List D → Option (List D)) (wf : Nat) (wh : Nat → Option D) : Nat → Nat → List Sl → MH → O R
  | 0, _, _, _ => .no
  | k + 1, f, args, h => match P f with
    | none => .no
    | some fd => if args.length = fd.p then finish h.length (evB ⟨evCall P gc srt wf wh k, gc, srt, wf, whAt wh k⟩ fd.body (startS fd.n args) h) else .no
end GV
set_option Elab.async false
set_option linter.all false
set_option maxRecDepth 100000
set_option maxHeartbeats 4000000
/-! GV4: readings by the evaluator; how they compose. -/
namespace GV
open PySem L2

structure Tab where
  fn : Nat → Option Str
  gn : List Str
  cn : List (Nat × Str)
  wh : Option Str
  be : Str
structure Stat where
  P : Program
  w : World
  K : PySem.W.Frag
  mg : Str → Option Value
  base : Heap
  G : Cfg
  cl : Nat → Option Addr
  xc : Nat → Value
  T : Tab

section
variable (A : Stat)
abbrev WOkA (W : Wd) (h : MH) (H : Hp) : Prop := WOk A.K A.cl W h H
/-- what is wanted of an outcome -/
def PostR (W : Wd) (H : Hp) (Wx : WX) (σ : St) {α : Type} (T : Wd → Hp → α → Prop) : O α → Prop
  | .ok r h' => ∀ W' H', Ext W H W' H' → WOkA A W' h' H' → T W' H' r
  | .ex c h' => ∀ W' H', Ext W H W' H' → WOkA A W' h' H' → Wx (A.xc c) none σ H'
  | .no => False
abbrev TR (H : Hp) (Q : VK) : Wd → Hp → R → Prop := fun W' H' r => ∀ v, RRel A.K W' H H' v r → Q v H'
def tE (Wx : WX) (e : E) : TE := fun σ H Q => ∃ W h oA ss, WOkA A W h H ∧ SRel A.K W H oA ss σ ∧ PostR A W H Wx σ (TR A H Q) (evE A.G e ss h)
def RL (K : PySem.W.Frag) (W' : Wd) (H H' : Hp) : List V → List R → Prop := Paired (RRel K W' H H')
abbrev TRL (H : Hp) (Q : List V → Hp → Prop) : Wd → Hp → List R → Prop := fun W' H' rs => ∀ vs, Paired (RRel A.K W' H H') vs rs → Q vs H'
def tA (Wx : WX) (es : List E) : TA := fun σ H Q => ∃ W h oA ss, WOkA A W h H ∧ SRel A.K W H oA ss σ ∧ PostR A W H Wx σ (TRL A H Q) (evL A.G es ss h)
def tT (Wx : WX) (e : E) : TT := fun σ H Q => ∃ W h oA ss, WOkA A W h H ∧ SRel A.K W H oA ss σ ∧ PostR A W H Wx σ (fun _ H' b => Q b H') ((evE A.G e ss h).bind fun r h => O.of h (blE r))
def tTs (Wx : WX) (es : List E) : TT := fun σ H Q => ∃ W h oA ss, WOkA A W h H ∧ SRel A.K W H oA ss σ ∧ PostR A W H Wx σ (fun _ H' b => Q b H') (evT A.G es ss h)
end

section
variable {A : Stat} {W W1 W2 : Wd} {H H1 H2 : Hp} {h : MH} {Wx : WX} {σ : St} {α β : Type} {oA : Nat → Option Addr} {ss : SS}
theorem PostR.mono {T T' : Wd → Hp → α → Prop} {o : O α} (x : Ext W H W1 H1) (hT : ∀ W' H' r, T W' H' r → T' W' H' r) (p : PostR A W H Wx σ T o) : PostR A W1 H1 Wx σ T' o := by
  cases o with
  | ok r h' => exact fun W' H' y w => hT _ _ _ (p W' H' (x.trans y) w)
  | ex c h' => exact fun W' H' y w => p W' H' (x.trans y) w
  | no => exact p
theorem TR.back {Q : VK} (x : Ext W H W1 H1) : ∀ W' H' r, TR A H Q W' H' r → TR A H1 Q W' H' r := fun _ _ _ t v q => t v (q.back x)
theorem Paired.back {vs : List V} {rs : List R} {W' : Wd} {H' : Hp} (x : Ext W H W1 H1) (q : Paired (RRel A.K W' H1 H') vs rs) : Paired (RRel A.K W' H H') vs rs := Paired.mapP q fun _ _ z => z.back x
theorem Paired.fwd {vs : List V} {rs : List R} (ok : WOkA A W1 h H1) (x : Ext W1 H1 W2 H2) (q : Paired (RRel A.K W1 H H1) vs rs) : Paired (RRel A.K W2 H H2) vs rs := Paired.mapP q fun _ _ z => z.ext ok x
theorem TRL.back {Q : List V → Hp → Prop} (x : Ext W H W1 H1) : ∀ W' H' r, TRL A H Q W' H' r → TRL A H1 Q W' H' r := fun _ _ _ t v q => t v (Paired.back x q)

/-- an expression first, then what hangs on it -/
theorem tE_bind {e : E} {k : R → MH → O β} {T : Wd → Hp → β → Prop} {Q : VK} (w : WOkA A W h H) (s : SRel A.K W H oA ss σ) (p : PostR A W H Wx σ T ((evE A.G e ss h).bind k))
    (step : ∀ W1 H1 r h1 v, Ext W H W1 H1 → WOkA A W1 h1 H1 → SRel A.K W1 H1 oA ss σ → RRel A.K W1 H H1 v r → PostR A W1 H1 Wx σ T (k r h1) → PostR A W H Wx σ T (k r h1) → Q v H1) : tE A Wx e σ H Q := by
  refine ⟨W, h, oA, ss, w, s, ?_⟩
  cases q : evE A.G e ss h with
  | ok r h1 =>
    rw [q] at p
    exact fun W1 H1 x w1 v rr => step W1 H1 r h1 v x w1 (s.ext w x) rr (p.mono x fun _ _ _ t => t) p
  | ex c h1 => rw [q] at p; exact p
  | no => rw [q] at p; exact p
theorem tA_bindE {es : List E} {k : List R → MH → O β} {T : Wd → Hp → β → Prop} {Q : List V → Hp → Prop} (w : WOkA A W h H) (s : SRel A.K W H oA ss σ) (p : PostR A W H Wx σ T ((evL A.G es ss h).bind k))
    (step : ∀ W1 H1 rs h1 vs, evL A.G es ss h = .ok rs h1 → Ext W H W1 H1 → WOkA A W1 h1 H1 → SRel A.K W1 H1 oA ss σ → Paired (RRel A.K W1 H H1) vs rs → PostR A W1 H1 Wx σ T (k rs h1) → PostR A W H Wx σ T (k rs h1) → Q vs H1) : tA A Wx es σ H Q := by
  refine ⟨W, h, oA, ss, w, s, ?_⟩
  cases q : evL A.G es ss h with
  | ok r h1 =>
    rw [q] at p
    exact fun W1 H1 x w1 v rr => step W1 H1 r h1 v q x w1 (s.ext w x) rr (p.mono x fun _ _ _ t => t) p
  | ex c h1 => rw [q] at p; exact p
  | no => rw [q] at p; exact p
theorem tA_bind {es : List E} {k : List R → MH → O β} {T : Wd → Hp → β → Prop} {Q : List V → Hp → Prop} (w : WOkA A W h H) (s : SRel A.K W H oA ss σ) (p : PostR A W H Wx σ T ((evL A.G es ss h).bind k))
    (step : ∀ W1 H1 rs h1 vs, Ext W H W1 H1 → WOkA A W1 h1 H1 → SRel A.K W1 H1 oA ss σ → Paired (RRel A.K W1 H H1) vs rs → PostR A W1 H1 Wx σ T (k rs h1) → PostR A W H Wx σ T (k rs h1) → Q vs H1) : tA A Wx es σ H Q :=
  tA_bindE w s p fun W1 H1 rs h1 vs _ => step W1 H1 rs h1 vs
theorem evL_len {G : Cfg} : ∀ {es : List E} {ss : SS} {h h1 : MH} {rs : List R}, evL G es ss h = .ok rs h1 → rs.length = es.length
  | [], _, _, _, _, e => by rw [evL] at e; cases e; rfl
  | x :: xs, ss, h, h1, rs, e => by
    rw [evL] at e
    cases q : evE G x ss h with
    | ok r h2 =>
      rw [q] at e
      simp only [O.bind_ok] at e
      cases q2 : evL G xs ss h2 with
      | ok r2 h3 =>
        rw [q2] at e
        cases e
        simp [evL_len q2]
      | ex c h3 => rw [q2] at e; cases e
      | no => rw [q2] at e; cases e
    | ex c h3 => rw [q] at e; cases e
    | no => rw [q] at e; cases e
theorem O.bind_assoc {α β γ : Type} (o : O α) (k : α → MH → O β) (l : β → MH → O γ) : (o.bind k).bind l = o.bind fun a h => (k a h).bind l := by
  cases o <;> rfl
theorem tT_bind {e : E} {k : Bool → MH → O β} {T : Wd → Hp → β → Prop} {Q : Bool → Hp → Prop} (w : WOkA A W h H) (s : SRel A.K W H oA ss σ) (p : PostR A W H Wx σ T (((evE A.G e ss h).bind fun r h => O.of h (blE r)).bind k))
    (step : ∀ W1 H1 b h1, Ext W H W1 H1 → WOkA A W1 h1 H1 → SRel A.K W1 H1 oA ss σ → PostR A W1 H1 Wx σ T (k b h1) → Q b H1) : tT A Wx e σ H Q := by
  refine ⟨W, h, oA, ss, w, s, ?_⟩
  cases q : (evE A.G e ss h).bind fun r h => O.of h (blE r) with
  | ok r h1 =>
    rw [q] at p
    exact fun W1 H1 x w1 => step W1 H1 r h1 x w1 (s.ext w x) (p.mono x fun _ _ _ t => t)
  | ex c h1 => rw [q] at p; exact p
  | no => rw [q] at p; exact p
/-- at the end of a pure operation -/
theorem PostR.here {T : Wd → Hp → α → Prop} {a : α} (w : WOkA A W h H) (p : PostR A W H Wx σ T (.ok a h)) : T W H a := p W H (Ext.refl W H) w
theorem PostR.of_none {T : Wd → Hp → α → Prop} {C : Prop} (p : PostR A W H Wx σ T (O.of h (none : Option α))) : C := False.elim p
/-- a new tuple is laid -/
theorem Ext.laid {p : Addr} {o : HO} (n : H p = none) : Ext W H W (upd H p o) where
  keep := fun a u e _ => by rw [upd_ne (ne_of_none e n)]; exact e
  there := fun a e => by
    by_cases z : a = p
    · subst z; rw [upd_same]; exact Option.some_ne_none _
    · rw [upd_ne z]; exact e
  fpn := fun a z => .inl z
  ids := fun _ _ e => e
  fF := fun _ e => e
  fn := fun _ e => .inl e
theorem WOk.laid {K : PySem.W.Frag} {cl : Nat → Option Addr} {p : Addr} {o : HO} (w : WOk K cl W h H) (n : H p = none) : WOk K cl W h (upd H p o) where
  inj := w.inj
  dis := w.dis
  cov := fun a z => by
    rcases w.cov a z with ⟨xs, q⟩ | ⟨C, dx, fs, q⟩
    · exact .inl ⟨xs, by rw [upd_ne (ne_of_none q n)]; exact q⟩
    · exact .inr ⟨C, dx, fs, by rw [upd_ne (ne_of_none q n)]; exact q⟩
  frz := fun a z => (Ext.laid (W := W) n).there a (w.frz a z)
  obj := fun i m e => by
    have q := w.obj i m e
    have x : Ext W H W (upd H p o) := Ext.laid n
    cases m with
    | lst xs =>
      obtain ⟨a, vs, e1, e2, e3⟩ := q
      exact ⟨a, vs, e1, by rw [upd_ne (ne_of_none e2 n)]; exact e2, RepL.ext w x e3⟩
    | ins c fs =>
      obtain ⟨a, C, dx, gs, e1, e2, e3, e4⟩ := q
      refine ⟨a, C, dx, gs, e1, e2, by rw [upd_ne (ne_of_none e3 n)]; exact e3, Paired.ext w x (fun f b e5 => ?_) e4⟩
      rcases w.cov b ⟨_, e5⟩ with ⟨ys, q⟩ | ⟨C', dx', fs', q⟩
      · rw [upd_ne (ne_of_none q n)]
      · rw [upd_ne (ne_of_none q n)]
  bnd := w.bnd
/-- the lists that are new since H0 are frozen -/
def Wd.fz (W : Wd) (H0 H : Hp) : Wd := { W with F := fun a => W.F a ∨ (H0 a = none ∧ (∃ vs, H a = some (.lst vs)) ∧ ¬ W.fp a) }
theorem fz_ext {W0 : Wd} {H0 : Hp} (x : Ext W0 H0 W H) : Ext W0 H0 (W.fz H0 H) H where
  keep := x.keep
  there := x.there
  fpn := x.fpn
  ids := x.ids
  fF := fun a z => .inl (x.fF a z)
  fn := fun a z => z.elim (x.fn a) fun q => .inr q.1
mutual
theorem Rep.fz {K : PySem.W.Frag} {H0 : Hp} : ∀ {v : V} {d : D}, Rep K W H v d → Rep K (W.fz H0 H) H v d
  | _, _, .non => .non
  | _, _, .bl b => .bl b
  | _, _, .int i => .int i
  | _, _, .str s => .str s
  | _, _, .tup e r => .tup e (RepL.fz r)
  | _, _, .lst e f r => .lst e (.inl f) (RepL.fz r)
  | _, _, .obj e => .obj e
theorem RepL.fz {K : PySem.W.Frag} {H0 : Hp} : ∀ {vs : List V} {ds : List D}, RepL K W H vs ds → RepL K (W.fz H0 H) H vs ds
  | _, _, .nil => .nil
  | _, _, .cons a b => .cons (Rep.fz a) (RepL.fz b)
end
theorem Paired.fz {K : PySem.W.Frag} {H0 : Hp} {i : Nat} : ∀ {fs : List (Str × Fd)} {gs : List (Str × V)}, Paired (FRel K W H i) fs gs → Paired (FRel K (W.fz H0 H) H i) fs gs
  | _, _, .nil => .nil
  | (f, .v d) :: _, _, .cons a b => .cons ⟨a.1, Rep.fz a.2⟩ (Paired.fz b)
  | (f, .own n xs) :: _, _, .cons a b => .cons ⟨a.1, by
      obtain ⟨_, p, vs, h1, h2, h3, h4⟩ := a
      exact ⟨p, vs, h1, h2, h3, RepL.fz h4⟩⟩ (Paired.fz b)
theorem fz_ok {K : PySem.W.Frag} {cl : Nat → Option Addr} {H0 : Hp} (w : WOk K cl W h H) : WOk K cl (W.fz H0 H) h H where
  inj := w.inj
  dis := fun a z => z.elim (w.dis a) fun q => q.2.2
  cov := w.cov
  frz := fun a z => z.elim (w.frz a) fun q => by obtain ⟨_, ⟨vs, e⟩, _⟩ := q; rw [e]; exact Option.some_ne_none _
  obj := fun i o e => by
    have q := w.obj i o e
    cases o with
    | lst xs =>
      obtain ⟨a, vs, e1, e2, e3⟩ := q
      exact ⟨a, vs, e1, e2, RepL.fz e3⟩
    | ins c fs =>
      obtain ⟨a, C, dx, gs, e1, e2, e3, e4⟩ := q
      exact ⟨a, C, dx, gs, e1, e2, e3, Paired.fz e4⟩
  bnd := w.bnd
theorem RRel.fz {K : PySem.W.Frag} {H0 : Hp} {v : V} {r : R} {d : D} (q : RRel K W H0 H v r) (e : r.toD = some d) : Rep K (W.fz H0 H) H v d := by
  cases r with
  | v d' => cases e; exact Rep.fz q
  | nl xs =>
    cases e
    obtain ⟨p, vs, rfl, e2, e3, e4, e5, e6⟩ := q
    exact .lst (.inl e3) (.inr ⟨e2, ⟨vs, e3⟩, e6⟩) (RepL.fz e4)
  | bw xs => cases e
theorem RRelL.fz {K : PySem.W.Frag} {H0 : Hp} : ∀ {vs : List V} {rs : List R} {ds : List D}, Paired (RRel K W H0 H) vs rs → toDs rs = some ds → RepL K (W.fz H0 H) H vs ds
  | _, _, _, .nil, e => by cases e; exact .nil
  | _, r :: rs, ds, .cons a b, e => by
    unfold toDs at e
    cases e1 : r.toD with
    | none => rw [e1] at e; cases e
    | some d =>
      rw [e1] at e
      cases e2 : toDs rs with
      | none => rw [e2] at e; cases e
      | some es =>
        rw [e2] at e
        cases e
        exact .cons (a.fz e1) (RRelL.fz b e2)
theorem SRel.fz {K : PySem.W.Frag} {H0 : Hp} {W0 : Wd} (s0 : SRel K W0 H0 oA ss σ) (s : SRel K W H oA ss σ) : SRel K (W.fz H0 H) H oA ss σ where
  vs := fun j d e => let ⟨v, e1, e2⟩ := s.vs j d e; ⟨v, e1, Rep.fz e2⟩
  own := fun j xs e => let ⟨a, vs, e1, e2, e3, e4⟩ := s.own j xs e; ⟨a, vs, e1, e2, e3, RepL.fz e4⟩
  bw := fun j xs e => let ⟨a, vs, e2, e3, e4, e5, e6⟩ := s.bw j xs e; ⟨a, vs, e2, e3, RepL.fz e4, e5, e6⟩
  inj := s.inj
  free := fun j a e => ⟨(s.free j a e).1, fun z => z.elim (s.free j a e).2.1 fun q => (s0.free j a e).2.2 q.1, (s.free j a e).2.2⟩
  len := s.len
/-- what an operand is when it is read -/
theorem RRel.rdLst {K : PySem.W.Frag} {cl : Nat → Option Addr} {W : Wd} {H0 H : Hp} {h : MH} {v : V} {r : R} {xs : List D} (w : WOk K cl W h H) (q : RRel K W H0 H v r) (e : r.rd = .lst xs) : ∃ p vs, v = .ref p ∧ Rd H p (.lst vs) ∧ RepL K W H vs xs ∧ ¬ W.fp p := by
  cases r with
  | v d =>
    have e' : d = .lst xs := e
    subst e'
    cases q with
    | lst h1 h2 h3 => exact ⟨_, _, rfl, h1, h3, w.dis _ h2⟩
  | nl ys =>
    cases e
    obtain ⟨p, vs, e1, _, e3, e4, _, e6⟩ := q
    exact ⟨p, vs, e1, .inl e3, e4, e6⟩
  | bw ys =>
    cases e
    obtain ⟨p, vs, e1, e3, e4, e6⟩ := q
    exact ⟨p, vs, e1, .inl e3, e4, e6⟩
theorem RRel.rdTup {K : PySem.W.Frag} {W : Wd} {H0 H : Hp} {v : V} {r : R} {xs : List D} (q : RRel K W H0 H v r) (e : r.rd = .tup xs) : ∃ p vs, v = .ref p ∧ SqT K H p vs ∧ RepL K W H vs xs := by
  cases r with
  | v d =>
    have e' : d = .tup xs := e
    subst e'
    cases q with
    | tup h1 h3 => exact ⟨_, _, rfl, h1, h3⟩
  | nl ys => cases e
  | bw ys => cases e
theorem PE.mono {X : Cx} {py : Expr} {t t' : TE} (q : PE X py t) (i : ∀ σ H Q, t' σ H Q → t σ H Q) : PE X py t' := ⟨fun pins s σ H Q I z => q.run pins s σ H Q I (i σ H Q z)⟩
theorem PT.mono {X : Cx} {py : Expr} {t t' : TT} (q : PT X py t) (i : ∀ σ H Q, t' σ H Q → t σ H Q) : PT X py t' := ⟨fun pins s σ H Q I z => q.run pins s σ H Q I (i σ H Q z)⟩
theorem PA.mono {X : Cx} {py : List Expr} {t t' : TA} (q : PA X py t) (i : ∀ σ H Q, t' σ H Q → t σ H Q) : PA X py t' := ⟨fun pos pins s σ H Q I z => q.run pos pins s σ H Q I (i σ H Q z)⟩
theorem PS.mono {X : Cx} {py : Stmt} {t t' : TS} (q : PS X py t) (i : ∀ Dn σ H, t' Dn σ H → t Dn σ H) : PS X py t' := ⟨fun pins s σ H Dn I z => q.run pins s σ H Dn I (i Dn σ H z)⟩
theorem PSs.mono {X : Cx} {py : List Stmt} {t t' : TS} (q : PSs X py t) (i : ∀ Dn σ H, t' Dn σ H → t Dn σ H) : PSs X py t' := ⟨fun pins s σ H Dn I z => q.run pins s σ H Dn I (i Dn σ H z)⟩
end
end GV
set_option Elab.async false
set_option linter.all false
set_option maxRecDepth 100000
set_option maxHeartbeats 4000000
/-! GV5: rules for operators over sequences. -/
namespace GV
open PySem L2
/-! ### lists that may be read -/
section
variable {X : Cx}
theorem rdList {pins : List (Addr × Obj)} {s : Shared} {σ : L2.St} {H : Hp} {l : Addr} {xs : List V} (I : Inv X pins σ H s) (hH : Rd H l (.lst xs)) : xs.length ≤ sizeLine ∧ ∃ (its : List Value) (n : Nat), Vals xs its ∧ xs.length = its.length ∧ s.heap.get? l = some { cls := .type "list", data := .seq its.toArray n } := by
  obtain ⟨z, its, n, r, e⟩ := hH.ok I.hok
  exact ⟨z, its, n, r, r.length, e⟩
def rCatR : R2 := fun x y H Q => ∃ l b xs zs, x = .ref l ∧ y = .ref b ∧ Rd H l (.lst xs) ∧ Rd H b (.lst zs) ∧ xs.length + zs.length ≤ sizeLine ∧ ∀ p, H p = none → Q (.ref p) (upd H p (.lst (xs ++ zs)))
theorem op_catR : OpR X (binaryOp .Add) rCatR := by
  intro pins s σ H x y v u Q I rx ry h
  obtain ⟨l, b, xs, zs, rfl, rfl, hH, hB, hz, q⟩ := h
  cases rx
  cases ry
  obtain ⟨z, its, n, r, hl, e⟩ := rdList I hH
  obtain ⟨z2, its2, n2, r2, hl2, e2⟩ := rdList I hB
  refine PySem.P.add_list e e2 ?_ (by rw [List.size_toArray, List.size_toArray]; omega)
  have ea : its.toArray ++ its2.toArray = (its ++ its2).toArray := by simp
  rw [ea]
  exact ⟨.ref _, _, I.lnew (t' := s.toks) (r.append r2) (by rw [List.length_append]; omega), rfl, q _ I.fresh⟩
def rRepR : R2 := fun x y H Q => ∃ l k xs, x = .ref l ∧ y = .int k ∧ Rd H l (.lst xs) ∧ -(2 ^ 63) ≤ k ∧ k < 2 ^ 63 ∧ xs.length * k.toNat ≤ sizeLine ∧
  ∀ p, H p = none → Q (.ref p) (upd H p (.lst (List.replicate k.toNat xs).flatten))
theorem op_repR : OpR X (binaryOp .Mult) rRepR := by
  intro pins s σ H x y v u Q I rx ry h
  obtain ⟨l, k, xs, rfl, rfl, hH, h1, h2, hz, q⟩ := h
  cases rx
  obtain ⟨t, rfl⟩ := ry
  obtain ⟨z, its, n, r, hl, e⟩ := rdList I hH
  have hlen : its.toArray.size * k.toNat ≤ sizeLine := by rw [List.size_toArray, ← hl]; exact hz
  have hcap : ¬ its.toArray.size * k.toNat > (2 ^ 63 - 1) / 8 := by
    have : (sizeLine : Nat) ≤ (2 ^ 63 - 1) / 8 := by decide
    omega
  have hfit : ¬ (!Builtin.List.listFitsIndex k) = true := by
    rw [fitsIndex_both h1 h2]
    exact Bool.false_ne_true
  have hlong : ¬ Builtin.List.listTooLong (its.toArray.size * k.toNat) = true := by
    rw [notLongL hlen]
    exact Bool.false_ne_true
  have hnew : List.foldl (fun x1 x2 => x1 ++ x2) #[] (List.replicate (if its.toArray.isEmpty = true then 0 else k.toNat) its.toArray) = (List.replicate k.toNat its).flatten.toArray := by
    have f0 : ∀ m : Nat, List.foldl (fun x1 x2 => x1 ++ x2) #[] (List.replicate m its.toArray) = (List.replicate m its).flatten.toArray := fun m => by
      have := foldl_rep its m []
      rw [List.nil_append] at this
      exact this
    rw [f0]
    cases its with
    | nil => simp
    | cons a r' => rw [if_neg (by simp)]
  refine wpAny_binaryOp_repeat_ref (T := "list") (U := "int") (by decide) ⟨_, e, rfl⟩ (fun s' => typeIs_int s' k t) noFill_list_mul F.fills_int_mul F.slot_int_rmul repeat_list F.slot_int_index.lookup
    (call_meets F.slot_int_rmul (typeIs_int s k t) F.entry_int_rmul (F.args_int_rmul_2 _ _) (int___rmul___int_list k t l its.toArray n)
      ⟨e, rfl, ⟨_, e, rfl⟩, call_meets F.slot_list_mul ⟨_, e, rfl⟩ F.entry_list_mul (F.args_list_mul_2 _ _) (AutoListH.list___mul___list_int_3 l its.toArray n k t hfit hcap hlong) ⟨e, ?_⟩⟩)
  rw [hnew]
  exact ⟨.ref _, _, I.lnew (t' := s.toks) (r.rep k.toNat) (by rw [PyProof.Rows.lm_len_rep_flat, Nat.mul_comm]; exact hz), rfl, q _ I.fresh⟩
/-! ### a tuple, once or not at all -/
theorem tuple_mul1 (l : Addr) (items : Array Value) (n : Nat) (dd : Option Addr) (sl : Array (Option Value)) (x : Int) (u : Tok) (c0 : (decide (x < -(2 ^ 63)) || decide (x ≥ 2 ^ 63)) = false) (c1 : (items.isEmpty || x == 1) = true) :
    Meets (Builtin.«tuple.__mul__» ⟨[.ref l, .int x u], []⟩) (fun _ R s => s.heap.get? l = some { cls := .type "tuple", dict := dd, data := .seq items n, slots := sl } ∧
      R (.ok (.ret (Value.ref l))) s) :=
  .of_wp fun prog w A R s h => by
    obtain ⟨hp, g, d, tk, os⟩ := s
    obtain ⟨hl, h⟩ := h
    have f1 := AutoSeq1.idx_int
    wp_walk using wpAny_loadPart' hl
    repeat (first
      | (refine wpAny_ite_false (decide_eq_false (by rw [c0]; exact Bool.false_ne_true)) ?_; wp_walk using wpAny_loadPart' hl)
      | (refine wpAny_ite_true (decide_eq_true c1) ?_; wp_walk using wpAny_loadPart' hl))
    exact ⟨_, rfl, h⟩
theorem tuple_mul0 (l : Addr) (items : Array Value) (n : Nat) (dd : Option Addr) (sl : Array (Option Value)) (x : Int) (u : Tok) (c0 : (decide (x < -(2 ^ 63)) || decide (x ≥ 2 ^ 63)) = false) (c1 : (items.isEmpty || x == 1) = false) (c2 : (decide (x ≤ 0) || items.isEmpty) = true) :
    Meets (Builtin.«tuple.__mul__» ⟨[.ref l, .int x u], []⟩) (fun _ R s => s.heap.get? l = some { cls := .type "tuple", dict := dd, data := .seq items n, slots := sl } ∧
      R (.ok (.ret (Value.ref s.heap.objs.size))) { s with heap := s.heap.push { cls := Value.type "tuple", data := Data.seq #[] }, toks := s.toks }) :=
  .of_wp fun prog w A R s h => by
    obtain ⟨hp, g, d, tk, os⟩ := s
    obtain ⟨hl, h⟩ := h
    have f1 := AutoSeq1.idx_int
    wp_walk using wpAny_loadPart' hl
    repeat (first
      | (refine wpAny_ite_false (decide_eq_false (by rw [c0]; exact Bool.false_ne_true)) ?_; wp_walk using wpAny_loadPart' hl)
      | (refine wpAny_ite_false (decide_eq_false (by rw [c1]; exact Bool.false_ne_true)) ?_; wp_walk using wpAny_loadPart' hl)
      | (refine wpAny_ite_true (decide_eq_true c2) ?_; wp_walk using wpAny_loadPart' hl))
    exact ⟨_, rfl, h⟩
end
end GV
set_option Elab.async false
set_option linter.all false
set_option maxRecDepth 100000
set_option maxHeartbeats 4000000
namespace GV
open PySem L2
section
variable {X : Cx}
def rRepTA (K : PySem.W.Frag) : R2 := fun x y H Q => ∃ l k xs, x = .ref l ∧ y = .int k ∧ SqT K H l xs ∧ 0 ≤ k ∧ k ≤ 1000 ∧ xs.length ≤ 1000 ∧
  ((xs = [] ∨ k = 1) → Q (.ref l) H) ∧ (xs ≠ [] → k ≠ 1 → ∀ p, H p = none → Q (.ref p) (upd H p (.tup (List.replicate k.toNat xs).flatten)))
theorem op_repTA : OpR X (binaryOp .Mult) (rRepTA X.K) := by
  intro pins s σ H x y v u Q I rx ry h
  obtain ⟨l, k, xs, rfl, rfl, hT, h1, h2, hz, q1, q2⟩ := h
  by_cases hbig : 2 ≤ k ∧ xs ≠ []
  · exact op_repT pins s σ H _ _ v u Q I rx ry ⟨l, k, xs, rfl, rfl, hT, hbig.2, hbig.1, h2, hz, q2 hbig.2 (by omega)⟩
  cases rx
  obtain ⟨t, rfl⟩ := ry
  obtain ⟨its, r, ⟨⟨cls, dd, data, sl⟩, ho, hc, n, hd⟩, hs⟩ := I.tuple hT
  simp only at hc hd
  subst hc hd
  have c0 : (decide (k < -(2 ^ 63)) || decide (k ≥ 2 ^ 63)) = false := by
    rw [decide_eq_false (by omega), decide_eq_false (by omega)] <;> rfl
  by_cases hsame : xs = [] ∨ k = 1
  · have c1 : (its.toArray.isEmpty || k == 1) = true := by
      rcases hsame with e | e
      · have : its = [] := (r.nil_iff).mpr e
        subst this; rfl
      · subst e; simp
    refine wpAny_binaryOp_repeat_ref (T := "tuple") (U := "int") (by decide) ⟨_, ho, rfl⟩ (fun s' => typeIs_int s' k t) noFill_tuple_mul F.fills_int_mul F.slot_int_rmul repeat_tuple F.slot_int_index.lookup
      (call_meets F.slot_int_rmul (typeIs_int s k t) F.entry_int_rmul (F.args_int_rmul_2 _ _) (int_rmul_tuple k t l its.toArray n dd sl)
        ⟨ho, rfl, ⟨_, ho, rfl⟩, call_meets F.slot_tuple_mul ⟨_, ho, rfl⟩ F.entry_tuple_mul (F.args_tuple_mul_2 _ _) (tuple_mul1 l its.toArray n dd sl k t c0 c1) ⟨ho, ?_⟩⟩)
    exact ⟨.ref l, H, I, rfl, q1 hsame⟩
  · have hx : xs ≠ [] := fun e => hsame (.inl e)
    have hk1 : k ≠ 1 := fun e => hsame (.inr e)
    have hk : k = 0 := by
      by_cases hk2 : 2 ≤ k
      · exact absurd ⟨hk2, hx⟩ hbig
      · omega
    subst hk
    have hne : its ≠ [] := fun e => hx ((r.nil_iff).mp e)
    have hi : its.toArray.isEmpty = false := by
      cases its with
      | nil => exact absurd rfl hne
      | cons a b => rfl
    have c1 : (its.toArray.isEmpty || (0 : Int) == 1) = false := by rw [hi]; rfl
    have c2 : (decide ((0 : Int) ≤ 0) || its.toArray.isEmpty) = true := by simp
    refine wpAny_binaryOp_repeat_ref (T := "tuple") (U := "int") (by decide) ⟨_, ho, rfl⟩ (fun s' => typeIs_int s' 0 t) noFill_tuple_mul F.fills_int_mul F.slot_int_rmul repeat_tuple F.slot_int_index.lookup
      (call_meets F.slot_int_rmul (typeIs_int s 0 t) F.entry_int_rmul (F.args_int_rmul_2 _ _) (int_rmul_tuple 0 t l its.toArray n dd sl)
        ⟨ho, rfl, ⟨_, ho, rfl⟩, call_meets F.slot_tuple_mul ⟨_, ho, rfl⟩ F.entry_tuple_mul (F.args_tuple_mul_2 _ _) (tuple_mul0 l its.toArray n dd sl 0 t c0 c1 c2) ⟨ho, ?_⟩⟩)
    refine ⟨.ref s.heap.objs.size, _, I.laid (t' := s.toks) (o := .tup []) (fun b ob q => Heap.get?_push_of_some _ q) (Nat.le_refl _) ?_, rfl, ?_⟩
    · exact ⟨Nat.zero_le _, [], .nil, PyProof.Rows.IsTup.new _ _⟩
    · have := q2 hx hk1 s.heap.objs.size (I.hok.fresh (Nat.le_refl _))
      simpa using this
/-! ### sum of a tuple -/
def rSumT (K : PySem.W.Frag) : List V → Hp → VK → Prop := fun vs H Q => ∃ (a : Addr) (ns : List Int), vs = [V.ref a] ∧ SqT K H a (ns.map V.int) ∧ Q (.int ns.sum) H
theorem cr_sumT (hc : X.calm = true) : CallR X (.builtin "sum") (rSumT X.K) := by
  intro pins s σ H vs us Q I rv h
  obtain ⟨a, ns, rfl, hS, q⟩ := h
  have e := rv.ref1
  subst e
  obtain ⟨its, r, p, _⟩ := I.tuple hS
  have hi := r.ints
  obtain ⟨xs, hx⟩ := hi.allInts.items
  have hn : numsOf its.toArray.toList = ns := by rw [show its.toArray.toList = its from rfl, hi.numsOf]
  have hl : s.heap.IsTuple a its.toArray := p
  rw [hx] at hl hn
  rw [nums_intItems] at hn
  refine PySem.W.ktm_sumG (I.ok.hd hc) hl fun h' tk t' hk => ?_
  rw [preSum_eq, List.take_of_length_le (by simp), hn]
  exact ⟨.int _, H, I.kept hk, ⟨_, rfl⟩, q⟩
end
end GV
set_option Elab.async false
set_option linter.all false
set_option maxRecDepth 100000
set_option maxHeartbeats 4000000
namespace GV
open PySem L2
/-! ### plain data as the library's -/
section
variable {K : PySem.W.Frag} {W : Wd} {H : Hp}
theorem pyL_map : ∀ ds : List D, D.pyL ds = ds.map D.py
  | [] => by simp [D.pyL]
  | d :: ds => by simp [D.pyL, pyL_map ds]
mutual
theorem Rep.dp : ∀ {v : V} {d : D} {n : Nat}, Rep K W H v d → d.okN n = true → Dp K H v d.py
  | _, _, _, .non, _ => by rw [D.py]; exact .non
  | _, _, _, .bl b, _ => by rw [D.py]; exact .bl b
  | _, _, _, .int i, _ => by rw [D.py]; exact .int i
  | _, _, _, .str x, _ => by rw [D.py]; exact .str x
  | _, _, 0, .tup e r, h => by simp [D.okN] at h
  | _, _, n + 1, .tup e r, h => by rw [D.py]; exact .tup e (RepL.dp (n := n) r (by simpa [D.okN] using h))
  | _, _, 0, .lst e f r, h => by simp [D.okN] at h
  | _, _, n + 1, .lst e f r, h => by rw [D.py]; exact .lst (.inl e) (RepL.dp (n := n) r (by simpa [D.okN] using h))
  | _, _, n, .obj _, h => by simp [D.okN] at h
theorem RepL.dp : ∀ {vs : List V} {ds : List D} {n : Nat}, RepL K W H vs ds → (∀ d ∈ ds, d.okN n = true) → DpAll K H vs (D.pyL ds)
  | _, _, _, .nil, _ => by rw [D.pyL]; exact .nil
  | _, _, n, .cons a b, h => by rw [D.pyL]; exact .cons (Rep.dp a (h _ (by simp))) (RepL.dp (n := n) b fun d hd => h d (by simp [hd]))
end
mutual
theorem lay_py : ∀ (d : D) (n : Nat), d.okN n = true → d.py.canLay0 = true ∧ d.py.depth ≤ n
  | .non, _, _ => by simp [D.py, PyData.canLay0, PyData.depth]
  | .bl b, _, _ => by simp [D.py, PyData.canLay0, PyData.depth]
  | .int i, _, _ => by simp [D.py, PyData.canLay0, PyData.depth]
  | .str x, _, h => by
    have h' : strOkB x = true := by simpa [D.okN] using h
    simp only [D.py, PyData.canLay0, PyData.depth]
    exact ⟨h', by omega⟩
  | .tup xs, 0, h => by simp [D.okN] at h
  | .tup xs, n + 1, h => by
    obtain ⟨h1, h2⟩ := lay_pyL xs n (by simpa [D.okN] using h)
    simp only [D.py, PyData.canLay0, PyData.depth]
    exact ⟨h1, by omega⟩
  | .lst xs, 0, h => by simp [D.okN] at h
  | .lst xs, n + 1, h => by
    obtain ⟨h1, h2⟩ := lay_pyL xs n (by simpa [D.okN] using h)
    simp only [D.py, PyData.canLay0, PyData.depth]
    exact ⟨h1, by omega⟩
  | .obj _, n, h => by simp [D.okN] at h
theorem lay_pyL : ∀ (ds : List D) (n : Nat), (∀ d ∈ ds, d.okN n = true) → PyData.canLayAll0 (D.pyL ds) = true ∧ PyData.depthAll (D.pyL ds) ≤ n
  | [], _, _ => by simp [D.pyL, PyData.canLayAll0, PyData.depthAll]
  | d :: ds, n, h => by
    obtain ⟨h1, h2⟩ := lay_py d n (h _ (by simp))
    obtain ⟨h3, h4⟩ := lay_pyL ds n fun d hd => h d (by simp [hd])
    simp only [D.pyL, PyData.canLayAll0, PyData.depthAll, h1, h3]
    exact ⟨rfl, by omega⟩
end
theorem shaped_py {d : D} {n : Nat} (h : d.okN n = true) (hn : n ≤ 64) : SeqAt.shaped d.py = true := by
  obtain ⟨h1, h2⟩ := lay_py d n h
  unfold SeqAt.shaped
  rw [h1, decide_eq_true (by omega)]
  rfl
mutual
theorem eqv_py : ∀ (d e : D) (n m : Nat), d.okN n = true → e.okN m = true → PyData.eqv d.py e.py = D.eqb d e
  | .non, e, _, m, _, h => by cases e <;> simp_all [D.py, PyData.eqv, D.eqb, D.okN]
  | .bl b, e, _, m, _, h => by cases e <;> simp_all [D.py, PyData.eqv, D.eqb, D.okN]
  | .int i, e, _, m, _, h => by cases e <;> simp_all [D.py, PyData.eqv, D.eqb, D.okN]
  | .str x, e, _, m, _, h => by cases e <;> simp_all [D.py, PyData.eqv, D.eqb, D.okN]
  | .tup xs, e, 0, m, h', h => by simp [D.okN] at h'
  | .tup xs, .tup ys, n + 1, 0, h', h => by simp [D.okN] at h
  | .tup xs, .tup ys, n + 1, m + 1, h', h => by
    simp only [D.py, PyData.eqv, D.eqb]
    exact eqv_pyL xs ys n m (by simpa [D.okN] using h') (by simpa [D.okN] using h)
  | .tup xs, .non, n + 1, m, h', h => by simp [D.py, PyData.eqv, D.eqb]
  | .tup xs, .bl _, n + 1, m, h', h => by simp [D.py, PyData.eqv, D.eqb]
  | .tup xs, .int _, n + 1, m, h', h => by simp [D.py, PyData.eqv, D.eqb]
  | .tup xs, .str _, n + 1, m, h', h => by simp [D.py, PyData.eqv, D.eqb]
  | .tup xs, .lst _, n + 1, m, h', h => by simp [D.py, PyData.eqv, D.eqb]
  | .tup xs, .obj _, n + 1, m, h', h => by simp [D.okN] at h
  | .lst xs, e, 0, m, h', h => by simp [D.okN] at h'
  | .lst xs, .lst ys, n + 1, 0, h', h => by simp [D.okN] at h
  | .lst xs, .lst ys, n + 1, m + 1, h', h => by
    simp only [D.py, PyData.eqv, D.eqb]
    exact eqv_pyL xs ys n m (by simpa [D.okN] using h') (by simpa [D.okN] using h)
  | .lst xs, .non, n + 1, m, h', h => by simp [D.py, PyData.eqv, D.eqb]
  | .lst xs, .bl _, n + 1, m, h', h => by simp [D.py, PyData.eqv, D.eqb]
  | .lst xs, .int _, n + 1, m, h', h => by simp [D.py, PyData.eqv, D.eqb]
  | .lst xs, .str _, n + 1, m, h', h => by simp [D.py, PyData.eqv, D.eqb]
  | .lst xs, .tup _, n + 1, m, h', h => by simp [D.py, PyData.eqv, D.eqb]
  | .lst xs, .obj _, n + 1, m, h', h => by simp [D.okN] at h
  | .obj _, _, n, _, h', _ => by simp [D.okN] at h'
theorem eqv_pyL : ∀ (ds es : List D) (n m : Nat), (∀ d ∈ ds, d.okN n = true) → (∀ d ∈ es, d.okN m = true) → PyData.eqvAll (D.pyL ds) (D.pyL es) = D.eqbL ds es
  | [], [], _, _, _, _ => by simp [D.pyL, PyData.eqvAll, D.eqbL]
  | [], _ :: _, _, _, _, _ => by simp [D.pyL, PyData.eqvAll, D.eqbL]
  | _ :: _, [], _, _, _, _ => by simp [D.pyL, PyData.eqvAll, D.eqbL]
  | d :: ds, e :: es, n, m, h, h' => by
    simp only [D.pyL, PyData.eqvAll, D.eqbL]
    rw [eqv_py d e n m (h _ (by simp)) (h' _ (by simp)), eqv_pyL ds es n m (fun d hd => h d (by simp [hd])) fun d hd => h' d (by simp [hd])]
end
/-- an operand that is read, as data -/
theorem RRel.dp {cl : Nat → Option Addr} {h : MH} {H0 : Hp} {v : V} {r : R} {n : Nat} (w : WOk K cl W h H) (q : RRel K W H0 H v r) (e : r.rd.okN n = true) : Dp K H v r.rd.py := by
  cases r with
  | v d => exact Rep.dp q e
  | nl xs =>
    obtain ⟨p, vs, rfl, _, e3, e4, _⟩ := q
    cases n with
    | zero => simp [R.rd, D.okN] at e
    | succ n => simp only [R.rd, D.py]; exact .lst (SqL.of e3) (RepL.dp (n := n) e4 (by simpa [R.rd, D.okN] using e))
  | bw xs =>
    obtain ⟨p, vs, rfl, e3, e4, _⟩ := q
    cases n with
    | zero => simp [R.rd, D.okN] at e
    | succ n => simp only [R.rd, D.py]; exact .lst (SqL.of e3) (RepL.dp (n := n) e4 (by simpa [R.rd, D.okN] using e))
theorem any_eqv {x : D} {n m : Nat} (hx : x.okN n = true) : ∀ {ds : List D}, (∀ d ∈ ds, d.okN m = true) → ((D.pyL ds).any fun z => PyData.eqv z x.py) = ds.any fun z => D.eqb z x
  | [], _ => by simp [D.pyL]
  | d :: ds, h => by
    simp only [D.pyL, List.any_cons]
    rw [eqv_py d x m n (h _ (by simp)) hx, any_eqv hx fun d hd => h d (by simp [hd])]
end
/-! ### in a tuple; the order -/
section
variable {X : Cx}
def rInT (K : PySem.W.Frag) : R2 := fun x y H Q => ∃ d ds, Dp K H x d ∧ Dp K H y (.tuple ds) ∧ SeqAt.shaped d = true ∧ SeqAt.shaped (.tuple ds) = true ∧ Q (.bl (ds.any fun z => PyData.eqv z d)) H
def rNotInT (K : PySem.W.Frag) : R2 := fun x y H Q => ∃ d ds, Dp K H x d ∧ Dp K H y (.tuple ds) ∧ SeqAt.shaped d = true ∧ SeqAt.shaped (.tuple ds) = true ∧ Q (.bl (!ds.any fun z => PyData.eqv z d)) H
theorem room_inT {A : Around} {d : PyData} {ds : List PyData} (h : SeqAt.shaped d = true) (hu : A.units + 65 < cLine) : A.units + 1 + min (PyData.depthAll ds) d.depth < cLine := by
  have h1 := SeqAt.depth_of_shaped h
  have h2 : min (PyData.depthAll ds) d.depth ≤ d.depth := Nat.min_le_right _ _
  omega
theorem op_inT (hu : X.A.units + 65 < cLine) : OpR X (compareOp .In) (rInT X.K) := by
  intro pins s σ H x y v u Q I rx ry h
  obtain ⟨d, ds, hd, he, sd, se, q⟩ := h
  obtain ⟨as, r1⟩ := Dp.reads I d x v hd rx
  obtain ⟨bs, r2⟩ := Dp.reads I (.tuple ds) y u he ry
  exact SeqAt.in_tuple_reads r2 r1 (SeqAt.canLay_of_shaped se) (SeqAt.canLay_of_shaped sd) (room_inT sd hu) ⟨.bl _, H, I, rfl, q⟩
theorem op_notInT (hu : X.A.units + 65 < cLine) : OpR X (compareOp .NotIn) (rNotInT X.K) := by
  intro pins s σ H x y v u Q I rx ry h
  obtain ⟨d, ds, hd, he, sd, se, q⟩ := h
  obtain ⟨as, r1⟩ := Dp.reads I d x v hd rx
  obtain ⟨bs, r2⟩ := Dp.reads I (.tuple ds) y u he ry
  exact SeqAt.notIn_tuple_reads r2 r1 (SeqAt.canLay_of_shaped se) (SeqAt.canLay_of_shaped sd) (room_inT sd hu) ⟨.bl _, H, I, rfl, q⟩
def rLtD (K : PySem.W.Frag) : R2 := fun x y H Q => ∃ d e, Dp K H x d ∧ Dp K H y e ∧ SeqAt.shaped d = true ∧ PySem.W.alike d e = true ∧ d ≠ .none ∧ Q (.bl (PySem.W.dataLt d e)) H
theorem op_ltD (hu : X.A.units + 65 < cLine) : OpR X (compareOp .Lt) (rLtD X.K) := by
  intro pins s σ H x y v u Q I rx ry h
  obtain ⟨d, e, hd, he, sd, al, nn, q⟩ := h
  obtain ⟨as, r1⟩ := Dp.reads I d x v hd rx
  obtain ⟨bs, r2⟩ := Dp.reads I e y u he ry
  have h1 := SeqAt.depth_of_shaped sd
  have h2 : min d.depth e.depth ≤ d.depth := Nat.min_le_left _ _
  exact PySem.W.rcLt_alike d e X.A s v u as bs r1 r2 al nn (by omega) _ _ _ _ ⟨.bl _, H, I, rfl, q⟩
end
end GV
set_option Elab.async false
set_option linter.all false
set_option maxRecDepth 100000
set_option maxHeartbeats 4000000
/-! GE1: enumerate over a tuple. -/
namespace GV
open PySem PySem.Spec PyProof.Rows L2
theorem enum_one {v : Value} {ob : Obj} {Hp : Heap → Prop} (B : Begins v ob Hp) :
    Meets (Builtin.«enumerate.__new__» ⟨[.type "enumerate", v], []⟩) (fun _ R t => Hp t.heap ∧
      R (.ok (.ret (.ref (t.heap.push ob).objs.size))) { t with heap := (t.heap.push ob).push { cls := .type "enumerate", data := .fields #[.none, .bool false, .ref t.heap.objs.size, rawInt 0, .none, .none] } }) :=
  .of_wp fun prg ww A R t g => by
    obtain ⟨hq, g1, d1, tk, os⟩ := t; obtain ⟨g2, g⟩ := g
    have hsub := sub_enumerate
    have qq : ∀ {A' : Around} {E : Value → Shared → Prop} {Q : Value → Shared → Prop}, Q (.ref hq.objs.size) ⟨hq.push ob, g1, d1, tk, os⟩ → wpAny (model prg ww) A' (pyIter v) Q E ⟨hq, g1, d1, tk, os⟩ :=
      fun z => B.iter prg ww _ _ ⟨hq, g1, d1, tk, os⟩ _ g2 z
    wp_walk using qq
    refine wpAny_stack_any fun st => wpAny_pure ?_
    split
    · rename_i c _ _ _ _ _
      cases (c == Value.type "enumerate")
      all_goals
        wp_walk using qq
        exact ⟨_, rfl, g⟩
    · wp_walk using qq
      exact ⟨_, rfl, g⟩
section
variable {prg : Program} {ww : World} {A : Around} {E : Value → Shared → Prop} {t : Shared}
/-- enumerate(v): its two new cells -/
theorem enum_begins1 {v : Value} {ob : Obj} {Hp : Heap → Prop} {Q : Value → Shared → Prop} (B : Begins v ob Hp) (g : Hp t.heap)
    (k : ∀ h', IsEnum h' (t.heap.objs.size + 1) t.heap.objs.size 0 .none → h'.get? t.heap.objs.size = some ob → h'.objs.size = t.heap.objs.size + 2 → (∀ b o, t.heap.get? b = some o → h'.get? b = some o) → Q (.ref (t.heap.objs.size + 1)) { t with heap := h' }) :
    wpAny (model prg ww) A (call (.type "enumerate") [v]) Q E t := by
  refine callType_new F.called_enumerate (by decide) (F.typeCall_enumerate_1 _) (F.newCall_enumerate_1 _) (fun x => F.args_object_init_2 x _) F.entry_enumerate_new (enum_one B) ⟨g, ?_⟩
  have sz : (t.heap.push ob).objs.size = t.heap.objs.size + 1 := Heap.size_push ..
  show _ ∧ _
  rw [sz]
  have en : IsEnum ((t.heap.push ob).push { cls := .type "enumerate", data := .fields #[.none, .bool false, .ref t.heap.objs.size, rawInt 0, .none, .none] }) (t.heap.objs.size + 1) t.heap.objs.size 0 .none := by
    have z := Heap.get?_push_size (t.heap.push ob) (o := { cls := .type "enumerate", data := .fields #[.none, .bool false, .ref t.heap.objs.size, rawInt 0, .none, .none] }) rfl
    rw [sz] at z; exact z
  exact ⟨⟨_, en, rfl⟩, k _ en (Heap.get?_push_of_some _ (Heap.get?_push_size _ B.free)) (by rw [Heap.size_push, sz]) fun b o z => Heap.get?_push_of_some _ (Heap.get?_push_of_some _ z)⟩
end
/-- the tuple at a, each item in a new pair with its number -/
def IteT (K : PySem.W.Frag) (a : Addr) : It where
  go := fun i H => ∃ (xs : List V) (x : V), SqT K H a xs ∧ xs[i]? = some x
  yld := fun i H v H' => ∃ T x, v = .ref T ∧ H T = none ∧ H' = upd H T (.tup [.int (i : Nat), x]) ∧ ∀ xs, SqT K H a xs → xs[i]? = some x
  stop := fun i H => ∃ xs : List V, SqT K H a xs ∧ xs.length = i
theorem turn_enumT {P : Program} {w : World} {K : PySem.W.Frag} {elts : List Expr} {kk : Nat} {tpos : Pos} (a e it : Addr) (hai : a ≠ it) (hae : a ≠ e) :
    Turn P w K (.Tuple elts kk tpos) (IteT K a) [e, it] e (fun i h => (∃ old, IsEnum h e it ((i : Nat) : Int) old) ∧ h.IsTupleIter it a i ∧ e ≠ it) where
  mem := by simp
  obj := fun i h st b hb => by
    obtain ⟨⟨old, g1⟩, ⟨o, g2, _, g3⟩, _⟩ := st
    rcases (show b = e ∨ b = it by simpa using hb) with z | z
    · subst z; exact ⟨_, g1, fun v q => nomatch q⟩
    · subst z; exact ⟨o, g2, fun v q => by rw [g3] at q; cases q⟩
  keep := fun i h h' st k => ⟨let ⟨old, g⟩ := st.1; ⟨old, k e (by simp) _ g⟩, st.2.1.at fun o q => k it (by simp) o q, st.2.2⟩
  item := by
    intro X hP hw hK hc i pins s σ H E I hf st hg
    subst hP hw hK
    obtain ⟨⟨old, g1⟩, g2, ne⟩ := st
    obtain ⟨xs, x, hq, hx⟩ := hg
    obtain ⟨its, rv, p, hz⟩ := I.tuple hq
    obtain ⟨u, hu, ru⟩ := rv.get hx
    have el : e < s.heap.objs.size := Heap.lt_size g1
    have il : it < s.heap.objs.size := by obtain ⟨_, q, _⟩ := g2; exact Heap.lt_size q
    have hil : i < its.toArray.size := by
      have := (List.getElem?_eq_some_iff.mp hu).1
      simpa using this
    have hh : X.A.in1.handled = none := I.ok.hd hc
    refine wpAny_pyNext_enum_itemC (Draws.tuple hh it a hai its.toArray) g1 ⟨g2, p⟩ hil ne (by simp [ne, Ne.symm hae]) fun y h' tk hy ho st' hT hsz hk => ?_
    have ey : y = u := by
      have h1 : its.toArray[i]? = some u := by simpa using hu
      rw [h1] at hy
      exact (Option.some.inj hy).symm
    subst ey
    refine ⟨_, rfl, wpAny_letOwnedTupleGo_enum (s := { s with heap := h', toks := tk + 1 }) ho fun h'' en sb => ?_⟩
    have hT2 : h''.get? s.heap.objs.size = some { cls := .type "tuple", data := .seq #[.int i tk, y] } := (sb.2 _ (Nat.ne_of_gt el)).trans hT
    have nw : ObjOk X.prog X.w (upd H s.heap.objs.size (.tup [.int (i : Nat), x])) h'' s.heap.objs.size (.tup [.int (i : Nat), x]) :=
      ⟨by show 2 ≤ sizeLine; decide, [.int i tk, y], .cons ⟨_, rfl⟩ (.cons ru .nil), ⟨_, hT2, rfl, _, rfl⟩⟩
    have J1 : Inv X pins σ (upd H s.heap.objs.size (.tup [.int (i : Nat), x])) { s with heap := h'', toks := tk + 1 } :=
      I.turnedNew (t' := tk + 1) (ch := [e, it]) (fun b ob hb q => (sb.2 b (fun z => hb (by simp [z]))).trans (hk b ob (fun z => hb (by simp [z])) (fun z => hb (by simp [z])) q)) hf (Nat.le_refl _) nw
    refine ⟨.ref s.heap.objs.size, _, J1, rfl, ⟨_, x, rfl, I.hok.fresh (Nat.le_refl _), rfl, fun ys hy => by rw [I.tuple_inj hy hq]; exact hx⟩, ⟨⟨y, ?_⟩, st'.1.at fun o q => (sb.2 it (Ne.symm ne)).trans q, ne⟩, fun b hb => ?_⟩
    · rw [show ((i + 1 : Nat) : Int) = (i : Int) + 1 by omega]; exact en
    · have lt : b < s.heap.objs.size := by
        rcases (show b = e ∨ b = it by simpa using hb) with z | z
        · rw [z]; exact el
        · rw [z]; exact il
      rw [upd_ne (Nat.ne_of_lt lt)]
      exact (hf b hb).1
  done := by
    intro X hP hw hK hc i pins s σ H E I hf st hg
    subst hP hw hK
    obtain ⟨⟨old, g1⟩, g2, ne⟩ := st
    obtain ⟨xs, hq, rfl⟩ := hg
    obtain ⟨its, rv, p, hz⟩ := I.tuple hq
    obtain ⟨f0, f1, f2, f3, f4, f5⟩ := hf it (by simp)
    have hl := rv.length
    have hh : X.A.in1.handled = none := I.ok.hd hc
    have g3 : s.heap.IsTupleIter it a its.toArray.size := by
      have : its.toArray.size = xs.length := by simp [hl]
      rw [this]; exact g2
    exact wpAny_pyNext_enum_endD (Draws.tuple hh it a hai its.toArray) g1 ⟨g3, p⟩ fun h' eb => ⟨rfl, I.turned (t' := s.toks) (fun b o hb q => eb b o hb q) f0 f1 f3 f4 f5⟩
  self := fun A i s Q E st k => let ⟨⟨_, g⟩, _⟩ := st; wpAny_pyIter_enum g k
/-- enumerate(v), v a list or a tuple -/
def iEnumA (K : PySem.W.Frag) (ta : TA) : TI := fun σ H R => ta σ H fun vs H1 => ∃ a xs, vs = [.ref a] ∧ ((SqL K H1 a xs ∧ R (Ite K a) H1) ∨ (SqT K H1 a xs ∧ R (IteT K a) H1))
theorem pi_enumA {X : Cx} {e : Expr} {ta : TA} {p pos tpos : Pos} {elts : List Expr} {kk : Nat} (hg : Gl X "enumerate") (hm : X.mg "enumerate" = none) (ha : PA X [e] ta) (hs : starEach [e] X.env = [(false, eval e X.env)]) :
    PI X (.Tuple elts kk tpos) (.Call (.Name "enumerate" p) [e] [] pos) (iEnumA X.K ta) := by
  refine ⟨fun pins s σ H R I h => ?_⟩
  refine Call_ (ld_blt I hg hm boot_enumerate (PyProof.Rows.callWith_type1 (thn (ha.run pos pins s σ H _ I h) fun us s1 ⟨vs, H1, I1, r1, q1⟩ => ?_) hs rfl))
  obtain ⟨a, xs, ex, q1⟩ := q1
  subst ex
  cases r1 with
  | cons r rr =>
    cases rr
    cases r
    have fr : ∀ b, b ∈ [s1.heap.objs.size + 1, s1.heap.objs.size] → FpOk X pins H1 b := fun b hb => by
      have le : s1.heap.objs.size ≤ b := by
        rcases (show b = s1.heap.objs.size + 1 ∨ b = s1.heap.objs.size by simpa using hb) with z | z
        · rw [z]; exact Nat.le_add_right _ _
        · rw [z]; exact Nat.le_refl _
      exact I1.fpOk le (I1.hok.fresh le)
    rcases q1 with ⟨hq, q⟩ | ⟨hq, q⟩
    · obtain ⟨its, rv, p', hz⟩ := I1.list hq
      refine call_enumerate_list p'.isList fun h' he hit hsz hk => wpAny_pyIter_enum he ?_
      exact ⟨s1.heap.objs.size + 1, _, _, _, H1, rfl, I1.kept (t' := s1.toks) hk, turn_enum a (s1.heap.objs.size + 1) s1.heap.objs.size, ⟨⟨.none, he⟩, hit, Nat.succ_ne_self _⟩, fr, q⟩
    · obtain ⟨its, rv, p', hz⟩ := I1.tuple hq
      have al : a < s1.heap.objs.size := by obtain ⟨o, ho, _⟩ := p'; exact Heap.lt_size ho
      refine enum_begins1 (begins_tuple a its.toArray) p' fun h' he hit hsz hk => wpAny_pyIter_enum he ?_
      exact ⟨s1.heap.objs.size + 1, _, _, _, H1, rfl, I1.kept (t' := s1.toks) hk, turn_enumT a (s1.heap.objs.size + 1) s1.heap.objs.size (Nat.ne_of_lt al) (Nat.ne_of_lt (Nat.lt_succ_of_lt al)), ⟨⟨.none, he⟩, ⟨_, hit, rfl, rfl⟩, Nat.succ_ne_self _⟩, fr, q⟩
end GV
set_option Elab.async false
set_option linter.all false
set_option maxRecDepth 100000
set_option maxHeartbeats 4000000
/-! GE2: zip of two or three, each a list or a tuple. -/
namespace GV
open PySem PySem.Spec PyProof.Rows L2
/-- b: a tuple, else a list -/
def SqB (K : PySem.W.Frag) (b : Bool) (H : Hp) (a : Addr) (xs : List V) : Prop := match b with
  | true => SqT K H a xs
  | false => SqL K H a xs
def ItrB (b : Bool) (h : Heap) (it a : Addr) (i : Nat) : Prop := match b with
  | true => h.IsTupleIter it a i
  | false => h.IsListIter it a i
def IsB (b : Bool) (h : Heap) (a : Addr) (its : Array Value) : Prop := match b with
  | true => h.IsTuple a its
  | false => h.IsList a its
def itO (b : Bool) (a : Addr) : Obj := match b with
  | true => { cls := .type "tuple_iterator", data := .fields #[.ref a, .int 0 0] }
  | false => { cls := .type "list_iterator", data := .fields #[.ref a, .int 0 0] }
theorem IsB.lt {b : Bool} {h : Heap} {a : Addr} {its : Array Value} (p : IsB b h a its) : a < h.objs.size := by
  cases b <;> (obtain ⟨o, ho, _⟩ := p; exact Heap.lt_size ho)
theorem ItrB.at {b : Bool} {h h' : Heap} {it a : Addr} {i : Nat} (q : ItrB b h it a i) (k : ∀ o, h.get? it = some o → h'.get? it = some o) : ItrB b h' it a i := by
  cases b
  · exact Heap.IsListIter.at q k
  · exact Heap.IsTupleIter.at q k
theorem ItrB.obj {b : Bool} {h : Heap} {it a : Addr} {i : Nat} (q : ItrB b h it a i) : ∃ o, h.get? it = some o ∧ ∀ v, o.data ≠ .cell v := by
  cases b <;> (obtain ⟨o, ho, _, hd⟩ := q; exact ⟨o, ho, fun v z => by rw [hd] at z; cases z⟩)
theorem itO_itr {b : Bool} {h : Heap} {it a : Addr} (e : h.get? it = some (itO b a)) : ItrB b h it a 0 := by
  cases b <;> exact ⟨_, e, rfl, rfl⟩
theorem begins_B (b : Bool) (a : Addr) (its : Array Value) : Begins (.ref a) (itO b a) fun h => IsB b h a its := by
  cases b
  · exact begins_list a its
  · exact begins_tuple a its
theorem draws_B {prg : Program} {ww : World} {A : Around} (b : Bool) (hh : A.handled = none) (it a : Addr) (ne : a ≠ it) (its : Array Value) :
    Draws prg ww A it [it, a] its.size (fun i v => its[i]? = some v) (fun i h => ItrB b h it a i ∧ IsB b h a its) := by
  cases b
  · exact Draws.list hh it a ne its
  · exact Draws.tuple hh it a ne its
section
variable {X : Cx} {pins : List (Addr × Obj)} {σ : L2.St} {H : Hp} {s : Shared}
theorem inv_B {b : Bool} {a : Addr} {xs : List V} (I : Inv X pins σ H s) (q : SqB X.K b H a xs) : ∃ its : List Value, Vals xs its ∧ IsB b s.heap a its.toArray := by
  cases b
  · obtain ⟨its, rv, p, _⟩ := I.list q
    exact ⟨its, rv, p.isList⟩
  · obtain ⟨its, rv, p, _⟩ := I.tuple q
    exact ⟨its, rv, p⟩
theorem inj_B {b : Bool} {a : Addr} {xs ys : List V} (I : Inv X pins σ H s) (q : SqB X.K b H a xs) (q' : SqB X.K b H a ys) : xs = ys := by
  cases b
  · exact I.list_inj q q'
  · exact I.tuple_inj q q'
end
theorem sub45 {q z TI TO i1 i2 : Addr} (m : q ∈ [z, TO, i1, i2]) : q ∈ [z, TI, TO, i1, i2] := by
  simp only [List.mem_cons, List.not_mem_nil, or_false] at m ⊢
  rcases m with h | h | h | h <;> simp [h]
/-! ### two -/
def It2 (K : PySem.W.Frag) (b c : Bool) (a a' : Addr) : It where
  go := fun i H => ∃ (xs ys : List V) (x y : V), SqB K b H a xs ∧ SqB K c H a' ys ∧ xs[i]? = some x ∧ ys[i]? = some y
  yld := fun i H v H' => ∃ T x y, v = .ref T ∧ H T = none ∧ H' = upd H T (.tup [x, y]) ∧ (∀ xs, SqB K b H a xs → xs[i]? = some x) ∧ ∀ ys, SqB K c H a' ys → ys[i]? = some y
  stop := fun i H => ∃ xs ys : List V, SqB K b H a xs ∧ SqB K c H a' ys ∧ min xs.length ys.length = i
theorem turn_zip2 {P : Program} {w : World} {K : PySem.W.Frag} {elts : List Expr} {kk : Nat} {tpos : Pos} {b c : Bool} {a a' z TI TO i1 i2 : Addr} (n1 : a ≠ i1) (n2 : a' ≠ i2) (S : ZipSep2 z TI TO i1 i2 [i1, a] [i2, a']) :
    Turn P w K (.Tuple elts kk tpos) (It2 K b c a a') [z, TI, TO, i1, i2] z (fun i h => IsZip h z TI TO .none ∧ IsTupOf2 h TI (.ref i1) (.ref i2) ∧ (∃ x y, IsTupOf2 h TO x y) ∧ ItrB b h i1 a i ∧ ItrB c h i2 a' i) where
  mem := by simp
  obj := fun i h st q hq => by
    obtain ⟨g1, g2, ⟨x, y, g3⟩, g4, g5⟩ := st
    simp only [List.mem_cons, List.not_mem_nil, or_false] at hq
    rcases hq with rfl | rfl | rfl | rfl | rfl
    · exact ⟨_, g1, fun v q => nomatch q⟩
    · exact ⟨_, g2, fun v q => nomatch q⟩
    · exact ⟨_, g3, fun v q => nomatch q⟩
    · exact g4.obj
    · exact g5.obj
  keep := fun i h h' st k => by
    obtain ⟨g1, g2, ⟨x, y, g3⟩, g4, g5⟩ := st
    exact ⟨k z (by simp) _ g1, k TI (by simp) _ g2, ⟨x, y, k TO (by simp) _ g3⟩, g4.at fun o q => k i1 (by simp) o q, g5.at fun o q => k i2 (by simp) o q⟩
  item := by
    intro X hP hw hK hc i pins s σ H E I hf st hg
    subst hP hw hK
    have hin : ∀ q ∈ [z, TI, TO, i1, i2], q < s.heap.objs.size := fun q hq => by
      obtain ⟨g1, g2, ⟨x, y, g3⟩, g4, g5⟩ := st
      simp only [List.mem_cons, List.not_mem_nil, or_false] at hq
      rcases hq with rfl | rfl | rfl | rfl | rfl
      · exact Heap.lt_size g1
      · exact Heap.lt_size g2
      · exact Heap.lt_size g3
      · obtain ⟨o, ho, _⟩ := g4.obj; exact Heap.lt_size ho
      · obtain ⟨o, ho, _⟩ := g5.obj; exact Heap.lt_size ho
    obtain ⟨g1, g2, g3, g4, g5⟩ := st
    obtain ⟨xs, ys, x, y, hx, hy, ex, ey⟩ := hg
    obtain ⟨its, rv, p⟩ := inv_B I hx
    obtain ⟨its', rv', p'⟩ := inv_B I hy
    obtain ⟨u, hu, ru⟩ := rv.get ex
    obtain ⟨u', hu', ru'⟩ := rv'.get ey
    have hh : X.A.in1.handled = none := I.ok.hd hc
    have l1 : i < its.toArray.size := by simpa using (List.getElem?_eq_some_iff.mp hu).1
    have l2 : i < its'.toArray.size := by simpa using (List.getElem?_eq_some_iff.mp hu').1
    have W := WalksT.zipD2 (prog := X.prog) (w := X.w) (A := X.A) S (draws_B b hh i1 a n1 its.toArray) (draws_B c hh i2 a' n2 its'.toArray)
    refine W.item i s _ E (by omega) ⟨g1, g2, g3, ⟨g4, p⟩, g5, p'⟩ fun T vals h' tk hP hT hU mid fr => ?_
    obtain ⟨v1, v2, e1, e2, rfl⟩ := hP
    obtain rfl : u = v1 := by
      have : its.toArray[i]? = some u := by simpa using hu
      rw [this] at e1; exact Option.some.inj e1
    obtain rfl : u' = v2 := by
      have : its'.toArray[i]? = some u' := by simpa using hu'
      rw [this] at e2; exact Option.some.inj e2
    have ap := W.apart i T h' mid
    refine ⟨_, rfl, W.go elts kk tpos i T { s with heap := h', toks := tk } _ E mid fun h'' st'' fr' => ?_⟩
    have hU2 : h''.IsTuple T #[u, u'] := hU.at fun o e => fr' T o ap e
    have nw : ObjOk X.prog X.w (upd H T (.tup [x, y])) h'' T (.tup [x, y]) := ⟨by show 2 ≤ sizeLine; decide, [u, u'], .cons ru (.cons ru' .nil), hU2⟩
    have J1 : Inv X pins σ (upd H T (.tup [x, y])) { s with heap := h'', toks := tk } := I.turnedNew (t' := tk) (ch := [z, TI, TO, i1, i2]) (fun q o hq e => by
      have nq : q ∉ [z, TO, i1, i2] := fun m => hq (sub45 m)
      exact fr' q o nq (fr q o nq e)) hf hT nw
    refine ⟨.ref T, _, J1, rfl, ⟨T, x, y, rfl, I.hok.fresh hT, rfl, fun l hl => by rw [inj_B I hl hx]; exact ex, fun l hl => by rw [inj_B I hl hy]; exact ey⟩, ⟨st''.1, st''.2.1, st''.2.2.1, st''.2.2.2.1.1, st''.2.2.2.2.1⟩, fun q hq => ?_⟩
    have lt := hin q hq
    rw [upd_ne (Nat.ne_of_lt (Nat.lt_of_lt_of_le lt hT))]
    exact (hf q hq).1
  done := by
    intro X hP hw hK hc i pins s σ H E I hf st hg
    subst hP hw hK
    obtain ⟨g1, g2, g3, g4, g5⟩ := st
    obtain ⟨xs, ys, hx, hy, rfl⟩ := hg
    obtain ⟨its, rv, p⟩ := inv_B I hx
    obtain ⟨its', rv', p'⟩ := inv_B I hy
    have hh : X.A.in1.handled = none := I.ok.hd hc
    have W := WalksT.zipD2 (prog := X.prog) (w := X.w) (A := X.A) S (draws_B b hh i1 a n1 its.toArray) (draws_B c hh i2 a' n2 its'.toArray)
    have en : min xs.length ys.length = min its.toArray.size its'.toArray.size := by rw [rv.length, rv'.length]; simp
    rw [en] at g4 g5
    refine W.done s _ E ⟨g1, g2, g3, ⟨g4, p⟩, g5, p'⟩ fun h' tk fr => ⟨rfl, I.turnedL (t' := tk) (ch := [z, TI, TO, i1, i2]) (fun q o hq e => ?_) hf⟩
    exact fr q o (fun m => hq (sub45 m)) e
  self := fun A i s Q E st k => wpAny_pyIter_zip st.1 k
/-- zip(v, v'), each a list or a tuple -/
def iZip2 (K : PySem.W.Frag) (ta : TA) : TI := fun σ H R => ta σ H fun vs H1 => ∃ b c a a' xs ys, vs = [.ref a, .ref a'] ∧ SqB K b H1 a xs ∧ SqB K c H1 a' ys ∧ R (It2 K b c a a') H1
theorem pi_zip2 {X : Cx} {e e2 : Expr} {ta : TA} {p pos tpos : Pos} {elts : List Expr} {kk : Nat} (hg : Gl X "zip") (hm : X.mg "zip" = none) (ha : PA X [e, e2] ta)
    (hs : starEach [e, e2] X.env = (false, eval e X.env) :: starEach [e2] X.env) (hpl : (backTo pos (starEach [e2] X.env)).any (·.1) = false) :
    PI X (.Tuple elts kk tpos) (.Call (.Name "zip" p) [e, e2] [] pos) (iZip2 X.K ta) := by
  refine ⟨fun pins s σ H R I h => ?_⟩
  refine Call_ (ld_blt I hg hm PyProof.Rows.boot_zip (PyProof.Rows.callWith_type1 (thn (ha.run pos pins s σ H _ I h) fun us s1 ⟨vs, H1, I1, r1, q1⟩ => ?_) hs hpl))
  obtain ⟨b, c, a, a', xs, ys, ex, hx, hy, q⟩ := q1
  subst ex
  cases r1 with
  | cons r rr =>
    cases rr with
    | cons r' rr =>
      cases rr
      cases r
      cases r'
      obtain ⟨its, rv, p1⟩ := inv_B I1 hx
      obtain ⟨its', rv', p2⟩ := inv_B I1 hy
      have l1 := p1.lt
      have l2 := p2.lt
      refine zip_begins2 (begins_B b a its.toArray) (begins_B c a' its'.toArray) p1 p2 fun h' g1 g2 g3 g4 g5 sz hk => wpAny_pyIter_zip g1 ?_
      refine ⟨s1.heap.objs.size + 4, [s1.heap.objs.size + 4, s1.heap.objs.size + 2, s1.heap.objs.size + 3, s1.heap.objs.size, s1.heap.objs.size + 1], _, _, H1, rfl, I1.kept (t' := s1.toks) hk,
        turn_zip2 (Nat.ne_of_lt l1) (Nat.ne_of_lt (Nat.lt_succ_of_lt l2)) (zip_sep2 (fp1 := [a]) (fp2 := [a']) (by simpa using l1) (by simpa using l2)), ⟨g1, g2, ⟨_, _, g3⟩, itO_itr g4, itO_itr g5⟩, fun w hw => ?_, q⟩
      have le : s1.heap.objs.size ≤ w := by
        simp only [List.mem_cons, List.not_mem_nil, or_false] at hw
        rcases hw with z | z | z | z | z <;> rw [z] <;> first | exact Nat.le_refl _ | exact Nat.le_add_right _ _
      exact I1.fpOk le (I1.hok.fresh le)
/-! ### three -/
theorem sub56 {q z TI TO i1 i2 i3 : Addr} (m : q ∈ [z, TO, i1, i2, i3]) : q ∈ [z, TI, TO, i1, i2, i3] := by
  simp only [List.mem_cons, List.not_mem_nil, or_false] at m ⊢
  rcases m with h | h | h | h | h <;> simp [h]
def It3 (K : PySem.W.Frag) (b c d : Bool) (a a' a'' : Addr) : It where
  go := fun i H => ∃ (xs ys zs : List V) (x y v : V), SqB K b H a xs ∧ SqB K c H a' ys ∧ SqB K d H a'' zs ∧ xs[i]? = some x ∧ ys[i]? = some y ∧ zs[i]? = some v
  yld := fun i H v H' => ∃ T x y t, v = .ref T ∧ H T = none ∧ H' = upd H T (.tup [x, y, t]) ∧ (∀ xs, SqB K b H a xs → xs[i]? = some x) ∧ (∀ ys, SqB K c H a' ys → ys[i]? = some y) ∧ ∀ zs, SqB K d H a'' zs → zs[i]? = some t
  stop := fun i H => ∃ xs ys zs : List V, SqB K b H a xs ∧ SqB K c H a' ys ∧ SqB K d H a'' zs ∧ min (min xs.length ys.length) zs.length = i
theorem turn_zip3 {P : Program} {w : World} {K : PySem.W.Frag} {elts : List Expr} {kk : Nat} {tpos : Pos} {b c d : Bool} {a a' a'' z TI TO i1 i2 i3 : Addr} (n1 : a ≠ i1) (n2 : a' ≠ i2) (n3 : a'' ≠ i3) (S : ZipSep3 z TI TO i1 i2 i3 [i1, a] [i2, a'] [i3, a'']) :
    Turn P w K (.Tuple elts kk tpos) (It3 K b c d a a' a'') [z, TI, TO, i1, i2, i3] z (fun i h => IsZip h z TI TO .none ∧ IsTupOf3 h TI (.ref i1) (.ref i2) (.ref i3) ∧ (∃ x y v, IsTupOf3 h TO x y v) ∧ ItrB b h i1 a i ∧ ItrB c h i2 a' i ∧ ItrB d h i3 a'' i) where
  mem := by simp
  obj := fun i h st q hq => by
    obtain ⟨g1, g2, ⟨x, y, v, g3⟩, g4, g5, g6⟩ := st
    simp only [List.mem_cons, List.not_mem_nil, or_false] at hq
    rcases hq with rfl | rfl | rfl | rfl | rfl | rfl
    · exact ⟨_, g1, fun v q => nomatch q⟩
    · exact ⟨_, g2, fun v q => nomatch q⟩
    · exact ⟨_, g3, fun v q => nomatch q⟩
    · exact g4.obj
    · exact g5.obj
    · exact g6.obj
  keep := fun i h h' st k => by
    obtain ⟨g1, g2, ⟨x, y, v, g3⟩, g4, g5, g6⟩ := st
    exact ⟨k z (by simp) _ g1, k TI (by simp) _ g2, ⟨x, y, v, k TO (by simp) _ g3⟩, g4.at fun o q => k i1 (by simp) o q, g5.at fun o q => k i2 (by simp) o q, g6.at fun o q => k i3 (by simp) o q⟩
  item := by
    intro X hP hw hK hc i pins s σ H E I hf st hg
    subst hP hw hK
    have hin : ∀ q ∈ [z, TI, TO, i1, i2, i3], q < s.heap.objs.size := fun q hq => by
      obtain ⟨g1, g2, ⟨x, y, v, g3⟩, g4, g5, g6⟩ := st
      simp only [List.mem_cons, List.not_mem_nil, or_false] at hq
      rcases hq with rfl | rfl | rfl | rfl | rfl | rfl
      · exact Heap.lt_size g1
      · exact Heap.lt_size g2
      · exact Heap.lt_size g3
      · obtain ⟨o, ho, _⟩ := g4.obj; exact Heap.lt_size ho
      · obtain ⟨o, ho, _⟩ := g5.obj; exact Heap.lt_size ho
      · obtain ⟨o, ho, _⟩ := g6.obj; exact Heap.lt_size ho
    obtain ⟨g1, g2, g3, g4, g5, g6⟩ := st
    obtain ⟨xs, ys, zs, x, y, t, hx, hy, hz, ex, ey, ez⟩ := hg
    obtain ⟨its, rv, p⟩ := inv_B I hx
    obtain ⟨its', rv', p'⟩ := inv_B I hy
    obtain ⟨its2, rv2, p2⟩ := inv_B I hz
    obtain ⟨u, hu, ru⟩ := rv.get ex
    obtain ⟨u', hu', ru'⟩ := rv'.get ey
    obtain ⟨u2, hu2, ru2⟩ := rv2.get ez
    have hh : X.A.in1.handled = none := I.ok.hd hc
    have l1 : i < its.toArray.size := by simpa using (List.getElem?_eq_some_iff.mp hu).1
    have l2 : i < its'.toArray.size := by simpa using (List.getElem?_eq_some_iff.mp hu').1
    have l3 : i < its2.toArray.size := by simpa using (List.getElem?_eq_some_iff.mp hu2).1
    have W := WalksT.zipD3 (prog := X.prog) (w := X.w) (A := X.A) S (draws_B b hh i1 a n1 its.toArray) (draws_B c hh i2 a' n2 its'.toArray) (draws_B d hh i3 a'' n3 its2.toArray)
    refine W.item i s _ E (by omega) ⟨g1, g2, g3, ⟨g4, p⟩, ⟨g5, p'⟩, g6, p2⟩ fun T vals h' tk hP hT hU mid fr => ?_
    obtain ⟨v1, v2, v3, e1, e2, e3, rfl⟩ := hP
    obtain rfl : u = v1 := by
      have : its.toArray[i]? = some u := by simpa using hu
      rw [this] at e1; exact Option.some.inj e1
    obtain rfl : u' = v2 := by
      have : its'.toArray[i]? = some u' := by simpa using hu'
      rw [this] at e2; exact Option.some.inj e2
    obtain rfl : u2 = v3 := by
      have : its2.toArray[i]? = some u2 := by simpa using hu2
      rw [this] at e3; exact Option.some.inj e3
    have ap := W.apart i T h' mid
    refine ⟨_, rfl, W.go elts kk tpos i T { s with heap := h', toks := tk } _ E mid fun h'' st'' fr' => ?_⟩
    have hU2 : h''.IsTuple T #[u, u', u2] := hU.at fun o e => fr' T o ap e
    have nw : ObjOk X.prog X.w (upd H T (.tup [x, y, t])) h'' T (.tup [x, y, t]) := ⟨by show 3 ≤ sizeLine; decide, [u, u', u2], .cons ru (.cons ru' (.cons ru2 .nil)), hU2⟩
    have J1 : Inv X pins σ (upd H T (.tup [x, y, t])) { s with heap := h'', toks := tk } := I.turnedNew (t' := tk) (ch := [z, TI, TO, i1, i2, i3]) (fun q o hq e => by
      have nq : q ∉ [z, TO, i1, i2, i3] := fun m => hq (sub56 m)
      exact fr' q o nq (fr q o nq e)) hf hT nw
    refine ⟨.ref T, _, J1, rfl, ⟨T, x, y, t, rfl, I.hok.fresh hT, rfl, fun l hl => by rw [inj_B I hl hx]; exact ex, fun l hl => by rw [inj_B I hl hy]; exact ey, fun l hl => by rw [inj_B I hl hz]; exact ez⟩, ⟨st''.1, st''.2.1, st''.2.2.1, st''.2.2.2.1.1, st''.2.2.2.2.1.1, st''.2.2.2.2.2.1⟩, fun q hq => ?_⟩
    have lt := hin q hq
    rw [upd_ne (Nat.ne_of_lt (Nat.lt_of_lt_of_le lt hT))]
    exact (hf q hq).1
  done := by
    intro X hP hw hK hc i pins s σ H E I hf st hg
    subst hP hw hK
    obtain ⟨g1, g2, g3, g4, g5, g6⟩ := st
    obtain ⟨xs, ys, zs, hx, hy, hz, rfl⟩ := hg
    obtain ⟨its, rv, p⟩ := inv_B I hx
    obtain ⟨its', rv', p'⟩ := inv_B I hy
    obtain ⟨its2, rv2, p2⟩ := inv_B I hz
    have hh : X.A.in1.handled = none := I.ok.hd hc
    have W := WalksT.zipD3 (prog := X.prog) (w := X.w) (A := X.A) S (draws_B b hh i1 a n1 its.toArray) (draws_B c hh i2 a' n2 its'.toArray) (draws_B d hh i3 a'' n3 its2.toArray)
    have en : min (min xs.length ys.length) zs.length = min (min its.toArray.size its'.toArray.size) its2.toArray.size := by rw [rv.length, rv'.length, rv2.length]; simp
    rw [en] at g4 g5 g6
    refine W.done s _ E ⟨g1, g2, g3, ⟨g4, p⟩, ⟨g5, p'⟩, g6, p2⟩ fun h' tk fr => ⟨rfl, I.turnedL (t' := tk) (ch := [z, TI, TO, i1, i2, i3]) (fun q o hq e => ?_) hf⟩
    exact fr q o (fun m => hq (sub56 m)) e
  self := fun A i s Q E st k => wpAny_pyIter_zip st.1 k
def iZip3 (K : PySem.W.Frag) (ta : TA) : TI := fun σ H R => ta σ H fun vs H1 => ∃ b c d a a' a'' xs ys zs, vs = [.ref a, .ref a', .ref a''] ∧ SqB K b H1 a xs ∧ SqB K c H1 a' ys ∧ SqB K d H1 a'' zs ∧ R (It3 K b c d a a' a'') H1
theorem pi_zip3 {X : Cx} {e e2 e3 : Expr} {ta : TA} {p pos tpos : Pos} {elts : List Expr} {kk : Nat} (hg : Gl X "zip") (hm : X.mg "zip" = none) (ha : PA X [e, e2, e3] ta)
    (hs : starEach [e, e2, e3] X.env = (false, eval e X.env) :: starEach [e2, e3] X.env) (hpl : (backTo pos (starEach [e2, e3] X.env)).any (·.1) = false) :
    PI X (.Tuple elts kk tpos) (.Call (.Name "zip" p) [e, e2, e3] [] pos) (iZip3 X.K ta) := by
  refine ⟨fun pins s σ H R I h => ?_⟩
  refine Call_ (ld_blt I hg hm PyProof.Rows.boot_zip (PyProof.Rows.callWith_type1 (thn (ha.run pos pins s σ H _ I h) fun us s1 ⟨vs, H1, I1, r1, q1⟩ => ?_) hs hpl))
  obtain ⟨b, c, d, a, a', a'', xs, ys, zs, ex, hx, hy, hz, q⟩ := q1
  subst ex
  cases r1 with
  | cons r rr =>
    cases rr with
    | cons r' rr =>
      cases rr with
      | cons r2 rr =>
        cases rr
        cases r
        cases r'
        cases r2
        obtain ⟨its, rv, p1⟩ := inv_B I1 hx
        obtain ⟨its', rv', p2⟩ := inv_B I1 hy
        obtain ⟨its2, rv2, p3⟩ := inv_B I1 hz
        have l1 := p1.lt
        have l2 := p2.lt
        have l3 := p3.lt
        refine zip_begins3 (begins_B b a its.toArray) (begins_B c a' its'.toArray) (begins_B d a'' its2.toArray) p1 p2 p3 fun h' g1 g2 g3 g4 g5 g6 sz hk => wpAny_pyIter_zip g1 ?_
        refine ⟨s1.heap.objs.size + 5, [s1.heap.objs.size + 5, s1.heap.objs.size + 3, s1.heap.objs.size + 4, s1.heap.objs.size, s1.heap.objs.size + 1, s1.heap.objs.size + 2], _, _, H1, rfl, I1.kept (t' := s1.toks) hk,
          turn_zip3 (Nat.ne_of_lt l1) (Nat.ne_of_lt (Nat.lt_succ_of_lt l2)) (Nat.ne_of_lt (Nat.lt_succ_of_lt (Nat.lt_succ_of_lt l3))) (zip_sep3 (fp1 := [a]) (fp2 := [a']) (fp3 := [a'']) (by simpa using l1) (by simpa using l2) (by simpa using l3)), ⟨g1, g2, ⟨_, _, _, g3⟩, itO_itr g4, itO_itr g5, itO_itr g6⟩, fun w hw => ?_, q⟩
        have le : s1.heap.objs.size ≤ w := by
          simp only [List.mem_cons, List.not_mem_nil, or_false] at hw
          rcases hw with z | z | z | z | z | z <;> rw [z] <;> first | exact Nat.le_refl _ | exact Nat.le_add_right _ _
        exact I1.fpOk le (I1.hok.fresh le)
end GV
set_option Elab.async false
set_option linter.all false
set_option maxRecDepth 100000
set_option maxHeartbeats 4000000
/-! GE3: slices backwards; sorted. -/
namespace GV
open PySem PySem.Spec PyProof.Rows L2 HT
/-- how many items xs[lo::-1] has -/
def cntB (n : Nat) : Option Nat → Nat
  | none => n
  | some k => min (k + 1) n
theorem pick_take {α : Type} (xs : Array α) (k : Nat) : (List.range k).filterMap (xs[·]?) = xs.toList.take k := by
  have h := pick_run xs 0 k
  have e : (List.range k).map (0 + ·) = List.range k := by
    rw [show ((0 + ·) : Nat → Nat) = id from funext fun k => Nat.zero_add k, List.map_id]
  rw [e, List.drop_zero] at h
  exact h
theorem rv_bounds (n : Nat) (lo : Option Nat) : sliceBounds (lo.map fun k => (k : Int)) none (some (-1)) n = ((cntB n lo : Int) - 1, -1, -1) := by
  cases lo with
  | none => rfl
  | some k =>
    simp only [sliceBounds, cntB, Option.map_some, Option.getD_some]
    have h1 : ¬ ((-1 : Int) > 0) := by decide
    have h2 : ¬ ((k : Int) < 0) := by omega
    simp only [h1, h2, if_false]
    refine Prod.ext ?_ rfl
    show max (-1) (min (k : Int) ((n : Int) - 1)) = ((min (k + 1) n : Nat) : Int) - 1
    omega
theorem rv_pick (items : Array Value) (lo : Option Nat) : slicePick items (lo.map fun k => (k : Int)) none (some (-1)) = ((items.toList.take (cntB items.size lo)).reverse).toArray := by
  unfold slicePick
  rw [rv_bounds]
  show ((sliceRange ((cntB items.size lo : Int) - 1) (-1) (-1)).filterMap (items[·]?)).toArray = _
  rw [PySem.W.krv_sliceRange, PySem.W.krv_range, List.filterMap_reverse, pick_take]
theorem rv_adjust (n : Nat) (lo : Option Nat) : Builtin.Slice.sliceAdjust (lo.map fun k => (k : Int)) none (-1) (n : Int) = ((cntB n lo : Int) - 1, -1) := by
  have h1 : ((-1 : Int) < 0) := by decide
  unfold Builtin.Slice.sliceAdjust
  simp only [h1, if_true]
  cases lo with
  | none => rfl
  | some k =>
    have h2 : ¬ ((k : Int) < 0) := by omega
    simp only [Option.map_some, h2, if_false, cntB]
    refine Prod.ext ?_ rfl
    show min (k : Int) ((n : Int) - 1) = ((min (k + 1) n : Nat) : Int) - 1
    omega
theorem rv_places (c : Nat) : Builtin.Slice.slicePlaces ((c : Int) - 1) (-1) (-1) = c := by
  unfold Builtin.Slice.slicePlaces
  have h1 : ¬ ((-1 : Int) > 0) := by decide
  simp only [h1, if_false]
  have e : (- -1 : Int) = 1 := by decide
  rw [e, Int.ediv_one]
  split <;> omega
theorem rv_items (xs : Array Value) (c : Nat) : ((List.range c).filterMap fun (k : Nat) => xs[(((c : Int) - 1) + (k : Int) * (-1)).toNat]?).toArray = ((xs.toList.take c).reverse).toArray := by
  have e : ((List.range c).filterMap fun (k : Nat) => xs[(((c : Int) - 1) + (k : Int) * (-1)).toNat]?) = (((List.range c).map fun k => c - 1 - k)).filterMap (xs[·]?) := by
    rw [List.filterMap_map]
    have hf : (fun (k : Nat) => xs[(((c : Int) - 1) + (k : Int) * (-1)).toNat]?) = (fun x => xs[x]?) ∘ fun k => c - 1 - k := by
      funext k
      show xs[(((c : Int) - 1) + (k : Int) * (-1)).toNat]? = xs[c - 1 - k]?
      have : (((c : Int) - 1) + (k : Int) * (-1)).toNat = c - 1 - k := by omega
      rw [this]
    rw [hf]
  rw [e, PySem.W.krv_range, List.filterMap_reverse, pick_take]
section
variable {prog : Program} {w : World} {A : Around} {E : Value → Shared → Prop} {s : Shared}
theorem rv_applied {sl : Addr} {vl vu vs : Value} {lo : Option Nat} {n : Nat} {Q : Int × Int × Nat → Shared → Prop} (hs : s.heap.IsSliceOf sl vl vu vs) (pl : IsPart vl (lo.map fun k => (k : Int))) (pu : IsPart vu none) (ps : IsPart vs (some (-1)))
    (h : Q (((cntB n lo : Nat) : Int) - 1, -1, cntB n lo) s) : wpAny (model prog w) A (Builtin.Slice.sliceApplied (.ref sl) (pure (n : Int))) Q E s := by
  obtain ⟨os, hos, hcs, hds⟩ := id hs
  unfold Builtin.Slice.sliceApplied Builtin.Slice.sliceFields
  refine wpAny_bind (wpAny_bind (wpAny_field hos hds (x := vl) rfl (wpAny_bind (wpAny_field hos hds (x := vu) rfl (wpAny_bind (wpAny_field hos hds (x := vs) rfl (wpAny_pure ?_)))))))
  refine wpAny_bind (slicePart_ ps ?_)
  show wpAny _ _ (if ((-1 : Int) == 0) = true then _ else _) _ _ s
  rw [if_neg (by decide)]
  refine wpAny_bind (slicePart_ pl (wpAny_bind (slicePart_ pu (wpAny_bind (wpAny_pure ?_)))))
  show wpAny _ _ (match Builtin.Slice.sliceAdjust (lo.map fun k => (k : Int)) none (-1) (n : Int) with | (lo, hi) => pure (lo, (-1 : Int), Builtin.Slice.slicePlaces lo hi (-1))) _ _ s
  rw [rv_adjust n lo]
  show wpAny _ _ (pure (((cntB n lo : Nat) : Int) - 1, (-1 : Int), Builtin.Slice.slicePlaces (((cntB n lo : Nat) : Int) - 1) (-1) (-1))) _ _ s
  rw [rv_places]
  exact wpAny_pure h
theorem rv_tuple {t sl : Addr} {items : Array Value} {vl vu vs : Value} {lo : Option Nat} {Q : Value → Shared → Prop} (ht : IsTup s.heap t items) (hs : s.heap.IsSliceOf sl vl vu vs) (pl : IsPart vl (lo.map fun k => (k : Int))) (pu : IsPart vu none) (ps : IsPart vs (some (-1)))
    (h : Q (.ref s.heap.objs.size) { s with heap := s.heap.push { cls := .type "tuple", data := .seq ((items.toList.take (cntB items.size lo)).reverse).toArray } })
    (hsz : items.size ≤ sizeLine) : wpAny (model prog w) A (getItem (.ref t) (.ref sl)) Q E s := by
  have htake : sizeOk (.seq ((items.toList.take (cntB items.size lo)).reverse).toArray) := by
    show ((items.toList.take (cntB items.size lo)).reverse).toArray.size ≤ sizeLine
    rw [List.size_toArray, List.length_reverse, List.length_take, Array.length_toList]
    omega
  obtain ⟨os, hos, hcs, hds⟩ := id hs
  have hTs : s.TypeIs (.ref sl) "slice" := ⟨os, hos, hcs⟩
  unfold getItem
  try with_reducible refine wpAny_holding ?_
  first | refine wpAny_bind (wpAny_pure ?_) | skip
  refine wpAny_bind (wpAny_sequenceKey ht.typeIs (by decide) ?_)
  refine wpAny_bind (wpAny_callSpecial?_slot (name := Str.ofString "__getitem__") ht.typeIs PyProof.Rows.slot_tuple_getitem
    (wpAny_call_entry PyProof.Rows.slot_tuple_getitem ht.typeIs entry_tuple_getitem ?_ (args_tuple_getitem _ _)))
  show wpAny _ _ (Builtin.Tuple.tupleItemsOf (.ref t) >>= _) _ _ s
  refine wpAny_bind (tupleItemsOf_ ht ?_)
  refine wpAny_bind (wpAny_typeOf hTs ?_)
  rw [if_pos (by decide)]
  refine wpAny_bind (rv_applied hs pl pu ps ?_)
  show wpAny _ _ (if ((((cntB items.size lo : Nat) : Int) - 1) == 0 && (-1 : Int) == 1 && (cntB items.size lo) == items.size) = true then _ else _) _ _ s
  rw [if_neg (by simp), rv_items]
  first
    | exact wpAny_bind (m := Builtin.Tuple.tupleExact _) (wpAny_newObj_type (wpAny_pure ⟨_, rfl, wpAny_pure h⟩) htake)
    | exact wpAny_bind (m := Builtin.Tuple.tupleExact _) (wpAny_newObj_type (wpAny_bind (wpAny_pure (wpAny_pure ⟨_, rfl, wpAny_pure h⟩))) htake)
    | exact wpAny_bind (wpAny_bind (m := Builtin.Tuple.tupleExact _) (wpAny_newObj_type (wpAny_pure (wpAny_pure ⟨_, rfl, wpAny_pure h⟩)) htake))
    | exact wpAny_bind (wpAny_bind (m := Builtin.Tuple.tupleExact _) (wpAny_newObj_type (wpAny_pure ⟨_, rfl, wpAny_pure h⟩) htake))
end
section
variable {X : Cx}
def revV (lo : Option Nat) (xs : List V) : List V := (xs.take (cntB xs.length lo)).reverse
def tRevA (K : PySem.W.Frag) (lo : Option Nat) (te : TE) : TE := fun σ H Q => te σ H fun x H1 => ∃ a xs, x = .ref a ∧
  ((SqL K H1 a xs ∧ ∀ p, H1 p = none → Q (.ref p) (upd H1 p (.lst (revV lo xs)))) ∨ (SqT K H1 a xs ∧ ∀ p, H1 p = none → Q (.ref p) (upd H1 p (.tup (revV lo xs)))))
def tLo : Option Nat → TO
  | none => tNoPart
  | some k => tPart (tC (.int (k : Int)))
theorem pe_revA {e : Expr} {te : TE} {k : Nat} {p1 p2 p3 pos : Pos} {lx : Option Expr} (lo : Option Nat) (hlo : PO X lx (tLo lo)) (he : PE X e te) : PE X (.Subscript e (.Slice lx none (some (.UnaryOp .USub (.Constant (.int 1) k p1) p2)) p3) pos) (tRevA X.K lo te) := by
  refine ⟨fun pins s σ H Q I h => ?_⟩
  refine Subscript_ (thn (he.run pins s σ H _ I h) fun v s1 ⟨x, H1, I1, r1, q1⟩ => ?_)
  obtain ⟨a, xs, ex, q⟩ := q1
  subst ex
  cases r1
  have hst : PO X (some (.UnaryOp .USub (.Constant (.int 1) k p1) p2)) (tPart (tUn (rU fun i => .int (-i)) (tC (.int 1)))) := po_some (pe_un un_neg pe_int)
  have hl0 : tLo lo σ H1 (fun o H2 => o = (lo.map fun k => (k : Int)) ∧ H2 = H1) := by
    cases lo with
    | none => exact ⟨rfl, rfl⟩
    | some k => exact ⟨_, rfl, rfl, rfl⟩
  refine wpAny_Slice (thn (hlo.run pins s1 σ H1 _ I1 hl0) fun vl s2 ⟨l, H2, I2, pl, el, e2⟩ => ?_)
  subst el e2
  refine thn (po_none.run pins s2 σ H2 (fun o H3 => o = none ∧ H3 = H2) I2 ⟨rfl, rfl⟩) fun vu s3 ⟨u, H3, I3, pu, eu, e3⟩ => ?_
  subst eu e3
  refine thn (hst.run pins s3 σ H3 (fun o H4 => o = some (-1) ∧ H4 = H3) I3 ⟨1, rfl, -1, rfl, rfl, rfl⟩) fun vs s4 ⟨o, H4, I4, ps, eo, e4⟩ => ?_
  subst eo e4
  have I5 : Inv X pins σ H4 { s4 with heap := s4.heap.push { cls := .type "slice", data := .fields #[vl, vu, vs] } } := I4.kept (t' := s4.toks) fun b ob q => Heap.get?_push_of_some _ q
  show wpAny (model X.prog X.w) X.A (subscriptTail e (.Slice lx none (some (.UnaryOp .USub (.Constant (.int 1) k p1) p2)) p3) (.ref a) (.ref s4.heap.objs.size)) (EP X pins σ Q) X.xe { s4 with heap := s4.heap.push { cls := .type "slice", data := .fields #[vl, vu, vs] } }
  have hops : ∃ ops, subscripted (.Slice lx none (some (.UnaryOp .USub (.Constant (.int 1) k p1) p2)) p3) false (.ref a) (.ref s4.heap.objs.size) = operate ops (getItem (.ref a) (.ref s4.heap.objs.size)) := by
    first | exact ⟨[.ref a, .ref s4.heap.objs.size], by with_unfolding_all rfl⟩ | (cases lx <;> exact ⟨[.ref a, .ref s4.heap.objs.size], by with_unfolding_all rfl⟩)
  obtain ⟨ops, hops⟩ := hops
  rcases q with ⟨hx, q⟩ | ⟨hx, q⟩
  · obtain ⟨its, r, ht, hz⟩ := I5.list hx
    have hlen := r.length
    refine tail_any (ops := ops) ht.isList.typeIs (PySem.slot_list_getitem.lookup) ?_ hops
    refine wpAny_getItem_list_slice ht.isList (Heap.IsSliceOf.new _ vl vu vs) pl pu ps (by decide) ?_ (by rw [List.size_toArray]; omega)
    rw [rv_pick]
    refine ⟨.ref _, _, I5.laid (t' := s4.toks) (o := .lst (revV lo xs)) (fun b ob q => Heap.get?_push_of_some _ q) (Nat.le_refl _) ?_, rfl, q _ (I5.hok.fresh (Nat.le_refl _))⟩
    refine ⟨by unfold revV; rw [List.length_reverse, List.length_take]; omega, _, 0, ?_, Heap.get?_push_size _ rfl⟩
    unfold revV
    rw [hlen]
    exact (r.take _).reverse
  · obtain ⟨its, r, ht, hz⟩ := I5.tuple hx
    have hlen := r.length
    refine tail_any (ops := ops) ht.typeIs (PyProof.Rows.slot_tuple_getitem.lookup) ?_ hops
    refine rv_tuple ht (Heap.IsSliceOf.new _ vl vu vs) pl pu ps ?_ (by rw [List.size_toArray]; omega)
    refine ⟨.ref _, _, I5.laid (t' := s4.toks) (o := .tup (revV lo xs)) (fun b ob q => Heap.get?_push_of_some _ q) (Nat.le_refl _) ?_, rfl, q _ (I5.hok.fresh (Nat.le_refl _))⟩
    refine ⟨by unfold revV; rw [List.length_reverse, List.length_take]; omega, _, ?_, PyProof.Rows.IsTup.new _ _⟩
    unfold revV
    rw [hlen]
    exact (r.take _).reverse
/-! ### sorted -/
def rSortD (K : PySem.W.Frag) : List V → Hp → VK → Prop := fun vs H Q => ∃ (a : Addr) (bs : List (V × D)), vs = [V.ref a] ∧ SqL K H a (bs.map (·.1)) ∧ (∀ b ∈ bs, Dp K H b.1 b.2.py ∧ b.2.py.depth ≤ 50) ∧
  PySem.W.AllAlike (bs.map fun b => b.2.py) ∧ PySem.W.Sortable (bs.map fun b => b.2.py) ∧ ∀ p, H p = none → Q (.ref p) (upd H p (.lst ((bs.mergeSort (PySem.W.dataLe false fun b => b.2.py)).map (·.1))))
theorem each_rel {xs : List (V × D)} : ∀ {us : List Value}, Vals (xs.map (·.1)) us → PySem.W.EachIs (fun u (b : V × D) => RelV b.1 u) us xs := by
  induction xs with
  | nil => intro us r; cases r; exact .nil
  | cons x xs ih => intro us r; cases r with | cons a b => exact .cons a (ih b)
theorem rel_each {xs : List (V × D)} : ∀ {us : List Value}, PySem.W.EachIs (fun u (b : V × D) => RelV b.1 u) us xs → Vals (xs.map (·.1)) us := by
  induction xs with
  | nil => intro us r; cases r; exact .nil
  | cons x xs ih => intro us r; cases r with | cons a b => exact .cons a (ih b)
theorem cr_sortD (hu : X.A.units + 65 < cLine) : CallR X (.builtin "sorted") (rSortD X.K) := by
  intro pins s σ H vs us Q I r h
  obtain ⟨a, bs, rfl, hs, hd, hal, hso, q⟩ := h
  obtain ⟨its, rv, hl, hz⟩ := I.list hs
  rw [Vals.ref1 r]
  have e := each_rel rv
  have er : PySem.W.EachIs (fun u (b : V × D) => ∃ as, Reads s.heap u b.2.py as) its bs := by
    have : ∀ {us : List Value} {xs : List (V × D)}, PySem.W.EachIs (fun u (b : V × D) => RelV b.1 u) us xs → (∀ b ∈ xs, b ∈ bs) → PySem.W.EachIs (fun u (b : V × D) => ∃ as, Reads s.heap u b.2.py as) us xs := by
      intro us xs h
      induction h with
      | nil => intro _; exact .nil
      | cons h1 _ ih => intro hb; exact .cons (Dp.reads I _ _ _ (hd _ (hb _ (by simp))).1 h1) (ih fun b m => hb b (by simp [m]))
    exact this e fun b m => m
  have hlen : bs.length ≤ sizeLine := by simpa using hz
  refine PySem.W.sorted_data hl.isList e er hal hso hlen (fun b hb => by have := (hd b hb).2; omega) fun out ho eo => ?_
  obtain ⟨ep, he'⟩ := PyProof.Rows.sortedAll_at s.heap its out.toArray
  refine ⟨.ref _, _, I.laid (t' := s.toks) (o := .lst ((bs.mergeSort (PySem.W.dataLe false fun b => b.2.py)).map (·.1))) (fun _ _ => PyProof.Rows.sortedAll_old) (Nat.le_succ _) ⟨?_, out, ep, rel_each eo, he'⟩, rfl, q _ (I.hok.fresh (Nat.le_succ _))⟩
  rw [List.length_map, List.length_mergeSort]
  exact hlen
end
end GV
set_option Elab.async false
set_option linter.all false
set_option maxRecDepth 100000
set_option maxHeartbeats 4000000
/-! GV6: operators: from the evaluator's word to the layer's readings. -/
namespace GV
open PySem L2
def BOp.py : BOp → Operator
  | .add => .Add | .sub => .Sub | .mul => .Mult | .fdiv => .FloorDiv | .mod => .Mod | .pow => .Pow
def COp.py : COp → CmpOp
  | .eq => .Eq | .ne => .NotEq | .lt => .Lt | .le => .LtE | .gt => .Gt | .ge => .GtE | .isin => .In | .notin => .NotIn | .is_ => .Is | .isnot => .IsNot
def rStrA : R2 := fun x y H Q => ∃ i j, x = .str i ∧ y = .str j ∧ i.length + j.length ≤ sizeLine ∧ Q (.str (i ++ j)) H
def rBin (K : PySem.W.Frag) : BOp → R2
  | .add => fun x y H Q => rI0 (fun i j => .int (i + j)) x y H Q ∨ rStrA x y H Q ∨ rCatA K x y H Q ∨ rCatR x y H Q
  | .sub => rI0 fun i j => .int (i - j)
  | .mul => fun x y H Q => rI CMul (fun i j => .int (i * j)) x y H Q ∨ rRepTA K x y H Q ∨ rRepR x y H Q
  | .fdiv => rI CDivW fun i j => .int (i / j)
  | .mod => rI (fun _ j => 0 < j) fun i j => .int (i % j)
  | .pow => rI CPow fun i j => .int (i ^ j.toNat)
theorem op_bin {X : Cx} (o : BOp) : OpR X (binaryOp o.py) (rBin X.K o) := by
  cases o with
  | add => exact op_add.or (op_add_str.or (op_catA.or op_catR))
  | sub => exact op_sub
  | mul => exact op_mul.or (op_repTA.or op_repR)
  | fdiv => exact op_fdivW
  | mod => exact op_mod
  | pow => exact op_pow
theorem small_le {n : Nat} (h : small n = true) : n ≤ sizeLine := Nat.le_trans (of_decide_eq_true h) (by decide)
theorem small_lt {n : Nat} (h : small n = true) : n < sizeLine := Nat.lt_of_le_of_lt (of_decide_eq_true h) (by decide)
section
variable {A : Stat} {W W0 : Wd} {H H0 : Hp} {h : MH} {Wx : WX} {σ : L2.St} {Q : VK}
/-- a value without a heap -/
theorem done_v {d : D} {v : V} (w : WOkA A W h H) (p : PostR A W H Wx σ (TR A H Q) (.ok (.v d) h)) (r : Rep A.K W H v d) : Q v H := p W H (Ext.refl W H) w v r
/-- a new tuple -/
theorem done_tup {vs : List V} {ds : List D} (w : WOkA A W h H) (p : PostR A W H Wx σ (TR A H Q) (.ok (.v (.tup ds)) h)) (r : RepL A.K W H vs ds) : ∀ q, H q = none → Q (.ref q) (upd H q (.tup vs)) := fun q n =>
  p W (upd H q (.tup vs)) (Ext.laid n) (w.laid n) (.ref q) (.tup (SqT.of upd_same) (RepL.ext w (Ext.laid n) r))
/-- a new list -/
theorem done_nl {vs : List V} {ds : List D} (w : WOkA A W h H) (p : PostR A W H Wx σ (TR A H Q) (.ok (.nl ds) h)) (r : RepL A.K W H vs ds) : ∀ q, H q = none → Q (.ref q) (upd H q (.lst vs)) := fun q n => by
  refine p W (upd H q (.lst vs)) (Ext.laid n) (w.laid n) (.ref q) ⟨q, vs, rfl, n, upd_same, RepL.ext w (Ext.laid n) r, fun z => w.frz q z n, fun z => ?_⟩
  rcases w.cov q z with ⟨xs, e⟩ | ⟨C, dx, fs, e⟩ <;> rw [n] at e <;> cases e
theorem log2_lt_9000 {j : Int} (h : 0 < j ∧ j < 2 ^ 2000) : j.natAbs.log2 < 9000 := by
  have h1 : j.natAbs < 2 ^ 2000 := by
    have := h.2
    omega
  have h2 := PySem.Flt.log2_lt_of (by decide : 0 < 2000) h1
  omega
theorem bin_ints {o : BOp} {i j : Int} (w : WOkA A W h H) (p : PostR A W H Wx σ (TR A H Q) (O.of h ((binI o i j).map fun k => R.v (.int k)))) : rBin A.K o (.int i) (.int j) H Q := by
  cases o with
  | add => exact .inl ⟨i, j, rfl, rfl, done_v w p (.int _)⟩
  | sub => exact ⟨i, j, rfl, rfl, done_v w p (.int _)⟩
  | mul =>
    simp only [binI] at p
    split at p
    · rename_i hc
      refine .inl ⟨i, j, rfl, rfl, ?_, done_v w p (.int _)⟩
      unfold mulOk at hc
      rcases Bool.or_eq_true_iff.mp hc with z | z
      · exact .inl (of_decide_eq_true z)
      · exact .inr (of_decide_eq_true z)
    · exact False.elim p
  | fdiv =>
    simp only [binI] at p
    split at p
    · rename_i hc
      have z := of_decide_eq_true hc
      exact ⟨i, j, rfl, rfl, ⟨z.1, log2_lt_9000 z⟩, done_v w p (.int _)⟩
    · exact False.elim p
  | mod =>
    simp only [binI] at p
    split at p
    · rename_i hc
      exact ⟨i, j, rfl, rfl, hc, done_v w p (.int _)⟩
    · exact False.elim p
  | pow =>
    simp only [binI] at p
    split at p
    · rename_i hc
      have z := of_decide_eq_true hc
      exact ⟨i, j, rfl, rfl, ⟨z.1, by omega, z.2.2⟩, done_v w p (.int _)⟩
    · exact False.elim p
theorem bin_cat {xs ys : List D} {v u : V} {a b : R} (w : WOkA A W h H) (r1 : RRel A.K W H0 H v a) (r2 : RRel A.K W H0 H u b) (e1 : a.rd = .lst xs) (e2 : b.rd = .lst ys)
    (p : PostR A W H Wx σ (TR A H Q) (O.of h (if small (xs.length + ys.length) then some (R.nl (xs ++ ys)) else none))) : rBin A.K .add v u H Q := by
  split at p
  · rename_i hc
    obtain ⟨p1, vs, rfl, q1, q2, q3⟩ := r1.rdLst w e1
    obtain ⟨p2, us, rfl, q4, q5, q6⟩ := r2.rdLst w e2
    refine .inr (.inr (.inr ⟨p1, p2, vs, us, rfl, rfl, q1, q4, ?_, done_nl w p (q2.append q5)⟩))
    rw [q2.length, q5.length]
    exact small_le hc
  · exact False.elim p
theorem rep_len {xs : List D} {vs : List V} {k : Int} (q : RepL A.K W H vs xs) (h1 : 0 ≤ k ∧ k ≤ 1000) (h2 : xs.length ≤ 1000) : vs.length * k.toNat ≤ sizeLine := by
  rw [q.length]
  have : xs.length * k.toNat ≤ 1000 * 1000 := Nat.mul_le_mul h2 (by omega)
  exact Nat.le_trans this (by decide)
theorem bin_rep {xs : List D} {v : V} {a : R} {k : Int} (w : WOkA A W h H) (r1 : RRel A.K W H0 H v a) (e1 : a.rd = .lst xs)
    (p : PostR A W H Wx σ (TR A H Q) (O.of h (if decide (0 ≤ k ∧ k ≤ 1000) && decide (xs.length ≤ 1000) then some (R.nl (List.replicate k.toNat xs).flatten) else none))) : rBin A.K .mul v (.int k) H Q := by
  split at p
  · rename_i hc
    have hc1 := Bool.and_eq_true_iff.mp hc
    have z1 := of_decide_eq_true hc1.1
    have z2 := of_decide_eq_true hc1.2
    obtain ⟨p1, vs, rfl, q1, q2, q3⟩ := r1.rdLst w e1
    exact .inr (.inr ⟨p1, k, vs, rfl, rfl, q1, by omega, by omega, rep_len q2 z1 z2, done_nl w p (q2.flat _)⟩)
  · exact False.elim p
theorem bin_imp {o : BOp} {a b : R} {v u : V} (w : WOkA A W h H) (r1 : RRel A.K W H0 H v a) (r2 : RRel A.K W H0 H u b) (p : PostR A W H Wx σ (TR A H Q) (O.of h (binR o a b))) : rBin A.K o v u H Q := by
  unfold binR at p
  split at p
  · -- ints
    cases r1; cases r2
    exact bin_ints w p
  · -- texts
    split at p
    · rename_i hc
      cases r1; cases r2
      exact .inr (.inl ⟨_, _, rfl, rfl, small_le hc, done_v w p (.str _)⟩)
    · exact False.elim p
  · -- tuples
    split at p
    · rename_i xs ys hc
      cases r1 with
      | tup q1 q2 =>
        cases r2 with
        | tup q4 q5 =>
          rename_i a1 vs a2 us
          refine .inr (.inr (.inl ⟨a1, a2, vs, us, rfl, rfl, q1, q4, by rw [q2.length, q5.length]; exact small_le hc, fun e => ?_, fun _ e => ?_, fun _ _ => done_tup w p (q2.append q5)⟩))
          · subst e
            cases q2
            exact done_v w p (.tup q4 q5)
          · subst e
            cases q5
            rw [List.append_nil] at p
            exact done_v w p (.tup q1 q2)
    · exact False.elim p
  · -- lists
    split at p
    · rename_i e1 e2
      exact bin_cat w r1 r2 e1 e2 p
    · exact False.elim p
  · -- a tuple times
    split at p
    · rename_i xs k hc
      have hc1 := Bool.and_eq_true_iff.mp hc
      have z1 := of_decide_eq_true hc1.1
      have z2 := of_decide_eq_true hc1.2
      cases r2
      cases r1 with
      | tup q1 q2 =>
        rename_i a1 vs
        refine .inr (.inl ⟨a1, k, vs, rfl, rfl, q1, z1.1, z1.2, by rw [q2.length]; exact z2, fun e => ?_, fun _ _ => done_tup w p (q2.flat _)⟩)
        rcases e with e | e
        · subst e
          cases q2
          have e0 : (List.replicate k.toNat ([] : List D)).flatten = [] := by simp
          rw [e0] at p
          exact done_v w p (.tup q1 .nil)
        · subst e
          have e0 : (List.replicate (1 : Int).toNat xs).flatten = xs := by simp
          rw [e0] at p
          exact done_v w p (.tup q1 q2)
    · exact False.elim p
  · -- a list times
    split at p
    · rename_i e1
      cases r2
      exact bin_rep w r1 e1 p
    · exact False.elim p
  · exact False.elim p
end
end GV
set_option Elab.async false
set_option linter.all false
set_option maxRecDepth 100000
set_option maxHeartbeats 4000000
/-! GV7: comparisons. -/
namespace GV
open PySem L2
def rInS (neg : Bool) : R2 := fun x y H Q => ∃ i j, x = .str i ∧ y = .str j ∧ Q (.bl (if neg then !(!(Builtin.Str.occurrences j i 0 j.length 1).isEmpty) else !(Builtin.Str.occurrences j i 0 j.length 1).isEmpty)) H
def rIsN (neg : Bool) : R2 := fun x y H Q => y = .non ∧ Q (.bl (if neg then !decide (x = .non) else decide (x = .non))) H
def rCmp (K : PySem.W.Frag) : COp → R2
  | .eq => rEqD K
  | .ne => rNeD K
  | .lt => fun x y H Q => rI0 (fun i j => .bl (decide (i < j))) x y H Q ∨ rLtD K x y H Q
  | .le => rI0 fun i j => .bl (decide (i ≤ j))
  | .gt => rI0 fun i j => .bl (decide (j < i))
  | .ge => rI0 fun i j => .bl (decide (j ≤ i))
  | .isin => fun x y H Q => rInD K x y H Q ∨ rInT K x y H Q ∨ rInS false x y H Q
  | .notin => fun x y H Q => rNotInD K x y H Q ∨ rNotInT K x y H Q ∨ rInS true x y H Q
  | .is_ => fun x y H Q => rIsN false x y H Q ∨ rIsB x y H Q
  | .isnot => fun x y H Q => rIsN true x y H Q ∨ rNotB x y H Q
theorem op_cmp {X : Cx} (hu : X.A.units + 65 < cLine) (o : COp) : OpR X (compareOp o.py) (rCmp X.K o) := by
  cases o with
  | eq => exact op_eqD (by omega)
  | ne => exact op_neD (by omega)
  | lt => exact op_lt.or (op_ltD hu)
  | le => exact op_le
  | gt => exact op_gt
  | ge => exact op_ge
  | isin => exact (op_inD hu).or ((op_inT hu).or op_in_str)
  | notin => exact (op_notInD hu).or ((op_notInT hu).or op_notIn_str)
  | is_ => exact op_isN.or op_isBl
  | isnot => exact op_notN.or op_notBl
section
variable {A : Stat} {W : Wd} {H H0 : Hp} {h : MH} {Wx : WX} {σ : L2.St}
theorem Rep.non_iff {v : V} {d : D} (r : Rep A.K W H v d) : decide (v = .non) = d.isNon := by
  cases r <;> rfl
/-- the answer of a comparison -/
theorem cmp_imp {o : COp} {a b : R} {v u : V} {t : Bool} {Q : VK} (w : WOkA A W h H) (r1 : RRel A.K W H0 H v a) (r2 : RRel A.K W H0 H u b) (e : cmpR o a b = some t) (q : Q (.bl t) H) : rCmp A.K o v u H Q := by
  unfold cmpR at e
  split at e
  · split at e
    · rename_i hc
      obtain ⟨h1, h2⟩ := Bool.and_eq_true_iff.mp hc
      cases e
      refine ⟨_, _, r1.dp w h1, r2.dp w h2, shaped_py h1 (by decide), shaped_py h2 (by decide), ?_⟩
      rw [eqv_py _ _ _ _ h1 h2]
      exact q
    · cases e
  · split at e
    · rename_i hc
      obtain ⟨h1, h2⟩ := Bool.and_eq_true_iff.mp hc
      cases e
      refine ⟨_, _, r1.dp w h1, r2.dp w h2, shaped_py h1 (by decide), shaped_py h2 (by decide), ?_⟩
      rw [eqv_py _ _ _ _ h1 h2]
      exact q
    · cases e
  · cases e; cases r1; cases r2; exact .inl ⟨_, _, rfl, rfl, q⟩
  · cases e; cases r1; cases r2; exact ⟨_, _, rfl, rfl, q⟩
  · cases e; cases r1; cases r2; exact ⟨_, _, rfl, rfl, q⟩
  · cases e; cases r1; cases r2; exact ⟨_, _, rfl, rfl, q⟩
  · unfold D.ltb at e
    split at e
    · rename_i hc
      obtain ⟨h1, h3⟩ := Bool.and_eq_true_iff.mp hc
      obtain ⟨h1, h2⟩ := Bool.and_eq_true_iff.mp h1
      cases e
      refine .inr ⟨_, _, Rep.dp r1 h1, Rep.dp r2 h2, shaped_py h1 (by decide), h3, ?_, q⟩
      rw [D.py]
      exact fun z => nomatch z
    · cases e
  · -- in
    split at e
    · rename_i y hb
      split at e
      · rename_i x
        cases e
        cases r1
        cases b with
        | v d =>
          have e' : d = .str y := hb
          subst e'
          cases r2
          exact .inr (.inr ⟨_, _, rfl, rfl, q⟩)
        | nl _ => cases hb
        | bw _ => cases hb
      · cases e
    · rename_i d hns
      split at e
      · rename_i xs hseq
        split at e
        · rename_i hc
          obtain ⟨h1, h2⟩ := Bool.and_eq_true_iff.mp hc
          have h2' : ∀ d ∈ xs, d.okN 50 = true := List.all_eq_true.mp h2
          cases e
          cases hd : b.rd with
          | tup ys =>
            rw [hd] at hseq
            cases hseq
            have hok : b.rd.okN 51 = true := by rw [hd]; simpa [D.okN] using h2'
            have d2 := r2.dp w hok
            have s2 := shaped_py hok (by decide)
            rw [hd, D.py] at d2 s2
            refine .inr (.inl ⟨_, _, r1.dp w h1, d2, shaped_py h1 (by decide), s2, ?_⟩)
            rw [any_eqv h1 h2']
            exact q
          | lst ys =>
            rw [hd] at hseq
            cases hseq
            have hok : b.rd.okN 51 = true := by rw [hd]; simpa [D.okN] using h2'
            have d2 := r2.dp w hok
            have s2 := shaped_py hok (by decide)
            rw [hd, D.py] at d2 s2
            refine .inl ⟨_, _, r1.dp w h1, d2, shaped_py h1 (by decide), s2, ?_⟩
            rw [any_eqv h1 h2']
            exact q
          | non => rw [hd] at hseq; cases hseq
          | bl _ => rw [hd] at hseq; cases hseq
          | int _ => rw [hd] at hseq; cases hseq
          | str _ => rw [hd] at hseq; cases hseq
          | obj _ => rw [hd] at hseq; cases hseq
        · cases e
      · cases e
  · -- not in
    split at e
    · rename_i y hb
      split at e
      · rename_i x
        cases e
        cases r1
        cases b with
        | v d =>
          have e' : d = .str y := hb
          subst e'
          cases r2
          exact .inr (.inr ⟨_, _, rfl, rfl, q⟩)
        | nl _ => cases hb
        | bw _ => cases hb
      · cases e
    · rename_i d hns
      split at e
      · rename_i xs hseq
        split at e
        · rename_i hc
          obtain ⟨h1, h2⟩ := Bool.and_eq_true_iff.mp hc
          have h2' : ∀ d ∈ xs, d.okN 50 = true := List.all_eq_true.mp h2
          cases e
          cases hd : b.rd with
          | tup ys =>
            rw [hd] at hseq
            cases hseq
            have hok : b.rd.okN 51 = true := by rw [hd]; simpa [D.okN] using h2'
            have d2 := r2.dp w hok
            have s2 := shaped_py hok (by decide)
            rw [hd, D.py] at d2 s2
            refine .inr (.inl ⟨_, _, r1.dp w h1, d2, shaped_py h1 (by decide), s2, ?_⟩)
            rw [any_eqv h1 h2']
            exact q
          | lst ys =>
            rw [hd] at hseq
            cases hseq
            have hok : b.rd.okN 51 = true := by rw [hd]; simpa [D.okN] using h2'
            have d2 := r2.dp w hok
            have s2 := shaped_py hok (by decide)
            rw [hd, D.py] at d2 s2
            refine .inl ⟨_, _, r1.dp w h1, d2, shaped_py h1 (by decide), s2, ?_⟩
            rw [any_eqv h1 h2']
            exact q
          | non => rw [hd] at hseq; cases hseq
          | bl _ => rw [hd] at hseq; cases hseq
          | int _ => rw [hd] at hseq; cases hseq
          | str _ => rw [hd] at hseq; cases hseq
          | obj _ => rw [hd] at hseq; cases hseq
        · cases e
      · cases e
  · cases r2
    refine .inl ⟨rfl, ?_⟩
    have z := Rep.non_iff r1
    rw [show (if false = true then !decide (v = V.non) else decide (v = V.non)) = decide (v = V.non) from rfl, z]
    injection e with e
    rw [e]; exact q
  · cases e; cases r1; cases r2; exact .inr ⟨_, _, rfl, rfl, q⟩
  · cases r2
    refine .inl ⟨rfl, ?_⟩
    have z := Rep.non_iff r1
    rw [show (if true = true then !decide (v = V.non) else decide (v = V.non)) = !decide (v = V.non) from rfl, z]
    injection e with e
    rw [e]; exact q
  · cases e; cases r1; cases r2; exact .inr ⟨_, _, rfl, rfl, q⟩
  · cases e
end
end GV
set_option Elab.async false
set_option linter.all false
set_option maxRecDepth 100000
set_option maxHeartbeats 4000000
/-! GV8: expressions: from the evaluator's readings to the layer's. -/
namespace GV
open PySem L2
section
variable {A : Stat} {Wx : WX} {σ : L2.St} {H : Hp} {Q : VK}
theorem imp_non (t : tE A Wx .non σ H Q) : tC .non σ H Q := by
  obtain ⟨W, h, oA, ss, w, s, p⟩ := t
  exact done_v w p .non
theorem imp_bl {b : Bool} (t : tE A Wx (.bl b) σ H Q) : tC (.bl b) σ H Q := by
  obtain ⟨W, h, oA, ss, w, s, p⟩ := t
  exact done_v w p (.bl b)
theorem imp_int {i : Int} (t : tE A Wx (.int i) σ H Q) : tC (.int i) σ H Q := by
  obtain ⟨W, h, oA, ss, w, s, p⟩ := t
  exact done_v w p (.int i)
theorem imp_str {x : Str} (t : tE A Wx (.str x) σ H Q) : tC (.str x) σ H Q := by
  obtain ⟨W, h, oA, ss, w, s, p⟩ := t
  exact done_v w p (.str x)
theorem imp_var {j : Nat} (t : tE A Wx (.v j) σ H Q) : tVar j σ H Q := by
  obtain ⟨W, h, oA, ss, w, s, p⟩ := t
  simp only [evE] at p
  unfold readV at p
  split at p
  · rename_i d e
    obtain ⟨v, e1, r⟩ := s.vs j d e
    exact ⟨v, e1, done_v w p r⟩
  · rename_i xs e
    obtain ⟨a, vs, e1, e2, e3, e4⟩ := s.own j xs e
    exact ⟨_, e2, p W H (Ext.refl W H) w _ ⟨a, vs, rfl, e3, e4, (s.free j a e1).1⟩⟩
  · rename_i xs e
    obtain ⟨a, vs, e2, e3, e4, e5, _⟩ := s.bw j xs e
    exact ⟨_, e2, p W H (Ext.refl W H) w _ ⟨a, vs, rfl, e3, e4, e5⟩⟩
  · exact False.elim p
theorem imp_glob {c : Nat} {v : V} (hc : ∀ d W H, A.G.gc c = some d → Rep A.K W H v d) (t : tE A Wx (.g c) σ H Q) : tC v σ H Q := by
  obtain ⟨W, h, oA, ss, w, s, p⟩ := t
  simp only [evE] at p
  cases e : A.G.gc c with
  | none => rw [e] at p; exact False.elim p
  | some d => rw [e] at p; exact done_v w p (hc d W H e)
theorem imp_bin {o : BOp} {a b : E} (t : tE A Wx (.bin o a b) σ H Q) : tOp (rBin A.K o) (tE A Wx a) (tE A Wx b) σ H Q := by
  obtain ⟨W, h, oA, ss, w, s, p⟩ := t
  simp only [evE] at p
  refine tE_bind w s p fun W1 H1 r1 h1 v x1 w1 s1 q1 p1 p0 => ?_
  refine tE_bind w1 s1 p1 fun W2 H2 r2 h2 u x2 w2 s2 q2 p2 p0 => ?_
  exact bin_imp w2 (q1.ext w1 x2) (q2.back x1) (p2.mono (Ext.refl _ _) (TR.back (x1.trans x2)))
theorem imp_neg {a : E} (t : tE A Wx (.neg a) σ H Q) : tUn (rU fun i => .int (-i)) (tE A Wx a) σ H Q := by
  obtain ⟨W, h, oA, ss, w, s, p⟩ := t
  simp only [evE] at p
  refine tE_bind w s p fun W1 H1 r1 h1 v x1 w1 s1 q1 p1 p0 => ?_
  split at p1
  · cases q1
    exact ⟨_, rfl, done_v w1 (p1.mono (Ext.refl _ _) (TR.back x1)) (.int _)⟩
  · exact False.elim p1
theorem imp_cmp {o : COp} {a b : E} (t : tE A Wx (.cmp o a b) σ H Q) : tOp (rCmp A.K o) (tE A Wx a) (tE A Wx b) σ H Q := by
  obtain ⟨W, h, oA, ss, w, s, p⟩ := t
  simp only [evE] at p
  refine tE_bind w s p fun W1 H1 r1 h1 v x1 w1 s1 q1 p1 p0 => ?_
  refine tE_bind w1 s1 p1 fun W2 H2 r2 h2 u x2 w2 s2 q2 p2 p0 => ?_
  cases e : cmpR o r1 r2 with
  | none => rw [e] at p2; exact False.elim p2
  | some t =>
    rw [e] at p2
    exact cmp_imp w2 (q1.ext w1 x2) (q2.back x1) e (done_v w2 (p2.mono (Ext.refl _ _) (TR.back (x1.trans x2))) (.bl t))
theorem imp_chn {o o' : COp} {a b c : E} (t : tE A Wx (.chn o o' a b c) σ H Q) : tChain (rCmp A.K o) (rCmp A.K o') (tE A Wx a) (tE A Wx b) (tE A Wx c) σ H Q := by
  obtain ⟨W, h, oA, ss, w, s, p⟩ := t
  simp only [evE] at p
  refine tE_bind w s p fun W1 H1 r1 h1 v x1 w1 s1 q1 p1 p0 => ?_
  refine tE_bind w1 s1 p1 fun W2 H2 r2 h2 u x2 w2 s2 q2 p2 p0 => ?_
  cases e : cmpR o r1 r2 with
  | none => rw [e] at p2; exact False.elim p2
  | some t =>
    rw [e] at p2
    refine cmp_imp w2 (q1.ext w1 x2) (q2.back x1) e ⟨t, rfl, ?_⟩
    cases t with
    | false => exact iteF (done_v w2 (p2.mono (Ext.refl _ _) (TR.back (x1.trans x2))) (.bl false))
    | true =>
      refine iteT (tE_bind w2 s2 p2 fun W3 H3 r3 h3 z x3 w3 s3 q3 p3 p0 => ?_)
      cases e : cmpR o' r2 r3 with
      | none => rw [e] at p3; exact False.elim p3
      | some t =>
        rw [e] at p3
        exact cmp_imp w3 ((q2.back x1).ext w2 x3) (q3.back (x1.trans x2)) e (done_v w3 (p3.mono (Ext.refl _ _) (TR.back ((x1.trans x2).trans x3))) (.bl t))
theorem imp_and {a b : E} (t : tE A Wx (.and a b) σ H Q) : tAndV (tE A Wx a) (tE A Wx b) σ H Q := by
  obtain ⟨W, h, oA, ss, w, s, p⟩ := t
  simp only [evE] at p
  refine tE_bind w s p fun W1 H1 r1 h1 v x1 w1 s1 q1 p1 p0 => ?_
  unfold blE at p1
  split at p1
  · rename_i c
    cases q1
    refine ⟨c, rfl, ?_⟩
    cases c with
    | true => exact iteT ⟨W1, h1, oA, ss, w1, s1, p1.mono (Ext.refl _ _) (TR.back x1)⟩
    | false => exact iteF (done_v w1 (p1.mono (Ext.refl _ _) (TR.back x1)) (.bl false))
  · exact False.elim p1
theorem imp_or {a b : E} (t : tE A Wx (.or a b) σ H Q) : tOrV (tE A Wx a) (tE A Wx b) σ H Q := by
  obtain ⟨W, h, oA, ss, w, s, p⟩ := t
  simp only [evE] at p
  refine tE_bind w s p fun W1 H1 r1 h1 v x1 w1 s1 q1 p1 p0 => ?_
  unfold blE at p1
  split at p1
  · rename_i c
    cases q1
    refine ⟨c, rfl, ?_⟩
    cases c with
    | true => exact iteT (done_v w1 (p1.mono (Ext.refl _ _) (TR.back x1)) (.bl true))
    | false => exact iteF ⟨W1, h1, oA, ss, w1, s1, p1.mono (Ext.refl _ _) (TR.back x1)⟩
  · exact False.elim p1
theorem imp_not {a : E} (t : tE A Wx (.not a) σ H Q) : tNotV (tE A Wx a) σ H Q := by
  obtain ⟨W, h, oA, ss, w, s, p⟩ := t
  simp only [evE] at p
  refine tE_bind w s p fun W1 H1 r1 h1 v x1 w1 s1 q1 p1 p0 => ?_
  unfold blE at p1
  split at p1
  · cases q1
    exact ⟨_, rfl, done_v w1 (p1.mono (Ext.refl _ _) (TR.back x1)) (.bl _)⟩
  · exact False.elim p1
theorem imp_ite {c a b : E} (t : tE A Wx (.ite c a b) σ H Q) : tIf (tT A Wx c) (tE A Wx a) (tE A Wx b) σ H Q := by
  obtain ⟨W, h, oA, ss, w, s, p⟩ := t
  simp only [evE] at p
  rw [← O.bind_assoc] at p
  refine tT_bind w s p fun W1 H1 t h1 x1 w1 s1 p1 => ?_
  cases t with
  | true => exact iteT ⟨W1, h1, oA, ss, w1, s1, p1.mono (Ext.refl _ _) (TR.back x1)⟩
  | false => exact iteF ⟨W1, h1, oA, ss, w1, s1, p1.mono (Ext.refl _ _) (TR.back x1)⟩
/-! ### argument lists -/
theorem imp_anil {Q : List V → Hp → Prop} (t : tA A Wx [] σ H Q) : tNil σ H Q := by
  obtain ⟨W, h, oA, ss, w, s, p⟩ := t
  exact p W H (Ext.refl W H) w [] .nil
theorem imp_acons {e : E} {es : List E} {Q : List V → Hp → Prop} (t : tA A Wx (e :: es) σ H Q) : tCons (tE A Wx e) (tA A Wx es) σ H Q := by
  obtain ⟨W, h, oA, ss, w, s, p⟩ := t
  simp only [evL] at p
  refine tE_bind w s p fun W1 H1 r1 h1 v x1 w1 s1 q1 p1 p0 => ?_
  refine tA_bind w1 s1 p1 fun W2 H2 rs h2 vs x2 w2 s2 q2 p2 p0 => ?_
  exact p2 W2 H2 (Ext.refl _ _) w2 (v :: vs) (.cons (q1.ext w1 x2) (Paired.back x1 q2))
/-- displays -/
theorem imp_tup {es : List E} (t : tE A Wx (.tup es) σ H Q) : tTup (tA A Wx es) σ H Q := by
  obtain ⟨W, h, oA, ss, w, s, p⟩ := t
  simp only [evE] at p
  refine tA_bind w s p fun W1 H1 rs h1 vs x1 w1 s1 q1 _ p0 => ?_
  cases e : toDs rs with
  | none => rw [e] at p0; exact False.elim p0
  | some ds =>
    rw [e] at p0
    simp only [Option.bind_some] at p0
    split at p0
    · rename_i hc
      have r := RRelL.fz q1 e
      refine ⟨by rw [r.length]; exact small_le hc, fun q n => ?_⟩
      have x2 := fz_ext x1
      have w2 : WOkA A (W1.fz H H1) h1 H1 := fz_ok w1
      exact p0 _ _ (x2.trans (Ext.laid n)) (w2.laid n) (.ref q) (.tup (SqT.of upd_same) (RepL.ext w2 (Ext.laid n) r))
    · exact False.elim p0
theorem imp_lst {es : List E} (t : tE A Wx (.lst es) σ H Q) : tLst (tA A Wx es) σ H Q := by
  obtain ⟨W, h, oA, ss, w, s, p⟩ := t
  simp only [evE] at p
  refine tA_bind w s p fun W1 H1 rs h1 vs x1 w1 s1 q1 _ p0 => ?_
  cases e : toDs rs with
  | none => rw [e] at p0; exact False.elim p0
  | some ds =>
    rw [e] at p0
    simp only [Option.bind_some] at p0
    split at p0
    · rename_i hc
      have r := RRelL.fz q1 e
      refine ⟨by rw [r.length]; exact small_le hc, fun q n => ?_⟩
      have x2 := fz_ext x1
      have w2 : WOkA A (W1.fz H H1) h1 H1 := fz_ok w1
      refine p0 _ _ (x2.trans (Ext.laid n)) (w2.laid n) (.ref q) ⟨q, vs, rfl, x1.new n, upd_same, RepL.ext w2 (Ext.laid n) r, fun z => w2.frz q z n, fun z => ?_⟩
      rcases w2.cov q z with ⟨xs, e⟩ | ⟨C, dx, fs, e⟩ <;> rw [n] at e <;> cases e
    · exact False.elim p0
/-! ### subscripts -/
theorem atI_rep {K : PySem.W.Frag} {W : Wd} {vs : List V} {ds : List D} {k : Int} {d : D} (r : RepL K W H vs ds) (e : atD ds k = some d) : ∃ v, atI vs k = some v ∧ Rep K W H v d := by
  unfold atD at e
  unfold atI at e ⊢
  rw [r.length]
  cases q : ixN ds.length k with
  | none => rw [q] at e; cases e
  | some j =>
    rw [q] at e
    obtain ⟨v, e1, e2⟩ := r.get' e
    exact ⟨v, e1, e2⟩
theorem imp_ix {a i : E} (t : tE A Wx (.ix a i) σ H Q) : tOp (rIx A.K) (tE A Wx a) (tE A Wx i) σ H Q := by
  obtain ⟨W, h, oA, ss, w, s, p⟩ := t
  simp only [evE] at p
  refine tE_bind w s p fun W1 H1 r1 h1 v x1 w1 s1 q1 p1 p0 => ?_
  refine tE_bind w1 s1 p1 fun W2 H2 r2 h2 u x2 w2 s2 q2 p2 p0 => ?_
  split at p2
  · rename_i k
    cases q2
    have q1' := q1.ext w1 x2
    cases hd : r1.rd with
    | lst xs =>
      rw [hd] at p2
      simp only [D.seq, Option.bind_some] at p2
      cases ea : atD xs k with
      | none => rw [ea] at p2; exact False.elim p2
      | some d =>
        rw [ea] at p2
        obtain ⟨l, vs, rfl, e1, e2, e3⟩ := q1'.rdLst w2 hd
        obtain ⟨z, e4, e5⟩ := atI_rep e2 ea
        exact .inl ⟨l, vs, k, z, rfl, rfl, .inl e1, e4, done_v w2 (p2.mono (Ext.refl _ _) (TR.back (x1.trans x2))) e5⟩
    | tup xs =>
      rw [hd] at p2
      simp only [D.seq, Option.bind_some] at p2
      cases ea : atD xs k with
      | none => rw [ea] at p2; exact False.elim p2
      | some d =>
        rw [ea] at p2
        obtain ⟨l, vs, rfl, e1, e2⟩ := q1'.rdTup hd
        obtain ⟨z, e4, e5⟩ := atI_rep e2 ea
        exact .inr (.inl ⟨l, vs, k, z, rfl, rfl, e1, e4, done_v w2 (p2.mono (Ext.refl _ _) (TR.back (x1.trans x2))) e5⟩)
    | non => rw [hd] at p2; exact False.elim p2
    | bl _ => rw [hd] at p2; exact False.elim p2
    | int _ => rw [hd] at p2; exact False.elim p2
    | str _ => rw [hd] at p2; exact False.elim p2
    | obj _ => rw [hd] at p2; exact False.elim p2
  · exact False.elim p2
/-! ### slices -/
def tOo (A : Stat) (Wx : WX) : Option E → TO
  | none => tNoPart
  | some e => tPart (tE A Wx e)
theorem tO_bind {W : Wd} {h : MH} {oA : Nat → Option Addr} {ss : SS} {β : Type} {e : Option E} {k : Option Int → MH → O β} {T : Wd → Hp → β → Prop} {Q : Option Int → Hp → Prop} (w : WOkA A W h H) (s : SRel A.K W H oA ss σ) (p : PostR A W H Wx σ T ((evO A.G e ss h).bind k))
    (step : ∀ W1 H1 h1 o, Ext W H W1 H1 → WOkA A W1 h1 H1 → SRel A.K W1 H1 oA ss σ → PostR A W1 H1 Wx σ T (k o h1) → Q o H1) : tOo A Wx e σ H Q := by
  cases e with
  | none => exact step W H h none (Ext.refl _ _) w s p
  | some e =>
    simp only [evO] at p
    rw [O.bind_assoc] at p
    refine tE_bind w s p fun W1 H1 r1 h1 v x1 w1 s1 q1 p1 p0 => ?_
    unfold intOpt at p1
    split at p1
    · cases q1
      exact ⟨_, rfl, step W1 H1 h1 _ x1 w1 s1 p1⟩
    · exact False.elim p1
theorem cut_rep {K : PySem.W.Frag} {W : Wd} {vs : List V} {ds : List D} (lo hi : Option Int) (r : RepL K W H vs ds) : RepL K W H (cutV vs lo hi) (cutD ds lo hi) := by
  unfold cutV cutD
  rw [r.length]
  exact (r.drop _).take _
def rSlAll (K : PySem.W.Frag) : V → Option Int → Option Int → Hp → VK → Prop := fun x lo hi H Q => rSlL K x lo hi H Q ∨ rSlA K x lo hi H Q
theorem imp_sl {a : E} {lo hi : Option E} (t : tE A Wx (.sl a lo hi) σ H Q) : tSl (rSlAll A.K) (tE A Wx a) (tOo A Wx lo) (tOo A Wx hi) σ H Q := by
  obtain ⟨W, h, oA, ss, w, s, p⟩ := t
  simp only [evE] at p
  refine tE_bind w s p fun W1 H1 r1 h1 v x1 w1 s1 q1 p1 p0 => ?_
  refine tO_bind w1 s1 p1 fun W2 H2 h2 l x2 w2 s2 p2 => ?_
  refine tO_bind w2 s2 p2 fun W3 H3 h3 u x3 w3 s3 p3 => ?_
  have q3 := (q1.ext w1 x2).ext w2 x3
  have p3' : PostR A W3 H3 Wx σ (TR A H3 Q) _ := p3.mono (Ext.refl _ _) (TR.back ((x1.trans x2).trans x3))
  split at p3'
  · rename_i xs hd
    obtain ⟨b, vs, rfl, e1, e2, e3⟩ := q3.rdLst w3 hd
    exact .inl ⟨b, vs, rfl, .inl e1, done_nl w3 p3' (cut_rep l u e2)⟩
  · rename_i xs hd
    obtain ⟨b, vs, rfl, e1, e2⟩ := q3.rdTup hd
    refine .inr ⟨b, vs, rfl, e1, fun z => ?_, fun _ => done_tup w3 p3' (cut_rep l u e2)⟩
    have e : cutD xs l u = xs := by
      unfold cutD
      rw [← e2.length, z.1, z.2, e2.length]
      simp
    rw [e] at p3'
    exact done_v w3 p3' (.tup e1 e2)
  · exact False.elim p3'
/-! ### backwards -/
theorem rev_rep {K : PySem.W.Frag} {W : Wd} {vs : List V} {ds : List D} (lo : Option Nat) (r : RepL K W H vs ds) : RepL K W H (revV lo vs) (revD lo ds) := by
  have rv : ∀ {vs : List V} {ds : List D}, RepL K W H vs ds → RepL K W H vs.reverse ds.reverse := by
    intro vs
    induction vs with
    | nil => intro ds r; cases r; exact .nil
    | cons v vs ih =>
      intro ds r
      cases r with
      | cons a b => rw [List.reverse_cons, List.reverse_cons]; exact (ih b).append (.cons a .nil)
  have e : revV lo vs = (vs.take (match lo with | none => ds.length | some k => k + 1)).reverse := by
    unfold revV
    rw [← r.length]
    cases lo with
    | none => rfl
    | some k =>
      show (vs.take (min (k + 1) vs.length)).reverse = (vs.take (k + 1)).reverse
      rw [← List.take_take, List.take_length]
  rw [e]
  exact rv (r.take _)
theorem imp_rev {a : E} {lo : Option Nat} (t : tE A Wx (.rev a lo) σ H Q) : tRevA A.K lo (tE A Wx a) σ H Q := by
  obtain ⟨W, h, oA, ss, w, s, p⟩ := t
  simp only [evE] at p
  refine tE_bind w s p fun W1 H1 r1 h1 v x1 w1 s1 q1 p1 p0 => ?_
  have p2 := p1.mono (Ext.refl _ _) (TR.back x1)
  split at p2
  · rename_i xs hd
    obtain ⟨b, us, rfl, e2, e3, e4⟩ := q1.rdLst w1 hd
    exact ⟨b, us, rfl, .inl ⟨.inl e2, done_nl w1 p2 (rev_rep lo e3)⟩⟩
  · rename_i xs hd
    obtain ⟨b, us, rfl, e2, e3⟩ := q1.rdTup hd
    exact ⟨b, us, rfl, .inr ⟨e2, done_tup w1 p2 (rev_rep lo e3)⟩⟩
  · exact False.elim p2
end
end GV
set_option Elab.async false
set_option linter.all false
set_option maxRecDepth 100000
set_option maxHeartbeats 4000000
/-! GV9: calls of defs and of built-ins. -/
namespace GV
open PySem L2
def AR (K : PySem.W.Frag) (W : Wd) (H : Hp) (v : V) : Sl → Prop
  | .v d => Rep K W H v d
  | .bw xs => ∃ a vs, v = .ref a ∧ H a = some (.lst vs) ∧ RepL K W H vs xs ∧ ¬ W.fp a
  | .own _ => False
def PostF (A : Stat) (W : Wd) (H : Hp) (Q : VK) (E : XK) : O R → Prop
  | .ok r h' => ∀ W' H' v, Ext W H W' H' → WOkA A W' h' H' → RRel A.K W' H H' v r → Q v H'
  | .ex c h' => ∀ W' H', Ext W H W' H' → WOkA A W' h' H' → E (A.xc c) none H'
  | .no => False
/-- the promise of a def, by the evaluator -/
def spF (A : Stat) (f : Nat) : Sp := fun vs H Q E => ∃ W h args, WOkA A W h H ∧ Paired (AR A.K W H) vs args ∧ PostF A W H Q E (A.G.cf f args h)
section
variable {A : Stat} {Wx : WX} {σ : L2.St} {H : Hp} {Q : VK}
theorem RRel.arg {K : PySem.W.Frag} {W : Wd} {H0 : Hp} {v : V} {r : R} (q : RRel K W H0 H v r) : AR K (W.fz H0 H) H v r.arg := by
  cases r with
  | v d => exact RRel.fz q rfl
  | nl xs => exact RRel.fz q rfl
  | bw xs =>
    obtain ⟨p, vs, rfl, e3, e4, e6⟩ := q
    exact ⟨p, vs, rfl, e3, RepL.fz e4, e6⟩
theorem args_of {K : PySem.W.Frag} {W : Wd} {H0 : Hp} : ∀ {vs : List V} {rs : List R}, Paired (RRel K W H0 H) vs rs → Paired (AR K (W.fz H0 H) H) vs (rs.map R.arg)
  | _, _, .nil => .nil
  | _, _, .cons a b => .cons a.arg (args_of b)
theorem imp_call {f : Nat} {es : List E} (t : tE A Wx (.call f es) σ H Q) : tCallS (spF A f) (WE Wx) (tA A Wx es) σ H Q := by
  obtain ⟨W, h, oA, ss, w, s, p⟩ := t
  simp only [evE] at p
  refine tA_bind w s p fun W1 H1 rs h1 vs x1 w1 s1 q1 p1 p0 => ?_
  have x2 := fz_ext x1
  refine ⟨W1.fz H H1, h1, rs.map R.arg, fz_ok w1, args_of q1, ?_⟩
  cases e : A.G.cf f (rs.map R.arg) h1 with
  | ok r h' =>
    rw [e] at p0
    exact fun W' H' v x w' rr => p0 W' H' (x2.trans x) w' v (rr.back x1)
  | ex c h' =>
    rw [e] at p0
    exact fun W' H' x w' => p0 W' H' (x2.trans x) w'
  | no => rw [e] at p0; exact p0
/-! ### built-ins -/
def rTupleOf (K : PySem.W.Frag) : List V → Hp → VK → Prop := fun xs H Q => ∃ p ys, xs = [.ref p] ∧ ((SqL K H p ys ∧ ∀ l, H l = none → Q (.ref l) (upd H l (.tup ys))) ∨ (SqT K H p ys ∧ Q (.ref p) H))
def rListOf (K : PySem.W.Frag) : List V → Hp → VK → Prop := fun xs H Q => ∃ p ys, xs = [.ref p] ∧ (SqL K H p ys ∨ SqT K H p ys) ∧ ∀ l, H l = none → Q (.ref l) (upd H l (.lst ys))
def rMax2' : List V → Hp → VK → Prop := fun xs H Q => ∃ i j, xs = [.int i, .int j] ∧ Q (.int (if j > i then j else i)) H
def rMin2' : List V → Hp → VK → Prop := fun xs H Q => ∃ i j, xs = [.int i, .int j] ∧ Q (.int (if j < i then j else i)) H
def rLenX (K : PySem.W.Frag) : List V → Hp → VK → Prop := fun xs H Q => ∃ x n, xs = [x] ∧ LenV K x H n ∧ Q (.int (n : Nat)) H
def rBi (K : PySem.W.Frag) : Bi → List V → Hp → VK → Prop
  | .len => rLenX K
  | .sum => fun xs H Q => rSum K xs H Q ∨ rSumT K xs H Q
  | .all => rAll K
  | .any => rAny K
  | .min => fun xs H Q => rMin2' xs H Q ∨ rMin K xs H Q
  | .max => fun xs H Q => rMax2' xs H Q ∨ rMax K xs H Q
  | .tuple => rTupleOf K
  | .list => rListOf K
  | .sorted => rSortD K
  | _ => fun _ _ _ => False
def Bi.val : Bi → Value
  | .len => .builtin "len" | .sum => .builtin "sum" | .all => .builtin "all" | .any => .builtin "any" | .min => .builtin "min" | .max => .builtin "max" | .sorted => .builtin "sorted"
  | .tuple => .type "tuple" | .list => .type "list" | .str => .type "str" | .int => .type "int"
theorem call_bi {X : Cx} (hc : X.calm = true) (hu : X.A.units + 65 < cLine) (f : Bi) : CallR X f.val (rBi X.K f) := by
  cases f with
  | len => exact call_len
  | sum => exact (cr_sum hc).or (cr_sumT hc)
  | all => exact cr_all hc
  | any => exact cr_any hc
  | min => exact (call_min2 hc).or (cr_min hc)
  | max => exact (call_max2 hc).or (cr_max hc)
  | tuple => exact call_tuple_of
  | list => exact call_list_of
  | sorted => exact cr_sortD hu
  | str => exact fun pins s σ H vs us Q I rv h => h.elim
  | int => exact fun pins s σ H vs us Q I rv h => h.elim
theorem foldl_max : ∀ (l : List Int) (x : Int), (l.foldl max x ∈ x :: l) ∧ ∀ y ∈ x :: l, y ≤ l.foldl max x
  | [], x => by simp
  | z :: l, x => by
    obtain ⟨h1, h2⟩ := foldl_max l (max x z)
    simp only [List.foldl_cons]
    constructor
    · rcases List.mem_cons.mp h1 with e | e
      · rw [e]
        by_cases h : x ≤ z
        · rw [Int.max_eq_right h]; simp
        · rw [Int.max_eq_left (by omega)]; simp
      · simp [e]
    · intro y hy
      have h3 := h2 (max x z) (by simp)
      rcases List.mem_cons.mp hy with e | e
      · rw [e]; omega
      · rcases List.mem_cons.mp e with e | e
        · rw [e]; omega
        · exact h2 y (by simp [e])
theorem foldl_min : ∀ (l : List Int) (x : Int), (l.foldl min x ∈ x :: l) ∧ ∀ y ∈ x :: l, l.foldl min x ≤ y
  | [], x => by simp
  | z :: l, x => by
    obtain ⟨h1, h2⟩ := foldl_min l (min x z)
    simp only [List.foldl_cons]
    constructor
    · rcases List.mem_cons.mp h1 with e | e
      · rw [e]
        by_cases h : x ≤ z
        · rw [Int.min_eq_left h]; simp
        · rw [Int.min_eq_right (by omega)]; simp
      · simp [e]
    · intro y hy
      have h3 := h2 (min x z) (by simp)
      rcases List.mem_cons.mp hy with e | e
      · rw [e]; omega
      · rcases List.mem_cons.mp e with e | e
        · rw [e]; omega
        · exact h2 y (by simp [e])
theorem ints_rep {K : PySem.W.Frag} {W : Wd} : ∀ {vs : List V} {ds : List D} {ns : List Int}, RepL K W H vs ds → ints? ds = some ns → vs = ns.map V.int
  | _, _, ns, .nil, e => by cases e; rfl
  | _, d :: ds, ns, .cons a b, e => by
    cases a with
    | int i =>
      simp only [ints?] at e
      cases q : ints? ds with
      | none => rw [q] at e; cases e
      | some ms => rw [q] at e; cases e; rw [ints_rep b q]; rfl
    | non => cases e
    | bl _ => cases e
    | str _ => cases e
    | tup _ _ => cases e
    | lst _ _ _ => cases e
    | obj _ => cases e
theorem bls_rep {K : PySem.W.Frag} {W : Wd} : ∀ {vs : List V} {ds : List D} {ns : List Bool}, RepL K W H vs ds → bls? ds = some ns → vs = ns.map V.bl
  | _, _, ns, .nil, e => by cases e; rfl
  | _, d :: ds, ns, .cons a b, e => by
    cases a with
    | bl i =>
      simp only [bls?] at e
      cases q : bls? ds with
      | none => rw [q] at e; cases e
      | some ms => rw [q] at e; cases e; rw [bls_rep b q]; rfl
    | non => cases e
    | int _ => cases e
    | str _ => cases e
    | tup _ _ => cases e
    | lst _ _ _ => cases e
    | obj _ => cases e
end
end GV
set_option Elab.async false
set_option linter.all false
set_option maxRecDepth 100000
set_option maxHeartbeats 4000000
namespace GV
open PySem L2
section
variable {A : Stat} {Wx : WX} {σ : L2.St} {H H0 : Hp} {Q : VK} {W : Wd} {h : MH}
/-- a sequence that is read: a list or a tuple -/
theorem RRel.rdSeq {v : V} {r : R} {xs : List D} (w : WOkA A W h H) (q : RRel A.K W H0 H v r) (e : r.rd.seq = some xs) :
    ∃ p vs, v = .ref p ∧ RepL A.K W H vs xs ∧ ((r.rd = .lst xs ∧ Rd H p (.lst vs)) ∨ (r.rd = .tup xs ∧ SqT A.K H p vs)) := by
  cases hd : r.rd with
  | lst ys =>
    rw [hd] at e; cases e
    obtain ⟨p, vs, e1, e2, e3, e4⟩ := q.rdLst w hd
    exact ⟨p, vs, e1, e3, .inl ⟨rfl, e2⟩⟩
  | tup ys =>
    rw [hd] at e; cases e
    obtain ⟨p, vs, e1, e2, e3⟩ := q.rdTup hd
    exact ⟨p, vs, e1, e3, .inr ⟨rfl, e2⟩⟩
  | non => rw [hd] at e; cases e
  | bl _ => rw [hd] at e; cases e
  | int _ => rw [hd] at e; cases e
  | str _ => rw [hd] at e; cases e
  | obj _ => rw [hd] at e; cases e
theorem P1 {v : V} {r : R} {vs : List V} (q : Paired (RRel A.K W H0 H) vs [r]) : ∃ v, vs = [v] ∧ RRel A.K W H0 H v r := by
  cases q with
  | cons a b => cases b; exact ⟨_, rfl, a⟩
theorem P2 {r r' : R} {vs : List V} (q : Paired (RRel A.K W H0 H) vs [r, r']) : ∃ v v', vs = [v, v'] ∧ RRel A.K W H0 H v r ∧ RRel A.K W H0 H v' r' := by
  cases q with
  | cons a b =>
    cases b with
    | cons c d => cases d; exact ⟨_, _, rfl, a, c⟩
theorem len_ok {v : V} {r : R} {n : Nat} (w : WOkA A W h H) (q : RRel A.K W H0 H v r) (e : lenD r.rd = some n) : LenV A.K v H n := by
  cases hd : r.rd with
  | lst ys =>
    rw [hd] at e; cases e
    obtain ⟨p, vs, rfl, e2, e3, e4⟩ := q.rdLst w hd
    exact .inl ⟨vs, .inl e2, e3.length.symm⟩
  | tup ys =>
    rw [hd] at e; cases e
    obtain ⟨p, vs, rfl, e2, e3⟩ := q.rdTup hd
    exact .inr ⟨vs, e2, e3.length.symm⟩
  | str x =>
    rw [hd] at e
    simp only [lenD] at e
    split at e
    · rename_i hs
      cases e
      cases r with
      | v d =>
        have e' : d = .str x := hd
        subst e'
        cases q
        exact ⟨small_le hs, rfl⟩
      | nl _ => cases hd
      | bw _ => cases hd
    · cases e
  | non => rw [hd] at e; cases e
  | bl _ => rw [hd] at e; cases e
  | int _ => rw [hd] at e; cases e
  | obj _ => rw [hd] at e; cases e
theorem zip_fst {α β : Type} : ∀ {xs : List α} {ys : List β}, xs.length = ys.length → (xs.zip ys).map (·.1) = xs ∧ (xs.zip ys).map (·.2) = ys
  | [], [], _ => ⟨rfl, rfl⟩
  | [], _ :: _, h => by simp at h
  | _ :: _, [], h => by simp at h
  | x :: xs, y :: ys, h => by
    obtain ⟨h1, h2⟩ := zip_fst (xs := xs) (ys := ys) (by simpa using h)
    exact ⟨by simp [h1], by simp [h2]⟩
theorem zip_rep : ∀ {vs : List V} {ds : List D}, RepL A.K W H vs ds → ∀ b ∈ vs.zip ds, Rep A.K W H b.1 b.2
  | _, _, .nil, b, m => by simp at m
  | _, _, .cons p q, b, m => by
    rcases List.mem_cons.mp (by simpa using m) with e | e
    · rw [e]; exact p
    · exact zip_rep q b e
theorem rep_zip : ∀ (l : List (V × D)), (∀ b ∈ l, Rep A.K W H b.1 b.2) → RepL A.K W H (l.map (·.1)) (l.map (·.2))
  | [], _ => .nil
  | b :: l, h => .cons (h b (by simp)) (rep_zip l fun c m => h c (by simp [m]))
theorem sort_imp {a : Addr} {us : List V} {xs ys : List D} (w : WOkA A W h H) (r : RepL A.K W H us xs) (e3 : Rd H a (.lst us)) (e : srtD xs = some ys) (p : PostR A W H Wx σ (TR A H Q) (.ok (.nl ys) h)) : rSortD A.K [.ref a] H Q := by
  unfold srtD at e
  split at e
  · rename_i hok
    cases e
    unfold srtOk at hok
    simp only [Bool.and_eq_true, Bool.or_eq_true, List.all_eq_true] at hok
    obtain ⟨⟨⟨h1, h2⟩, h3⟩, h4⟩ := hok
    obtain ⟨z1, z2⟩ := zip_fst r.length
    have mem : ∀ b ∈ us.zip xs, b.2 ∈ xs := fun b m => by
      have := List.mem_map_of_mem (f := (·.2)) m
      rw [z2] at this
      exact this
    refine ⟨a, us.zip xs, rfl, by rw [z1]; exact .inl e3, fun b m => ⟨(zip_rep r b m).dp (h1 _ (mem b m)), (lay_py _ _ (h1 _ (mem b m))).2⟩, fun d hd d' hd' => ?_, ?_, ?_⟩
    · obtain ⟨b, m, rfl⟩ := List.mem_map.mp hd
      obtain ⟨b', m', rfl⟩ := List.mem_map.mp hd'
      exact h2 _ (mem b m) _ (mem b' m')
    · rcases h3 with h3 | h3
      · refine .inl fun d hd => ?_
        obtain ⟨b, m, rfl⟩ := List.mem_map.mp hd
        have := h3 _ (mem b m)
        revert this
        cases b.2 with
        | tup l => cases l with
          | nil => intro z; cases z
          | cons x l => intro _; exact ⟨x.py, D.pyL l, by simp [D.py, D.pyL]⟩
        | _ => intro z; cases z
      · refine .inr fun d hd => ?_
        obtain ⟨b, m, rfl⟩ := List.mem_map.mp hd
        have := h3 _ (mem b m)
        revert this
        cases b.2 with
        | bl _ => intro _; exact ⟨(by simp [D.py]), fun l => by simp [D.py]⟩
        | int _ => intro _; exact ⟨(by simp [D.py]), fun l => by simp [D.py]⟩
        | str _ => intro _; exact ⟨(by simp [D.py]), fun l => by simp [D.py]⟩
        | _ => intro z; cases z
    · have em : ((us.zip xs).mergeSort (PySem.W.dataLe false fun b => b.2.py)).map (·.2) = xs.mergeSort (PySem.W.dataLe false D.py) := by
        have := List.map_mergeSort (r := PySem.W.dataLe false fun b : V × D => b.2.py) (s := PySem.W.dataLe false D.py) (f := Prod.snd) (l := us.zip xs) (fun a _ b _ => rfl)
        rw [show ((us.zip xs).map Prod.snd) = xs from z2] at this
        exact this
      have rr := rep_zip (A := A) (W := W) (H := H) ((us.zip xs).mergeSort (PySem.W.dataLe false fun b => b.2.py)) fun b m => zip_rep r b (List.mem_mergeSort.mp m)
      rw [em] at rr
      exact done_nl w p rr
  · cases e
theorem bi_imp {f : Bi} {rs : List R} {vs : List V} (w : WOkA A W h H) (q : Paired (RRel A.K W H0 H) vs rs) (p : PostR A W H Wx σ (TR A H Q) (O.of h (biR A.G.srt f rs h))) : rBi A.K f vs H Q := by
  unfold biR at p
  split at p
  · -- len of a list by reference
    rename_i i
    obtain ⟨v, rfl, qq⟩ := P1 (v := .non) q
    split at p
    · rename_i xs e
      have m := w.obj i _ e
      obtain ⟨a, us, e1, e2, e3⟩ := m
      cases qq with
      | obj e4 =>
        rename_i a'
        have : a' = a := by rw [e1] at e4; exact (Option.some.inj e4).symm
        subst this
        exact ⟨_, us.length, rfl, .inl ⟨us, SqL.of e2, rfl⟩, by rw [e3.length]; exact done_v w p (.int _)⟩
    · exact False.elim p
  · rename_i a hno
    obtain ⟨v, rfl, qq⟩ := P1 (v := .non) q
    cases e : lenD a.rd with
    | none => rw [e] at p; exact False.elim p
    | some n =>
      rw [e] at p
      exact ⟨v, n, rfl, len_ok w qq e, done_v w p (.int _)⟩
  · -- sum
    rename_i a
    obtain ⟨v, rfl, qq⟩ := P1 (v := .non) q
    cases e : a.rd.seq with
    | none => rw [e] at p; exact False.elim p
    | some xs =>
      rw [e] at p
      simp only [Option.bind_some] at p
      cases e2 : ints? xs with
      | none => rw [e2] at p; exact False.elim p
      | some ns =>
        rw [e2] at p
        obtain ⟨b, us, rfl, r, z⟩ := qq.rdSeq w e
        have hu := ints_rep r e2
        subst hu
        rcases z with ⟨_, z⟩ | ⟨_, z⟩
        · exact .inl ⟨b, ns, rfl, .inl z, done_v w p (.int _)⟩
        · exact .inr ⟨b, ns, rfl, z, done_v w p (.int _)⟩
  · -- all
    obtain ⟨v, rfl, qq⟩ := P1 (v := .non) q
    split at p
    · rename_i xs hd
      cases e2 : bls? xs with
      | none => rw [e2] at p; exact False.elim p
      | some ns =>
        rw [e2] at p
        obtain ⟨b, us, rfl, e3, r, _⟩ := qq.rdLst w hd
        have hu := bls_rep r e2
        subst hu
        exact ⟨b, ns, rfl, .inl e3, done_v w p (.bl _)⟩
    · exact False.elim p
  · -- any
    obtain ⟨v, rfl, qq⟩ := P1 (v := .non) q
    split at p
    · rename_i xs hd
      cases e2 : bls? xs with
      | none => rw [e2] at p; exact False.elim p
      | some ns =>
        rw [e2] at p
        obtain ⟨b, us, rfl, e3, r, _⟩ := qq.rdLst w hd
        have hu := bls_rep r e2
        subst hu
        exact ⟨b, ns, rfl, .inl e3, done_v w p (.bl _)⟩
    · exact False.elim p
  · obtain ⟨v, v', rfl, q1, q2⟩ := P2 q
    cases q1; cases q2
    exact .inl ⟨_, _, rfl, done_v w p (.int _)⟩
  · obtain ⟨v, v', rfl, q1, q2⟩ := P2 q
    cases q1; cases q2
    exact .inl ⟨_, _, rfl, done_v w p (.int _)⟩
  · -- min
    obtain ⟨v, rfl, qq⟩ := P1 (v := .non) q
    split at p
    · rename_i xs hd
      cases e2 : ints? xs with
      | none => rw [e2] at p; exact False.elim p
      | some ns =>
        rw [e2] at p
        simp only [Option.bind_some] at p
        cases ns with
        | nil => exact False.elim p
        | cons x l =>
          obtain ⟨b, us, rfl, e3, r, _⟩ := qq.rdLst w hd
          have hu := ints_rep r e2
          subst hu
          obtain ⟨h1, h2⟩ := foldl_min l x
          refine .inr ⟨b, x :: l, rfl, .inl e3, by simp, fun m hm hmin => ?_⟩
          have : m = l.foldl min x := Int.le_antisymm (hmin _ h1) (h2 m hm)
          rw [this]
          exact done_v w p (.int _)
    · exact False.elim p
  · -- max
    obtain ⟨v, rfl, qq⟩ := P1 (v := .non) q
    split at p
    · rename_i xs hd
      cases e2 : ints? xs with
      | none => rw [e2] at p; exact False.elim p
      | some ns =>
        rw [e2] at p
        simp only [Option.bind_some] at p
        cases ns with
        | nil => exact False.elim p
        | cons x l =>
          obtain ⟨b, us, rfl, e3, r, _⟩ := qq.rdLst w hd
          have hu := ints_rep r e2
          subst hu
          obtain ⟨h1, h2⟩ := foldl_max l x
          refine .inr ⟨b, x :: l, rfl, .inl e3, by simp, fun m hm hmax => ?_⟩
          have : m = l.foldl max x := Int.le_antisymm (h2 m hm) (hmax _ h1)
          rw [this]
          exact done_v w p (.int _)
    · exact False.elim p
  · -- tuple
    rename_i a
    obtain ⟨v, rfl, qq⟩ := P1 (v := .non) q
    cases e : a.rd.seq with
    | none => rw [e] at p; exact False.elim p
    | some xs =>
      rw [e] at p
      obtain ⟨b, us, rfl, r, z⟩ := qq.rdSeq w e
      rcases z with ⟨_, z⟩ | ⟨_, z⟩
      · exact ⟨b, us, rfl, .inl ⟨.inl z, done_tup w p r⟩⟩
      · exact ⟨b, us, rfl, .inr ⟨z, done_v w p (.tup z r)⟩⟩
  · -- list
    rename_i a
    obtain ⟨v, rfl, qq⟩ := P1 (v := .non) q
    cases e : a.rd.seq with
    | none => rw [e] at p; exact False.elim p
    | some xs =>
      rw [e] at p
      obtain ⟨b, us, rfl, r, z⟩ := qq.rdSeq w e
      rcases z with ⟨_, z⟩ | ⟨_, z⟩
      · exact ⟨b, us, rfl, .inl (.inl z), done_nl w p r⟩
      · exact ⟨b, us, rfl, .inr z, done_nl w p r⟩
  · -- sorted
    obtain ⟨v, rfl, qq⟩ := P1 (v := .non) q
    split at p
    · rename_i xs hd
      cases e2 : srtD xs with
      | none => rw [e2] at p; exact False.elim p
      | some ys =>
        rw [e2] at p
        obtain ⟨b, us, rfl, e3, r, _⟩ := qq.rdLst w hd
        exact sort_imp w r e3 e2 p
    · exact False.elim p
  · exact False.elim p
theorem imp_bi {f : Bi} {es : List E} (t : tE A Wx (.bi f es) σ H Q) : tCB (rBi A.K f) (tA A Wx es) σ H Q := by
  obtain ⟨W, h, oA, ss, w, s, p⟩ := t
  simp only [evE] at p
  refine tA_bind w s p fun W1 H1 rs h1 vs x1 w1 s1 q1 p1 p0 => ?_
  exact bi_imp w1 q1 (p1.mono (Ext.refl _ _) (TR.back x1))
/-! ### isinstance -/
def Ty.nm : Ty → String
  | .int => "int" | .bool => "bool" | .tuple => "tuple" | .str => "str" | .list => "list"
def D.tnm : D → String
  | .non => "NoneType" | .bl _ => "bool" | .int _ => "int" | .str _ => "str" | .tup _ => "tuple" | .lst _ => "list" | .obj _ => ""
def tnmB : Nat → String
  | 0 => "NoneType" | 1 => "bool" | 2 => "int" | 3 => "str" | 4 => "tuple" | _ => "list"
theorem kit_int (d : D) (n : d.noObj = true) : kitB d.tnm "int" = some (tyD .int d) := by
  cases d with
  | non => exact (by decide +kernel : kitB "NoneType" "int" = some false)
  | bl _ => exact (by decide +kernel : kitB "bool" "int" = some true)
  | int _ => exact (by decide +kernel : kitB "int" "int" = some true)
  | str _ => exact (by decide +kernel : kitB "str" "int" = some false)
  | tup _ => exact (by decide +kernel : kitB "tuple" "int" = some false)
  | lst _ => exact (by decide +kernel : kitB "list" "int" = some false)
  | obj _ => cases n
theorem kit_bool (d : D) (n : d.noObj = true) : kitB d.tnm "bool" = some (tyD .bool d) := by
  cases d with
  | non => exact (by decide +kernel : kitB "NoneType" "bool" = some false)
  | bl _ => exact (by decide +kernel : kitB "bool" "bool" = some true)
  | int _ => exact (by decide +kernel : kitB "int" "bool" = some false)
  | str _ => exact (by decide +kernel : kitB "str" "bool" = some false)
  | tup _ => exact (by decide +kernel : kitB "tuple" "bool" = some false)
  | lst _ => exact (by decide +kernel : kitB "list" "bool" = some false)
  | obj _ => cases n
theorem kit_tuple (d : D) (n : d.noObj = true) : kitB d.tnm "tuple" = some (tyD .tuple d) := by
  cases d with
  | non => exact (by decide +kernel : kitB "NoneType" "tuple" = some false)
  | bl _ => exact (by decide +kernel : kitB "bool" "tuple" = some false)
  | int _ => exact (by decide +kernel : kitB "int" "tuple" = some false)
  | str _ => exact (by decide +kernel : kitB "str" "tuple" = some false)
  | tup _ => exact (by decide +kernel : kitB "tuple" "tuple" = some true)
  | lst _ => exact (by decide +kernel : kitB "list" "tuple" = some false)
  | obj _ => cases n
theorem kit_str (d : D) (n : d.noObj = true) : kitB d.tnm "str" = some (tyD .str d) := by
  cases d with
  | non => exact (by decide +kernel : kitB "NoneType" "str" = some false)
  | bl _ => exact (by decide +kernel : kitB "bool" "str" = some false)
  | int _ => exact (by decide +kernel : kitB "int" "str" = some false)
  | str _ => exact (by decide +kernel : kitB "str" "str" = some true)
  | tup _ => exact (by decide +kernel : kitB "tuple" "str" = some false)
  | lst _ => exact (by decide +kernel : kitB "list" "str" = some false)
  | obj _ => cases n
theorem kit_list (d : D) (n : d.noObj = true) : kitB d.tnm "list" = some (tyD .list d) := by
  cases d with
  | non => exact (by decide +kernel : kitB "NoneType" "list" = some false)
  | bl _ => exact (by decide +kernel : kitB "bool" "list" = some false)
  | int _ => exact (by decide +kernel : kitB "int" "list" = some false)
  | str _ => exact (by decide +kernel : kitB "str" "list" = some false)
  | tup _ => exact (by decide +kernel : kitB "tuple" "list" = some false)
  | lst _ => exact (by decide +kernel : kitB "list" "list" = some true)
  | obj _ => cases n
theorem kit_all (t : Ty) (d : D) (n : d.noObj = true) : kitB d.tnm t.nm = some (tyD t d) := by
  cases t with
  | int => exact kit_int d n
  | bool => exact kit_bool d n
  | tuple => exact kit_tuple d n
  | str => exact kit_str d n
  | list => exact kit_list d n
theorem ty_of {v : V} {r : R} (w : WOkA A W h H) (q : RRel A.K W H0 H v r) (n : r.rd.noObj = true) : TyX A.K H v (.type r.rd.tnm) := by
  cases hd : r.rd with
  | lst ys =>
    obtain ⟨p, vs, rfl, e2, e3, e4⟩ := q.rdLst w hd
    rcases e2 with e2 | ⟨o, e2⟩
    · exact .base (.lst e2)
    · exact .base (.frz e2)
  | tup ys =>
    obtain ⟨p, vs, rfl, e2, e3⟩ := q.rdTup hd
    rcases e2 with (e2 | ⟨o, e2⟩) | ⟨o, its, n, e1, e2, _⟩
    · exact .base (.tup e2)
    · exact .fTuple e2
    · exact .kTuple e1 e2
  | non => cases r with
    | v d => have e' : d = .non := hd; subst e'; cases q; exact .base .non
    | nl _ => cases hd
    | bw _ => cases hd
  | bl b => cases r with
    | v d => have e' : d = .bl b := hd; subst e'; cases q; exact .base (.bl b)
    | nl _ => cases hd
    | bw _ => cases hd
  | int b => cases r with
    | v d => have e' : d = .int b := hd; subst e'; cases q; exact .base (.int b)
    | nl _ => cases hd
    | bw _ => cases hd
  | str b => cases r with
    | v d => have e' : d = .str b := hd; subst e'; cases q; exact .base (.str b)
    | nl _ => cases hd
    | bw _ => cases hd
  | obj b => rw [hd] at n; cases n
theorem imp_isi {a : E} {ty : Ty} (t : tE A Wx (.isi a ty) σ H Q) : tCB (rIsi A.K) (tCons (tE A Wx a) (tCons (tC (.ty ty.nm)) tNil)) σ H Q := by
  obtain ⟨W, h, oA, ss, w, s, p⟩ := t
  simp only [evE] at p
  refine tE_bind w s p fun W1 H1 r1 h1 v x1 w1 s1 q1 p1 p0 => ?_
  split at p1
  · rename_i n
    exact ⟨v, .ty ty.nm, _, _, _, rfl, .ty _, ty_of w1 q1 n, kit_ty (kit_all ty _ n), done_v w1 (p1.mono (Ext.refl _ _) (TR.back x1)) (.bl _)⟩
  · exact False.elim p1
end
end GV
set_option Elab.async false
set_option linter.all false
set_option maxRecDepth 100000
set_option maxHeartbeats 4000000
/-! GV10: targets, walks, comprehensions. -/
namespace GV
open PySem L2
/-! ### a list that is in nobody's data changes -/
section
variable {K : PySem.W.Frag} {cl : Nat → Option Addr} {W : Wd} {H : Hp} {h : MH} {p : Addr} {xs ys : List V} {oA : Nat → Option Addr} {ss : SS} {σ : L2.St}
theorem ne_fp {a : Addr} (z : W.fp a) (m : ¬ W.fp p) : a ≠ p := fun q => m (q ▸ z)
theorem ne_F {a : Addr} (z : W.F a) (m : ¬ W.F p) : a ≠ p := fun q => m (q ▸ z)
mutual
theorem Rep.chg (e : H p = some (.lst xs)) (n : ¬ W.F p) : ∀ {v : V} {d : D}, Rep K W H v d → Rep K W (upd H p (.lst ys)) v d
  | _, _, .non => .non
  | _, _, .bl b => .bl b
  | _, _, .int i => .int i
  | _, _, .str s => .str s
  | _, _, .tup q r => .tup (by
      rcases q with (q | ⟨o, q⟩) | q
      · exact .inl (.inl (by rw [upd_ne (ne_of q e (by intro z; cases z))]; exact q))
      · exact .inl (.inr ⟨o, by rw [upd_ne (ne_of q e (by intro z; cases z))]; exact q⟩)
      · exact .inr q) (RepL.chg e n r)
  | _, _, .lst q f r => .lst (by
      rename_i a _ _
      have na : a ≠ p := ne_F f n
      rcases q with q | ⟨o, q⟩
      · exact .inl (by rw [upd_ne na]; exact q)
      · exact .inr ⟨o, by rw [upd_ne na]; exact q⟩) f (RepL.chg e n r)
  | _, _, .obj q => .obj q
theorem RepL.chg (e : H p = some (.lst xs)) (n : ¬ W.F p) : ∀ {vs : List V} {ds : List D}, RepL K W H vs ds → RepL K W (upd H p (.lst ys)) vs ds
  | _, _, .nil => .nil
  | _, _, .cons a b => .cons (Rep.chg e n a) (RepL.chg e n b)
end
theorem Paired.chg {i : Nat} (e : H p = some (.lst xs)) (n : ¬ W.F p) (m : ¬ W.fp p) : ∀ {fs : List (Str × Fd)} {gs : List (Str × V)}, Paired (FRel K W H i) fs gs → Paired (FRel K W (upd H p (.lst ys)) i) fs gs
  | _, _, .nil => .nil
  | (f, .v d) :: _, _, .cons a b => .cons ⟨a.1, Rep.chg e n a.2⟩ (Paired.chg e n m b)
  | (f, .own k xs) :: _, _, .cons a b => .cons ⟨a.1, by
      obtain ⟨_, q, vs, h1, h2, h3, h4⟩ := a
      exact ⟨q, vs, h1, h2, by rw [upd_ne (ne_fp ⟨_, h1⟩ m)]; exact h3, RepL.chg e n h4⟩⟩ (Paired.chg e n m b)
theorem WOk.chg (w : WOk K cl W h H) (e : H p = some (.lst xs)) (n : ¬ W.F p) (m : ¬ W.fp p) : WOk K cl W h (upd H p (.lst ys)) where
  inj := w.inj
  dis := w.dis
  cov := fun a z => by rw [upd_ne (ne_fp z m)]; exact w.cov a z
  frz := fun a z => by rw [upd_ne (ne_F z n)]; exact w.frz a z
  obj := fun i o q => by
    have r := w.obj i o q
    cases o with
    | lst zs =>
      obtain ⟨a, vs, e1, e2, e3⟩ := r
      exact ⟨a, vs, e1, by rw [upd_ne (ne_fp ⟨_, e1⟩ m)]; exact e2, RepL.chg e n e3⟩
    | ins c fs =>
      obtain ⟨a, C, dx, gs, e1, e2, e3, e4⟩ := r
      exact ⟨a, C, dx, gs, e1, e2, by rw [upd_ne (ne_fp ⟨_, e1⟩ m)]; exact e3, Paired.chg e n m e4⟩
  bnd := w.bnd
/-- what was before the list's birth stands -/
theorem Ext.chg {W0 : Wd} {H0 : Hp} (x : Ext W0 H0 W H) (e : H p = some (.lst xs)) (b : H0 p = none) : Ext W0 H0 W (upd H p (.lst ys)) where
  keep := fun a o q n => by rw [upd_ne (ne_of_none q b)]; exact x.keep a o q n
  there := fun a q => by
    by_cases z : a = p
    · subst z; rw [upd_same]; exact Option.some_ne_none _
    · rw [upd_ne z]; exact x.there a q
  fpn := x.fpn
  ids := x.ids
  fF := x.fF
  fn := x.fn
end
/-! ### targets -/
mutual
def gTg (K : PySem.W.Frag) : Tg → TG
  | .n j => gName j
  | .t ts => gTup K ts.length (gTgs K ts)
def gTgs (K : PySem.W.Frag) : List Tg → TGs
  | [] => gNil
  | t :: ts => gCons (gTg K t) (gTgs K ts)
end
section
variable {A : Stat} {W : Wd} {H : Hp} {oA : Nat → Option Addr} {ss ss' : SS} {σ : L2.St}
theorem SRel.setV {K : PySem.W.Frag} {j : Nat} {v : V} {d : D} (s : SRel K W H oA ss σ) (hj : j < ss.length) (r : Rep K W H v d) : SRel K W H oA (ss.set j (some (.v d))) (σ.set j (some v)) where
  vs := fun i e q => by
    by_cases z : j = i
    · subst z
      rw [List.getElem?_set_self hj] at q
      cases q
      exact ⟨v, by rw [List.getElem?_set_self (by rw [← s.len]; exact hj)], r⟩
    · rw [List.getElem?_set_ne z] at q ⊢
      exact s.vs i e q
  own := fun i xs q => by
    by_cases z : j = i
    · subst z
      rw [List.getElem?_set_self hj] at q
      cases q
    · rw [List.getElem?_set_ne z] at q
      obtain ⟨a, vs, e1, e2, e3⟩ := s.own i xs q
      exact ⟨a, vs, e1, by rw [List.getElem?_set_ne z]; exact e2, e3⟩
  bw := fun i xs q => by
    by_cases z : j = i
    · subst z
      rw [List.getElem?_set_self hj] at q
      cases q
    · rw [List.getElem?_set_ne z] at q
      obtain ⟨a, vs, e2, e3⟩ := s.bw i xs q
      exact ⟨a, vs, by rw [List.getElem?_set_ne z]; exact e2, e3⟩
  inj := s.inj
  free := s.free
  len := by simp [s.len]
/- the slots that a target stores -/
mutual
def Tg.js : Tg → List Nat
  | .n j => [j]
  | .t ts => Tg.jsL ts
def Tg.jsL : List Tg → List Nat
  | [] => []
  | x :: xs => Tg.js x ++ Tg.jsL xs
end
theorem wipe_set {j : Nat} {v : Option V} : ∀ {vs : List Nat} {σ : L2.St}, j ∈ vs → wipe (σ.set j v) vs = wipe σ vs
  | [], _, h => by cases h
  | u :: vs, σ, h => by
    unfold wipe
    by_cases e : j ∈ vs
    · rw [wipe_set e]
    · rcases List.mem_cons.mp h with z | z
      · subst z
        have : ∀ (vs : List Nat) (σ : L2.St), j ∉ vs → wipe (σ.set j v) vs = (wipe σ vs).set j v := by
          intro vs
          induction vs with
          | nil => intro σ _; rfl
          | cons w ws ih =>
            intro σ hn
            have h1 : j ≠ w := fun z => hn (by simp [z])
            have h2 : j ∉ ws := fun z => hn (by simp [z])
            unfold wipe
            rw [ih σ h2, List.set_comm _ _ h1]
        rw [this vs σ e, List.set_set]
      · exact absurd z e
def Kept (js : List Nat) (σ σ' : L2.St) : Prop := ∀ vs : List Nat, (∀ j ∈ js, j ∈ vs) → wipe σ' vs = wipe σ vs
mutual
theorem tg_ok : ∀ {t : Tg} {d : D} {v : V} {ss ss' : SS} {σ : L2.St} {Q : L2.St → Hp → Prop}, SRel A.K W H oA ss σ → Rep A.K W H v d → asgT t d ss = some ss' → (∀ σ', SRel A.K W H oA ss' σ' → Kept t.js σ σ' → Q σ' H) → gTg A.K t v σ H Q
  | .n j, d, v, ss, ss', σ, Q, s, r, e, k => by
    unfold asgT at e
    split at e
    · rename_i hj
      cases e
      rw [gTg]
      exact k _ (s.setV hj r) fun vs hv => wipe_set (hv j (by simp [Tg.js]))
    · cases e
  | .t ts, .tup ds, v, ss, ss', σ, Q, s, r, e, k => by
    rw [asgT] at e
    cases r with
    | tup q1 q2 =>
      rw [gTg]
      refine ⟨_, _, rfl, q1, ?_, tgs_ok s q2 e fun σ' s' kp => k σ' s' (by rw [Tg.js]; exact kp)⟩
      rw [q2.length]
      exact (tgs_len e).symm
  | .t ts, .non, _, _, _, _, _, _, _, e, _ => by simp [asgT] at e
  | .t ts, .bl _, _, _, _, _, _, _, _, e, _ => by simp [asgT] at e
  | .t ts, .int _, _, _, _, _, _, _, _, e, _ => by simp [asgT] at e
  | .t ts, .str _, _, _, _, _, _, _, _, e, _ => by simp [asgT] at e
  | .t ts, .lst _, _, _, _, _, _, _, _, e, _ => by simp [asgT] at e
  | .t ts, .obj _, _, _, _, _, _, _, _, e, _ => by simp [asgT] at e
theorem tgs_ok : ∀ {ts : List Tg} {ds : List D} {vs : List V} {ss ss' : SS} {σ : L2.St} {Q : L2.St → Hp → Prop}, SRel A.K W H oA ss σ → RepL A.K W H vs ds → asgTs ts ds ss = some ss' → (∀ σ', SRel A.K W H oA ss' σ' → Kept (Tg.jsL ts) σ σ' → Q σ' H) → gTgs A.K ts vs σ H Q
  | [], [], vs, ss, ss', σ, Q, s, r, e, k => by
    rw [asgTs] at e
    cases e
    cases r
    rw [gTgs]
    exact ⟨rfl, k _ s fun _ _ => rfl⟩
  | [], _ :: _, _, _, _, _, _, _, _, e, _ => by simp [asgTs] at e
  | _ :: _, [], _, _, _, _, _, _, _, e, _ => by simp [asgTs] at e
  | t :: ts, d :: ds, vs, ss, ss', σ, Q, s, r, e, k => by
    rw [asgTs] at e
    cases q : asgT t d ss with
    | none => rw [q] at e; cases e
    | some ss1 =>
      rw [q] at e
      cases r with
      | cons r1 r2 =>
        rw [gTgs]
        exact ⟨_, _, rfl, tg_ok s r1 q fun σ1 s1 k1 => tgs_ok s1 r2 e fun σ2 s2 k2 => k σ2 s2 fun vs hv => (k2 vs fun j hj => hv j (by simp [Tg.jsL, hj])).trans (k1 vs fun j hj => hv j (by simp [Tg.jsL, hj]))⟩
theorem tgs_len : ∀ {ts : List Tg} {ds : List D} {ss ss' : SS}, asgTs ts ds ss = some ss' → ts.length = ds.length
  | [], [], _, _, _ => rfl
  | [], _ :: _, _, _, e => by simp [asgTs] at e
  | _ :: _, [], _, _, e => by simp [asgTs] at e
  | t :: ts, d :: ds, ss, ss', e => by
    rw [asgTs] at e
    cases q : asgT t d ss with
    | none => rw [q] at e; cases e
    | some ss1 =>
      rw [q] at e
      simp [tgs_len (ts := ts) e]
end
theorem wipeS_length (ss : SS) : ∀ vs : List Nat, (wipeS ss vs).length = ss.length
  | [] => rfl
  | v :: vs => by simp [wipeS, wipeS_length ss vs]
theorem wipeS_some {x : Sl} {i : Nat} : ∀ {vs : List Nat}, (wipeS ss vs)[i]? = some (some x) → ss[i]? = some (some x) ∧ i ∉ vs
  | [], h => ⟨h, by simp⟩
  | v :: vs, h => by
    unfold wipeS at h
    by_cases hi : v = i
    · subst hi
      by_cases hv : v < (wipeS ss vs).length
      · rw [List.getElem?_set_self hv] at h; cases h
      · rw [List.getElem?_eq_none (by simpa using hv)] at h; cases h
    · rw [List.getElem?_set_ne hi] at h
      obtain ⟨h1, h2⟩ := wipeS_some h
      exact ⟨h1, by simp only [List.mem_cons, not_or]; exact ⟨fun e => hi e.symm, h2⟩⟩
theorem SRel.wiped (s : SRel A.K W H oA ss σ) (vs : List Nat) : SRel A.K W H oA (wipeS ss vs) (wipe σ vs) where
  vs := fun j d e => by
    obtain ⟨h1, h2⟩ := wipeS_some e
    rw [wipe_out h2]
    exact s.vs j d h1
  own := fun j d e => by
    obtain ⟨h1, h2⟩ := wipeS_some e
    rw [wipe_out h2]
    exact s.own j d h1
  bw := fun j d e => by
    obtain ⟨h1, h2⟩ := wipeS_some e
    rw [wipe_out h2]
    exact s.bw j d h1
  inj := s.inj
  free := s.free
  len := by rw [wipeS_length, wipe_length]; exact s.len
end
end GV
set_option Elab.async false
set_option linter.all false
set_option maxRecDepth 100000
set_option maxHeartbeats 4000000
/-! GV11: what is walked; comprehensions. -/
namespace GV
open PySem L2
abbrev W0 : WX := fun _ _ _ _ => False
def iSeq (K : PySem.W.Frag) (tl : TE) : TI := fun σ H R => tl σ H fun x H1 => ∃ a, x = .ref a ∧ (((∃ xs, SqL K H1 a xs) ∧ R (Itl K a) H1) ∨ ((∃ xs, SqT K H1 a xs) ∧ R (Itt K a) H1))
theorem pi_seq {X : Cx} {tg l : Expr} {tl : TE} (hl : PE X l tl) : PI X tg l (iSeq X.K tl) := by
  refine ⟨fun pins s σ H R I h => ?_⟩
  refine thn (hl.run pins s σ H _ I h) fun v s1 ⟨x, H1, I1, r1, q1⟩ => ?_
  obtain ⟨a, e, q⟩ := q1
  subst e
  cases r1
  rcases q with ⟨⟨xs, hq⟩, q⟩ | ⟨⟨xs, hq⟩, q⟩
  · obtain ⟨its, rv, p, hz⟩ := I1.list hq
    refine wpAny_pyIter_list p.isList ?_
    refine ⟨s1.heap.objs.size, [s1.heap.objs.size], _, _, H1, rfl, I1.kept (t' := s1.toks) fun b o e => Heap.get?_push_of_some _ e, turn_list a _, ⟨_, Heap.get?_push_size _ rfl, rfl, rfl⟩, fun b hb => ?_, q⟩
    have e : b = s1.heap.objs.size := by simpa using hb
    subst e
    exact I1.fpOk (Nat.le_refl _) (I1.hok.fresh (Nat.le_refl _))
  · obtain ⟨its, rv, p, hz⟩ := I1.tuple hq
    refine wpAny_pyIter_tuple (show s1.heap.IsTuple a its.toArray from p) ?_
    refine ⟨s1.heap.objs.size, [s1.heap.objs.size], _, _, H1, rfl, I1.kept (t' := s1.toks) fun b o e => Heap.get?_push_of_some _ e, turn_tuple a _, ⟨_, Heap.get?_push_size _ rfl, rfl, rfl⟩, fun b hb => ?_, q⟩
    have e : b = s1.heap.objs.size := by simpa using hb
    subst e
    exact I1.fpOk (Nat.le_refl _) (I1.hok.fresh (Nat.le_refl _))
def iK (A : Stat) (Wx : WX) : IK → List E → TI
  | .seq, [e] => iSeq A.K (tE A Wx e)
  | .rng, [a] => iRng1 (tA A Wx [a])
  | .rng, [a, b] => iRng2 (tA A Wx [a, b])
  | .enum, [e] => iEnumA A.K (tA A Wx [e])
  | .zip, [a, b] => iZip2 A.K (tA A Wx [a, b])
  | .zip, [a, b, c] => iZip3 A.K (tA A Wx [a, b, c])
  | _, _ => fun _ _ _ => False
def srcB : IK → List E → Bool
  | .seq, [_] => true
  | .rng, [_] => true
  | .rng, [_, _] => true
  | .enum, [_] => true
  | .zip, [_, _] => true
  | .zip, [_, _, _] => true
  | _, _ => false
/-- J walks the items ds, as long as P holds of the state -/
def Wk (A : Stat) (P : Wd → Hp → Prop) (ds : List D) (J : It) : Prop := ∃ G Y, Walk J ds.length G Y ∧ (∀ W' H', P W' H' → G H') ∧
  ∀ i H' x H'' W' h', i < ds.length → P W' H' → WOkA A W' h' H' → Y i H' x H'' → ∃ d, ds[i]? = some d ∧ Rep A.K W' H'' x d ∧ Ext W' H' W' H'' ∧ WOkA A W' h' H''
/-- a source of a walk stands while P holds -/
def SrcOk (A : Stat) (P : Wd → Hp → Prop) (v : V) (r : R) : Prop :=
  (∀ xs, r.rd = .lst xs → ∃ p vs, v = .ref p ∧ ∀ W' H', P W' H' → SqL A.K H' p vs ∧ RepL A.K W' H' vs xs) ∧
  (∀ xs, r.rd = .tup xs → ∃ p vs, v = .ref p ∧ ∀ W' H', P W' H' → SqT A.K H' p vs ∧ RepL A.K W' H' vs xs)
section
variable {A : Stat} {Wx : WX} {σ : L2.St} {H H0 : Hp} {W : Wd} {h : MH} {P : Wd → Hp → Prop}
theorem srcExt {v : V} {r : R} (w : WOkA A W h H) (q : RRel A.K W H0 H v r) : SrcOk A (Ext W H) v r :=
  ⟨fun xs e => let ⟨p, vs, e1, e2, e3, e4⟩ := q.rdLst w e; ⟨p, vs, e1, fun W' H' x => ⟨.inl (rd_ext x e4 e2), RepL.ext w x e3⟩⟩,
   fun xs e => let ⟨p, vs, e1, e2, e3⟩ := q.rdTup e; ⟨p, vs, e1, fun W' H' x => ⟨sqT_ext w x e2, RepL.ext w x e3⟩⟩⟩
theorem wk_list {a : Addr} {vs : List V} {ds : List D} (hl : vs.length = ds.length) (q : ∀ W' H', P W' H' → SqL A.K H' a vs ∧ RepL A.K W' H' vs ds) : Wk A P ds (Itl A.K a) := by
  refine ⟨fun H => SqL A.K H a vs, YAt vs, by rw [← hl]; exact walk_list, fun W' H' x => (q W' H' x).1, fun i H' x H'' W' h' hi ex w' y => ?_⟩
  obtain ⟨rfl, e1⟩ := y
  obtain ⟨d, e2, e3⟩ := (q _ _ ex).2.get e1
  exact ⟨d, e2, e3, Ext.refl _ _, w'⟩
theorem wk_tup {a : Addr} {vs : List V} {ds : List D} (hl : vs.length = ds.length) (q : ∀ W' H', P W' H' → SqT A.K H' a vs ∧ RepL A.K W' H' vs ds) : Wk A P ds (Itt A.K a) := by
  refine ⟨fun H => SqT A.K H a vs, YAt vs, by rw [← hl]; exact walk_tup, fun W' H' x => (q W' H' x).1, fun i H' x H'' W' h' hi ex w' y => ?_⟩
  obtain ⟨rfl, e1⟩ := y
  obtain ⟨d, e2, e3⟩ := (q _ _ ex).2.get e1
  exact ⟨d, e2, e3, Ext.refl _ _, w'⟩
theorem rngD_len (a b : Int) : (rngD a b).length = (b - a).toNat := by simp [rngD]
theorem wk_rng (a b : Int) : Wk A P (rngD a b) (Itr a (b - a).toNat) := by
  refine ⟨fun _ => True, YFn fun i => .int (a + i), by rw [rngD_len]; exact walk_range, fun _ _ _ => trivial, fun i H' x H'' W' h' hi ex w' y => ?_⟩
  obtain ⟨rfl, rfl⟩ := y
  refine ⟨.int (a + i), ?_, .int _, Ext.refl _ _, w'⟩
  rw [rngD_len] at hi
  simp [rngD, hi]
theorem new_pair {T : Addr} {x y : V} {d d' : D} {W' : Wd} {H' : Hp} {h' : MH} (w' : WOkA A W' h' H') (n : H' T = none) (r : Rep A.K W' H' x d) (r' : Rep A.K W' H' y d') :
    Rep A.K W' (upd H' T (.tup [x, y])) (.ref T) (.tup [d, d']) ∧ Ext W' H' W' (upd H' T (.tup [x, y])) ∧ WOkA A W' h' (upd H' T (.tup [x, y])) :=
  ⟨.tup (SqT.of upd_same) (.cons (r.ext w' (Ext.laid n)) (.cons (r'.ext w' (Ext.laid n)) .nil)), Ext.laid n, w'.laid n⟩
theorem wk_enum {a : Addr} {vs : List V} {ds : List D} (hl : vs.length = ds.length) (q : ∀ W' H', P W' H' → SqL A.K H' a vs ∧ RepL A.K W' H' vs ds) : Wk A P (ds.zipIdx.map fun p => .tup [.int (p.2 : Nat), p.1]) (Ite A.K a) := by
  refine ⟨fun H => SqL A.K H a vs, YPair (fun i => some (.int (i : Nat))) (fun i => vs[i]?), by simp only [List.length_map, List.length_zipIdx]; rw [← hl]; exact walk_enum, fun W' H' x => (q W' H' x).1, fun i H' x H'' W' h' hi ex w' y => ?_⟩
  obtain ⟨T, x1, y1, rfl, nT, rfl, e1, e2⟩ := y
  obtain ⟨d, e3, e4⟩ := (q _ _ ex).2.get e2
  cases e1
  obtain ⟨q1, q2, q3⟩ := new_pair w' nT (.int (i : Nat)) e4
  exact ⟨_, by simp [List.getElem?_zipIdx, e3], q1, q2, q3⟩
theorem wk_enumT {a : Addr} {vs : List V} {ds : List D} (hl : vs.length = ds.length) (q : ∀ W' H', P W' H' → SqT A.K H' a vs ∧ RepL A.K W' H' vs ds) : Wk A P (ds.zipIdx.map fun p => .tup [.int (p.2 : Nat), p.1]) (IteT A.K a) := by
  refine ⟨fun H => SqT A.K H a vs, YPair (fun i => some (.int (i : Nat))) (fun i => vs[i]?), ?_, fun W' H' x => (q W' H' x).1, fun i H' x H'' W' h' hi ex w' y => ?_⟩
  · have hn : (ds.zipIdx.map fun p => D.tup [.int (p.2 : Nat), p.1]).length = vs.length := by simp [hl]
    rw [hn]
    refine ⟨fun i _ hi q => ⟨vs, vs[i], q, by simp [hi]⟩, fun _ q => ⟨vs, q, rfl⟩, fun i H v H' _ q y => ?_⟩
    obtain ⟨T, x, h1, h2, h3, h4⟩ := y
    exact ⟨T, _, x, h1, h2, h3, rfl, h4 vs q⟩
  · obtain ⟨T, x1, y1, rfl, nT, rfl, e1, e2⟩ := y
    obtain ⟨d, e3, e4⟩ := (q _ _ ex).2.get e2
    cases e1
    obtain ⟨q1, q2, q3⟩ := new_pair w' nT (.int (i : Nat)) e4
    exact ⟨_, by simp [List.getElem?_zipIdx, e3], q1, q2, q3⟩
theorem wk_zip2 {b c : Bool} {a a' : Addr} {vs us : List V} {ds es : List D} (hl : vs.length = ds.length) (hl' : us.length = es.length) (q : ∀ W' H', P W' H' → SqB A.K b H' a vs ∧ RepL A.K W' H' vs ds) (q' : ∀ W' H', P W' H' → SqB A.K c H' a' us ∧ RepL A.K W' H' us es) :
    Wk A P ((ds.zip es).map fun p => .tup [p.1, p.2]) (It2 A.K b c a a') := by
  refine ⟨fun H => SqB A.K b H a vs ∧ SqB A.K c H a' us, YPair (fun i => vs[i]?) (fun i => us[i]?), ?_, fun W' H' x => ⟨(q W' H' x).1, (q' W' H' x).1⟩, fun i H' x H'' W' h' hi ex w' y => ?_⟩
  · have hn : ((ds.zip es).map fun p => D.tup [p.1, p.2]).length = min vs.length us.length := by simp [hl, hl']
    rw [hn]
    refine ⟨fun i _ hi q => ?_, fun _ q => ⟨vs, us, q.1, q.2, rfl⟩, fun i H v H' _ q y => ?_⟩
    · have h1 : i < vs.length := by omega
      have h2 : i < us.length := by omega
      exact ⟨vs, us, vs[i], us[i], q.1, q.2, by simp [h1], by simp [h2]⟩
    · obtain ⟨T, x, z, h1, h2, h3, h4, h5⟩ := y
      exact ⟨T, x, z, h1, h2, h3, h4 vs q.1, h5 us q.2⟩
  · obtain ⟨T, x1, y1, rfl, nT, rfl, e1, e2⟩ := y
    obtain ⟨d, e3, e4⟩ := (q _ _ ex).2.get e1
    obtain ⟨d', e5, e6⟩ := (q' _ _ ex).2.get e2
    obtain ⟨q1, q2, q3⟩ := new_pair w' nT e4 e6
    exact ⟨_, by simp [List.getElem?_zip_eq_some, e3, e5], q1, q2, q3⟩
theorem new_triple {T : Addr} {x y z : V} {d d' d'' : D} {W' : Wd} {H' : Hp} {h' : MH} (w' : WOkA A W' h' H') (n : H' T = none) (r : Rep A.K W' H' x d) (r' : Rep A.K W' H' y d') (r'' : Rep A.K W' H' z d'') :
    Rep A.K W' (upd H' T (.tup [x, y, z])) (.ref T) (.tup [d, d', d'']) ∧ Ext W' H' W' (upd H' T (.tup [x, y, z])) ∧ WOkA A W' h' (upd H' T (.tup [x, y, z])) :=
  ⟨.tup (SqT.of upd_same) (.cons (r.ext w' (Ext.laid n)) (.cons (r'.ext w' (Ext.laid n)) (.cons (r''.ext w' (Ext.laid n)) .nil))), Ext.laid n, w'.laid n⟩
theorem wk_zip3 {b c d : Bool} {a a' a'' : Addr} {vs us ws : List V} {ds es fs : List D} (hl : vs.length = ds.length) (hl' : us.length = es.length) (hl'' : ws.length = fs.length) (q : ∀ W' H', P W' H' → SqB A.K b H' a vs ∧ RepL A.K W' H' vs ds) (q' : ∀ W' H', P W' H' → SqB A.K c H' a' us ∧ RepL A.K W' H' us es) (q'' : ∀ W' H', P W' H' → SqB A.K d H' a'' ws ∧ RepL A.K W' H' ws fs) :
    Wk A P ((ds.zip (es.zip fs)).map fun p => .tup [p.1, p.2.1, p.2.2]) (It3 A.K b c d a a' a'') := by
  refine ⟨fun H => SqB A.K b H a vs ∧ SqB A.K c H a' us ∧ SqB A.K d H a'' ws, fun i H v H' => ∃ T x y t, v = .ref T ∧ H T = none ∧ H' = upd H T (.tup [x, y, t]) ∧ vs[i]? = some x ∧ us[i]? = some y ∧ ws[i]? = some t, ?_, fun W' H' x => ⟨(q W' H' x).1, (q' W' H' x).1, (q'' W' H' x).1⟩, fun i H' x H'' W' h' hi ex w' y => ?_⟩
  · have hn : ((ds.zip (es.zip fs)).map fun p => D.tup [p.1, p.2.1, p.2.2]).length = min (min vs.length us.length) ws.length := by simp [hl, hl', hl''] <;> omega
    rw [hn]
    refine ⟨fun i _ hi q => ?_, fun _ q => ⟨vs, us, ws, q.1, q.2.1, q.2.2, rfl⟩, fun i H v H' _ q y => ?_⟩
    · have h1 : i < vs.length := by omega
      have h2 : i < us.length := by omega
      have h3 : i < ws.length := by omega
      exact ⟨vs, us, ws, vs[i], us[i], ws[i], q.1, q.2.1, q.2.2, by simp [h1], by simp [h2], by simp [h3]⟩
    · obtain ⟨T, x, z, t, h1, h2, h3, h4, h5, h6⟩ := y
      exact ⟨T, x, z, t, h1, h2, h3, h4 vs q.1, h5 us q.2.1, h6 ws q.2.2⟩
  · obtain ⟨T, x1, y1, t1, rfl, nT, rfl, e1, e2, e0⟩ := y
    obtain ⟨d, e3, e4⟩ := (q _ _ ex).2.get e1
    obtain ⟨d', e5, e6⟩ := (q' _ _ ex).2.get e2
    obtain ⟨d'', e7, e8⟩ := (q'' _ _ ex).2.get e0
    obtain ⟨q1, q2, q3⟩ := new_triple w' nT e4 e6 e8
    exact ⟨_, by rw [List.getElem?_map, (List.getElem?_zip_eq_some (z := (d, (d', d'')))).mpr ⟨e3, (List.getElem?_zip_eq_some (z := (d', d''))).mpr ⟨e5, e7⟩⟩]; rfl, q1, q2, q3⟩
theorem wk_none {ds : List D} {J : It} (hn : ∀ W' H', ¬ P W' H') (hJ : ∃ G Y, Walk J ds.length G Y ∧ ∀ H, ¬ G H) : Wk A P ds J := by
  obtain ⟨G, Y, w, g⟩ := hJ
  exact ⟨G, Y, w, fun W' H' p => (hn W' H' p).elim, fun i H' x H'' W' h' _ p => (hn W' H' p).elim⟩
theorem walk_false (J : It) (n : Nat) : ∃ G Y, Walk J n G Y ∧ ∀ H, ¬ G H := ⟨fun _ => False, fun _ _ _ _ => False, ⟨fun _ _ _ g => g.elim, fun _ g => g.elim, fun _ _ _ _ _ g => g.elim⟩, fun _ g => g⟩
theorem wk_cases {ds : List D} {J : It} (h : ∀ W' H', P W' H' → Wk A P ds J) : Wk A P ds J := by
  by_cases hp : ∃ W' H', P W' H'
  · obtain ⟨W', H', p⟩ := hp
    exact h W' H' p
  · exact wk_none (fun W' H' p => hp ⟨W', H', p⟩) (walk_false J _)
theorem wk_listE {a : Addr} {vs : List V} {ds : List D} (q : ∀ W' H', P W' H' → SqL A.K H' a vs ∧ RepL A.K W' H' vs ds) : Wk A P ds (Itl A.K a) := wk_cases fun W' H' p => wk_list (q W' H' p).2.length q
theorem wk_tupE {a : Addr} {vs : List V} {ds : List D} (q : ∀ W' H', P W' H' → SqT A.K H' a vs ∧ RepL A.K W' H' vs ds) : Wk A P ds (Itt A.K a) := wk_cases fun W' H' p => wk_tup (q W' H' p).2.length q
theorem wk_enumE {a : Addr} {vs : List V} {ds : List D} (q : ∀ W' H', P W' H' → SqL A.K H' a vs ∧ RepL A.K W' H' vs ds) : Wk A P (ds.zipIdx.map fun p => .tup [.int (p.2 : Nat), p.1]) (Ite A.K a) := wk_cases fun W' H' p => wk_enum (q W' H' p).2.length q
theorem wk_enumTE {a : Addr} {vs : List V} {ds : List D} (q : ∀ W' H', P W' H' → SqT A.K H' a vs ∧ RepL A.K W' H' vs ds) : Wk A P (ds.zipIdx.map fun p => .tup [.int (p.2 : Nat), p.1]) (IteT A.K a) := wk_cases fun W' H' p => wk_enumT (q W' H' p).2.length q
theorem wk_zip2E {b c : Bool} {a a' : Addr} {vs us : List V} {ds es : List D} (q : ∀ W' H', P W' H' → SqB A.K b H' a vs ∧ RepL A.K W' H' vs ds) (q' : ∀ W' H', P W' H' → SqB A.K c H' a' us ∧ RepL A.K W' H' us es) :
    Wk A P ((ds.zip es).map fun p => .tup [p.1, p.2]) (It2 A.K b c a a') := wk_cases fun W' H' p => wk_zip2 (q W' H' p).2.length (q' W' H' p).2.length q q'
theorem wk_zip3E {b c d : Bool} {a a' a'' : Addr} {vs us ws : List V} {ds es fs : List D} (q : ∀ W' H', P W' H' → SqB A.K b H' a vs ∧ RepL A.K W' H' vs ds) (q' : ∀ W' H', P W' H' → SqB A.K c H' a' us ∧ RepL A.K W' H' us es) (q'' : ∀ W' H', P W' H' → SqB A.K d H' a'' ws ∧ RepL A.K W' H' ws fs) :
    Wk A P ((ds.zip (es.zip fs)).map fun p => .tup [p.1, p.2.1, p.2.2]) (It3 A.K b c d a a' a'') := wk_cases fun W' H' p => wk_zip3 (q W' H' p).2.length (q' W' H' p).2.length (q'' W' H' p).2.length q q' q''
def R.isT (r : R) : Bool := match r.rd with
  | .tup _ => true
  | _ => false
theorem SrcOk.sq {v : V} {r : R} {xs : List D} (so : SrcOk A P v r) (e : r.rd.seq = some xs) : ∃ p vs, v = .ref p ∧ ∀ W' H', P W' H' → SqB A.K r.isT H' p vs ∧ RepL A.K W' H' vs xs := by
  cases hd : r.rd with
  | lst ys =>
    rw [hd] at e; cases e
    have ht : r.isT = false := by unfold R.isT; rw [hd]
    rw [ht]
    exact so.1 _ hd
  | tup ys =>
    rw [hd] at e; cases e
    have ht : r.isT = true := by unfold R.isT; rw [hd]
    rw [ht]
    exact so.2 _ hd
  | non => rw [hd] at e; cases e
  | bl _ => rw [hd] at e; cases e
  | int _ => rw [hd] at e; cases e
  | str _ => rw [hd] at e; cases e
  | obj _ => rw [hd] at e; cases e
theorem RRel.sq {v : V} {r : R} {xs : List D} (w : WOkA A W h H) (q : RRel A.K W H0 H v r) (e : r.rd.seq = some xs) : ∃ p vs, v = .ref p ∧ SqB A.K r.isT H p vs := by
  obtain ⟨p, vs, e1, e2⟩ := (srcExt w q).sq e
  exact ⟨p, vs, e1, (e2 W H (Ext.refl _ _)).1⟩
theorem P3 {r r' r'' : R} {vs : List V} (q : Paired (RRel A.K W H0 H) vs [r, r', r'']) : ∃ v v' v'', vs = [v, v', v''] ∧ RRel A.K W H0 H v r ∧ RRel A.K W H0 H v' r' ∧ RRel A.K W H0 H v'' r'' := by
  cases q with
  | cons a b =>
    cases b with
    | cons c d =>
      cases d with
      | cons e f => cases f; exact ⟨_, _, _, rfl, a, c, e⟩
theorem srcExtL {vs : List V} {rs : List R} (w : WOkA A W h H) (q : Paired (RRel A.K W H0 H) vs rs) : Paired (SrcOk A (Ext W H)) vs rs := Paired.mapP q fun _ _ z => srcExt w z
/-- what may be asked of an outcome -/
structure PrOk (A : Stat) (W : Wd) (H : Hp) (Wx : WX) (σ : L2.St) {β : Type} (Pr : O β → Prop) : Prop where
  no : ¬ Pr .no
  ex : ∀ c h', Pr (.ex c h') → ∀ W' H', Ext W H W' H' → WOkA A W' h' H' → Wx (A.xc c) none σ H'
theorem PostR.prOk {β : Type} {T : Wd → Hp → β → Prop} : PrOk A W H Wx σ (PostR A W H Wx σ T) := ⟨fun z => z, fun c h' z => z⟩
theorem tE_bindG {β : Type} {oA : Nat → Option Addr} {ss : SS} {e : E} {k : R → MH → O β} {Pr : O β → Prop} {Q : VK} (ok : PrOk A W H Wx σ Pr) (w : WOkA A W h H) (s : SRel A.K W H oA ss σ) (p : Pr ((evE A.G e ss h).bind k))
    (step : ∀ W1 H1 r h1 v, Ext W H W1 H1 → WOkA A W1 h1 H1 → SRel A.K W1 H1 oA ss σ → RRel A.K W1 H H1 v r → Pr (k r h1) → Q v H1) : tE A Wx e σ H Q := by
  refine ⟨W, h, oA, ss, w, s, ?_⟩
  cases q : evE A.G e ss h with
  | ok r h1 =>
    rw [q] at p
    exact fun W1 H1 x w1 v rr => step W1 H1 r h1 v x w1 (s.ext w x) rr p
  | ex c h1 => rw [q] at p; exact ok.ex c h1 p
  | no => rw [q] at p; exact (ok.no p).elim
theorem tA_bindG {β : Type} {oA : Nat → Option Addr} {ss : SS} {es : List E} {k : List R → MH → O β} {Pr : O β → Prop} {Q : List V → Hp → Prop} (ok : PrOk A W H Wx σ Pr) (w : WOkA A W h H) (s : SRel A.K W H oA ss σ) (p : Pr ((evL A.G es ss h).bind k))
    (step : ∀ W1 H1 rs h1 vs, evL A.G es ss h = .ok rs h1 → Ext W H W1 H1 → WOkA A W1 h1 H1 → SRel A.K W1 H1 oA ss σ → Paired (RRel A.K W1 H H1) vs rs → Pr (k rs h1) → Q vs H1) : tA A Wx es σ H Q := by
  refine ⟨W, h, oA, ss, w, s, ?_⟩
  cases q : evL A.G es ss h with
  | ok r h1 =>
    rw [q] at p
    exact fun W1 H1 x w1 v rr => step W1 H1 r h1 v q x w1 (s.ext w x) rr p
  | ex c h1 => rw [q] at p; exact ok.ex c h1 p
  | no => rw [q] at p; exact (ok.no p).elim
/-- the sources of a walk -/
theorem imp_src {β : Type} {k : IK} {src : List E} {oA : Nat → Option Addr} {ss : SS} {Pr : O β → Prop} {Kk : List R → List D → MH → O β} {R' : It → Hp → Prop} (ok : PrOk A W H Wx σ Pr) (hsrc : srcB k src = true) (w : WOkA A W h H) (s : SRel A.K W H oA ss σ)
    (p : Pr ((evL A.G src ss h).bind fun rs h => (O.of h (itemsR k rs)).bind (Kk rs)))
    (step : ∀ W1 H1 rs ds h1 J vs, Ext W H W1 H1 → WOkA A W1 h1 H1 → SRel A.K W1 H1 oA ss σ → Paired (RRel A.K W1 H H1) vs rs → (∀ P, Paired (SrcOk A P) vs rs → Wk A P ds J) → Pr (Kk rs ds h1) → R' J H1) : iK A Wx k src σ H R' := by
  have bad : ∀ {rs : List R} {h1 : MH}, itemsR k rs = none → Pr ((O.of h1 (itemsR k rs)).bind (Kk rs)) → False := fun e q => by rw [e] at q; exact ok.no q
  unfold iK
  split
  · -- a sequence
    rename_i e
    simp only [evL] at p
    rw [O.bind_assoc] at p
    simp only [O.bind_ok] at p
    refine tE_bindG ok w s p fun W1 H1 r1 h1 v x1 w1 s1 q1 p0 => ?_
    cases hi : r1.rd.seq with
    | none => exact (bad (rs := [r1]) (by simp [itemsR, hi]) p0).elim
    | some xs =>
      have hI : itemsR .seq [r1] = some xs := by simp [itemsR, hi]
      rw [hI] at p0
      obtain ⟨a, us, rfl, r, z⟩ := q1.rdSeq w1 hi
      refine ⟨a, rfl, ?_⟩
      rcases z with ⟨hd, z⟩ | ⟨hd, z⟩
      · obtain ⟨a', us', e1, e2, e3, e4⟩ := q1.rdLst w1 hd
        cases e1
        exact .inl ⟨⟨us', .inl e2⟩, step W1 H1 [r1] xs h1 _ [.ref a] x1 w1 s1 (.cons q1 .nil) (fun P so => by
          cases so with
          | cons so _ =>
            obtain ⟨p2, vs2, e5, e6⟩ := so.1 xs hd
            cases e5
            exact wk_listE e6) p0⟩
      · exact .inr ⟨⟨us, z⟩, step W1 H1 [r1] xs h1 _ [.ref a] x1 w1 s1 (.cons q1 .nil) (fun P so => by
          cases so with
          | cons so _ =>
            obtain ⟨p2, vs2, e5, e6⟩ := so.2 xs hd
            cases e5
            exact wk_tupE e6) p0⟩
  · -- range(n)
    refine tA_bindG ok w s p fun W1 H1 rs h1 vs eL x1 w1 s1 q1 p0 => ?_
    cases hi : itemsR .rng rs with
    | none => exact (bad hi p0).elim
    | some ds =>
      rw [hi] at p0
      have hl := evL_len eL
      unfold itemsR at hi
      split at hi
      · rename_i hk; cases hk
      · rename_i n _
        split at hi
        · rename_i hc
          cases hi
          have hc := of_decide_eq_true hc
          obtain ⟨v, rfl, qq⟩ := P1 (v := .non) q1
          cases qq
          have wk := fun P => wk_rng (A := A) (P := P) 0 n
          rw [Int.sub_zero] at wk
          exact ⟨n, rfl, hc.1, hc.2, step W1 H1 _ _ h1 _ _ x1 w1 s1 q1 (fun P _ => wk P) p0⟩
        · cases hi
      · simp at hl
      · rename_i hk; cases hk
      · rename_i hk; cases hk
      · rename_i hk; cases hk
      · cases hi
  · -- range(a, b)
    refine tA_bindG ok w s p fun W1 H1 rs h1 vs eL x1 w1 s1 q1 p0 => ?_
    cases hi : itemsR .rng rs with
    | none => exact (bad hi p0).elim
    | some ds =>
      rw [hi] at p0
      have hl := evL_len eL
      unfold itemsR at hi
      split at hi
      · rename_i hk; cases hk
      · simp at hl
      · rename_i a b _
        split at hi
        · rename_i hc
          cases hi
          have hc := of_decide_eq_true hc
          obtain ⟨v, v', rfl, q2, q3⟩ := P2 q1
          cases q2
          cases q3
          exact ⟨a, b, rfl, ⟨hc.1.1, hc.1.2, hc.2.1, hc.2.2⟩, step W1 H1 _ _ h1 _ _ x1 w1 s1 q1 (fun P _ => wk_rng a b) p0⟩
        · cases hi
      · rename_i hk; cases hk
      · rename_i hk; cases hk
      · rename_i hk; cases hk
      · cases hi
  · -- enumerate
    refine tA_bindG ok w s p fun W1 H1 rs h1 vs eL x1 w1 s1 q1 p0 => ?_
    cases hi : itemsR .enum rs with
    | none => exact (bad hi p0).elim
    | some ds =>
      rw [hi] at p0
      have hl := evL_len eL
      match rs, hl, hi, q1, p0 with
      | [r1], _, hi, q1, p0 =>
        obtain ⟨v, rfl, qq⟩ := P1 (v := .non) q1
        simp only [itemsR, Option.map_eq_some_iff] at hi
        obtain ⟨xs, hxs, rfl⟩ := hi
        obtain ⟨a, us, rfl, r, z⟩ := qq.rdSeq w1 hxs
        rcases z with ⟨hd, z⟩ | ⟨hd, z⟩
        · exact ⟨a, us, rfl, .inl ⟨.inl z, step W1 H1 _ _ h1 _ _ x1 w1 s1 q1 (fun P so => by
            cases so with
            | cons so _ =>
              obtain ⟨p2, vs2, e5, e6⟩ := so.1 xs hd
              cases e5
              exact wk_enumE e6) p0⟩⟩
        · exact ⟨a, us, rfl, .inr ⟨z, step W1 H1 _ _ h1 _ _ x1 w1 s1 q1 (fun P so => by
            cases so with
            | cons so _ =>
              obtain ⟨p2, vs2, e5, e6⟩ := so.2 xs hd
              cases e5
              exact wk_enumTE e6) p0⟩⟩
  · -- zip
    refine tA_bindG ok w s p fun W1 H1 rs h1 vs eL x1 w1 s1 q1 p0 => ?_
    cases hi : itemsR .zip rs with
    | none => exact (bad hi p0).elim
    | some ds =>
      rw [hi] at p0
      have hl := evL_len eL
      match rs, hl, hi, q1, p0 with
      | [r1, r2], _, hi, q1, p0 =>
        obtain ⟨v, v', rfl, q2, q3⟩ := P2 q1
        simp only [itemsR, Option.map_eq_some_iff, Option.bind_eq_some_iff] at hi
        obtain ⟨xs, hx, ys, hy, rfl⟩ := hi
        obtain ⟨a, us, rfl, z1⟩ := q2.sq w1 hx
        obtain ⟨a', us', rfl, z2⟩ := q3.sq w1 hy
        refine ⟨r1.isT, r2.isT, a, a', us, us', rfl, z1, z2, step W1 H1 _ _ h1 _ _ x1 w1 s1 q1 (fun P so => ?_) p0⟩
        cases so with
        | cons so so' =>
          cases so' with
          | cons so' _ =>
            obtain ⟨p2, vs2, e5, e6⟩ := so.sq hx
            obtain ⟨p3, vs3, e7, e8⟩ := so'.sq hy
            cases e5
            cases e7
            exact wk_zip2E e6 e8
  · -- zip of three
    refine tA_bindG ok w s p fun W1 H1 rs h1 vs eL x1 w1 s1 q1 p0 => ?_
    cases hi : itemsR .zip rs with
    | none => exact (bad hi p0).elim
    | some ds =>
      rw [hi] at p0
      have hl := evL_len eL
      match rs, hl, hi, q1, p0 with
      | [r1, r2, r3], _, hi, q1, p0 =>
        obtain ⟨v, v', v'', rfl, q2, q3, q4⟩ := P3 q1
        simp only [itemsR, Option.map_eq_some_iff, Option.bind_eq_some_iff] at hi
        obtain ⟨xs, hx, ys, hy, zs, hz, rfl⟩ := hi
        obtain ⟨a, us, rfl, z1⟩ := q2.sq w1 hx
        obtain ⟨a', us', rfl, z2⟩ := q3.sq w1 hy
        obtain ⟨a'', us'', rfl, z3⟩ := q4.sq w1 hz
        refine ⟨r1.isT, r2.isT, r3.isT, a, a', a'', us, us', us'', rfl, z1, z2, z3, step W1 H1 _ _ h1 _ _ x1 w1 s1 q1 (fun P so => ?_) p0⟩
        cases so with
        | cons so so' =>
          cases so' with
          | cons so' so'' =>
            cases so'' with
            | cons so'' _ =>
              obtain ⟨p2, vs2, e5, e6⟩ := so.sq hx
              obtain ⟨p3, vs3, e7, e8⟩ := so'.sq hy
              obtain ⟨p4, vs4, e9, e10⟩ := so''.sq hz
              cases e5
              cases e7
              cases e9
              exact wk_zip3E e6 e8 e10
  · -- nothing else
    rename_i n1 n2 n3 n4 n5 n6
    unfold srcB at hsrc
    split at hsrc
    · exact (n1 _ rfl rfl).elim
    · exact (n2 _ rfl rfl).elim
    · exact (n3 _ _ rfl rfl).elim
    · exact (n4 _ rfl rfl).elim
    · exact (n5 _ _ rfl rfl).elim
    · exact (n6 _ _ _ rfl rfl).elim
    · cases hsrc
/-! ### comprehensions -/
theorem wipe_wipe {σ : L2.St} : ∀ {vs us : List Nat}, (∀ j ∈ us, j ∈ vs) → wipe (wipe σ us) vs = wipe σ vs
  | vs, [], _ => rfl
  | vs, u :: us, h => by
    show wipe ((wipe σ us).set u none) vs = wipe σ vs
    rw [wipe_set (h u (by simp)), wipe_wipe fun j hj => h j (by simp [hj])]
def compF (G : Cfg) (t : Tg) (ss : SS) (ifs : List E) (e : E) : D → MH → O (Option D) := fun d h => match asgT t d ss with
  | none => .no
  | some ss1 => (evT G ifs ss1 h).bind fun b h => match b with
    | true => (evE G e ss1 h).bind fun r h => O.of h (r.toD.map some)
    | false => .ok none h
theorem evItems_no {f : D → MH → O (Option D)} {d : D} {ds acc : List D} {h : MH} (e : ∀ x h1, f d h ≠ .ok x h1) : evItems f (d :: ds) acc h = .no := by
  unfold evItems
  split
  · rename_i y h1 q; exact (e _ _ q).elim
  · rename_i h1 q; exact (e _ _ q).elim
  · rfl
theorem imp_comp {k : IK} {src : List E} {t : Tg} {own : List Nat} {ifs : List E} {e : E} {Q : VK} (hsrc : srcB k src = true) (hown : ∀ j ∈ t.js, j ∈ own) (z : tE A Wx (.comp k src t own ifs e) σ H Q) :
    tLc (iK A Wx k src) (gTg A.K t) (tTs A W0 ifs) (tE A W0 e) own σ H Q := by
  obtain ⟨W, h, oA, ss, w, s, p⟩ := z
  simp only [evE] at p
  refine imp_src (Kk := fun rs ds h => (evItems (compF A.G t (wipeS ss own) ifs e) ds [] h).bind fun xs h => O.ok (R.nl xs) h) PostR.prOk hsrc w s p fun W1 H1 rs ds h1 J vs x1 w1 s1 qs wk p0 => ?_
  intro Dd nD
  obtain ⟨G, Y, wlk, hG, hY⟩ := wk (Ext W1 H1) (srcExtL w1 qs)
  have x1n : ∀ a, H1 a = none → H a = none := fun a q => x1.new q
  refine lc_it wlk (fun i H' => ∃ W' h' acc us, Ext W1 H1 W' H' ∧ WOkA A W' h' H' ∧ H' Dd = some (.lst us) ∧ RepL A.K W' H' us acc ∧ ¬ W'.F Dd ∧ ¬ W'.fp Dd ∧
      PostR A W H Wx σ (TR A H Q) ((evItems (compF A.G t (wipeS ss own) ifs e) (ds.drop i) acc h').bind fun xs h => O.ok (R.nl xs) h)) ?_ ?_ ?_ ?_
  · refine ⟨W1, h1, [], [], Ext.laid nD, w1.laid nD, upd_same, .nil, fun z => w1.frz _ z nD, fun z => ?_, by simpa using p0⟩
    rcases w1.cov _ z with ⟨xs, q⟩ | ⟨C, dx, fs, q⟩ <;> rw [nD] at q <;> cases q
  · intro i H' hi ⟨W', h', acc, us, x', w', _⟩
    exact hG W' H' x'
  · intro i x H' H'' hi ⟨W', h', acc, us, x', w', eD, rD, nF, nf, pp⟩ y
    obtain ⟨d, ed, rd, x2, w2⟩ := hY i H' x H'' W' h' hi x' w' y
    have eD2 : H'' Dd = some (.lst us) := x2.keep _ _ eD nf
    have dr : ds.drop i = d :: ds.drop (i + 1) := by
      obtain ⟨hlt, hget⟩ := List.getElem?_eq_some_iff.mp ed
      rw [List.drop_eq_getElem_cons hlt, hget]
    rw [dr] at pp
    have s2 : SRel A.K W' H'' oA (wipeS ss own) (wipe σ own) := ((s.ext w x1).ext w1 (x'.trans x2)).wiped own
    cases ea : asgT t d (wipeS ss own) with
    | none =>
      rw [evItems_no (by intro x h1 q; simp [compF, ea] at q)] at pp
      exact pp.elim
    | some ss1 =>
      refine tg_ok s2 rd ea fun σ' s' kp => ⟨?_, ?_⟩
      · rw [kp own hown, wipe_wipe fun _ hj => hj]
      · -- the test
        refine ⟨W', h', oA, ss1, w2, s', ?_⟩
        cases et : evT A.G ifs ss1 h' with
        | no =>
          rw [evItems_no (by intro x h1 q; simp [compF, ea, et] at q)] at pp
          exact pp
        | ex c h2 =>
          rw [evItems_no (by intro x h1 q; simp [compF, ea, et] at q)] at pp
          exact pp.elim
        | ok b h2 =>
          intro W3 H3 x3 w3
          have eD3 : H3 Dd = some (.lst us) := x3.keep _ _ eD2 nf
          have nDs : H'' Dd ≠ none := by rw [eD2]; exact Option.some_ne_none _
          have nF3 : ¬ W3.F Dd := fun z => (x3.fn _ z).elim nF nDs
          have nf3 : ¬ W3.fp Dd := fun z => (x3.fpn _ z).elim nf nDs
          have rD3 : RepL A.K W3 H3 us acc := (rD.ext w' x2).ext w2 x3
          have s3 : SRel A.K W3 H3 oA ss1 σ' := s'.ext w2 x3
          have x13 : Ext W1 H1 W3 H3 := (x'.trans x2).trans x3
          cases b with
          | false =>
            refine iteF ⟨W3, h2, acc, us, x13, w3, eD3, rD3, nF3, nf3, ?_⟩
            have ef : compF A.G t (wipeS ss own) ifs e d h' = .ok none h2 := by simp [compF, ea, et]
            unfold evItems at pp
            rw [ef] at pp
            exact pp
          | true =>
            refine iteT ⟨W3, h2, oA, ss1, w3, s3, ?_⟩
            have ef : compF A.G t (wipeS ss own) ifs e d h' = (evE A.G e ss1 h2).bind fun r h => O.of h (r.toD.map some) := by simp [compF, ea, et]
            cases ee : evE A.G e ss1 h2 with
            | no =>
              rw [evItems_no (by intro x h1 q; rw [ef, ee] at q; cases q)] at pp
              exact pp
            | ex c h3 =>
              rw [evItems_no (by intro x h1 q; rw [ef, ee] at q; cases q)] at pp
              exact pp.elim
            | ok r h3 =>
              intro W4 H4 x4 w4 v rr
              cases et : r.toD with
              | none =>
                rw [evItems_no (by intro x h1 q; rw [ef, ee] at q; simp [et] at q)] at pp
                exact pp.elim
              | some y =>
                have ef2 : compF A.G t (wipeS ss own) ifs e d h' = .ok (some y) h3 := by rw [ef, ee]; simp [et]
                unfold evItems at pp
                rw [ef2] at pp
                simp only at pp
                split at pp
                · rename_i hsm
                  have nD3 : H3 Dd ≠ none := by rw [eD3]; exact Option.some_ne_none _
                  have eD4 : H4 Dd = some (.lst us) := x4.keep _ _ eD3 nf3
                  have nF4 : ¬ W4.F Dd := fun z => (x4.fn _ z).elim nF3 nD3
                  have nf4 : ¬ W4.fp Dd := fun z => (x4.fpn _ z).elim nf3 nD3
                  have nF5 : ¬ (W4.fz H3 H4).F Dd := fun z => z.elim nF4 fun q => nD3 q.1
                  have w5 : WOkA A (W4.fz H3 H4) h3 H4 := fz_ok w4
                  have ry : Rep A.K (W4.fz H3 H4) H4 v y := rr.fz et
                  have rD5 : RepL A.K (W4.fz H3 H4) H4 us acc := (rD3.ext w3 x4).fz
                  refine ⟨us, eD4, by rw [rD5.length]; exact small_lt hsm, W4.fz H3 H4, h3, acc ++ [y], us ++ [v], ?_, w5.chg eD4 nF5 nf4, upd_same, ?_, nF5, nf4, pp⟩
                  · exact (x13.trans (fz_ext x4)).chg eD4 nD
                  · exact (rD5.append (.cons ry .nil)).chg eD4 nF5
                · exact pp.elim
  · intro H' ⟨W', h', acc, us, x', w', eD, rD, nF, nf, pp⟩
    rw [List.drop_length] at pp
    simp only [evItems, O.bind_ok] at pp
    exact pp W' H' (x1.trans x') w' (.ref Dd) ⟨Dd, us, rfl, x1n _ nD, eD, rD, nF, nf⟩
end
end GV
set_option Elab.async false
set_option linter.all false
set_option maxRecDepth 100000
set_option maxHeartbeats 4000000
/-! GV12: the program's expressions against the small language's. -/
namespace GV
open PySem L2
def visB (sc : Scope) (x : Str) : Bool := match sc.names.lookup x with
  | some .local => true
  | some .cell => true
  | some .free => true
  | _ => false
def locB (sc : Scope) (x : Str) : Bool := match sc.names.lookup x with
  | some .local => true
  | some .cell => true
  | _ => false
def glB (sc : Scope) (x : Str) : Bool := match sc.names.lookup x with
  | some .globalImplicit => true
  | _ => false
def nmOk (x : Str) : Bool := !(x == ("__debug__" : Str)) && !(x == ("__classdict__" : Str)) && !(x == ("__name__" : Str))
def notStar : Expr → Bool
  | .Starred _ _ => false
  | _ => true
def notSet : Expr → Bool
  | .Set _ _ _ => false
  | _ => true
def notSlice : Expr → Bool
  | .Slice _ _ _ _ => false
  | _ => true
def notIf : Expr → Bool
  | .IfExp _ _ _ _ => false
  | _ => true
def bopB : BOp → Operator → Bool
  | .add, .Add => true
  | .sub, .Sub => true
  | .mul, .Mult => true
  | .fdiv, .FloorDiv => true
  | .mod, .Mod => true
  | .pow, .Pow => true
  | _, _ => false
def copB : COp → CmpOp → Bool
  | .eq, .Eq => true
  | .ne, .NotEq => true
  | .lt, .Lt => true
  | .le, .LtE => true
  | .gt, .Gt => true
  | .ge, .GtE => true
  | .isin, .In => true
  | .notin, .NotIn => true
  | .is_, .Is => true
  | .isnot, .IsNot => true
  | _, _ => false
def Bi.nm : Bi → Str
  | .len => "len" | .sum => "sum" | .all => "all" | .any => "any" | .min => "min" | .max => "max" | .sorted => "sorted"
  | .tuple => "tuple" | .list => "list" | .str => "str" | .int => "int"
def relB (scope sc : Scope) : Scope :=
  { scope with names := scope.names.map fun (n, k) => if (k == .free && sc.kind == .function && sc.names.lookup n == some .cell) then (n, .cell) else (n, k) }
mutual
def chkG (N : List Str) (fnB : Str → Bool) (sc : Scope) : Tg → Expr → Bool
  | .n j, py => match py with
    | .Name x _ => N[j]? == some x && locB sc x && (fnB x || sc.names.lookup x == some .local)
    | _ => false
  | .t ts, py => match py with
    | .Tuple es _ _ => chkGs N fnB sc ts es
    | _ => false
def chkGs (N : List Str) (fnB : Str → Bool) (sc : Scope) : List Tg → List Expr → Bool
  | [], es => match es with
    | [] => true
    | _ => false
  | t :: ts, es => match es with
    | e :: es => chkG N fnB sc t e && notStar e && chkGs N fnB sc ts es
    | _ => false
end
def isTup : Expr → Bool
  | .Tuple _ _ _ => true
  | _ => false
mutual
def chkE (T : Tab) (N : List Str) : E → Scope → Expr → Bool
  | .non, _, py => match py with
    | .Constant .none _ _ => true
    | _ => false
  | .bl b, _, py => match py with
    | .Constant (.bool c) _ _ => b == c
    | _ => false
  | .int b, _, py => match py with
    | .Constant (.int c) _ _ => b == c
    | _ => false
  | .str b, _, py => match py with
    | .Constant (.str c) _ _ => b == c
    | _ => false
  | .v j, sc, py => match py with
    | .Name x _ => N[j]? == some x && visB sc x && nmOk x
    | _ => false
  | .g c, sc, py => match py with
    | .Name x _ => T.gn[c]? == some x && glB sc x && nmOk x
    | _ => false
  | .bin o a b, sc, py => match py with
    | .BinOp l op r _ => bopB o op && chkE T N a sc l && chkE T N b sc r
    | _ => false
  | .neg a, sc, py => match py with
    | .UnaryOp .USub x _ => chkE T N a sc x
    | _ => false
  | .cmp o a b, sc, py => match py with
    | .Compare l [op] [r] _ => copB o op && notSet r && chkE T N a sc l && chkE T N b sc r
    | _ => false
  | .chn o o' a b c, sc, py => match py with
    | .Compare l [op, op'] [r, q] _ => copB o op && copB o' op' && notSet q && chkE T N a sc l && chkE T N b sc r && chkE T N c sc q
    | _ => false
  | .and a b, sc, py => match py with
    | .BoolOp .And [x, y] _ => notIf x && notIf y && chkE T N a sc x && chkE T N b sc y
    | .BoolOp .And (x :: y :: z :: r) p => notIf x && chkE T N a sc x && chkE T N b sc (.BoolOp .And (y :: z :: r) p)
    | _ => false
  | .or a b, sc, py => match py with
    | .BoolOp .Or [x, y] _ => notIf x && notIf y && chkE T N a sc x && chkE T N b sc y
    | .BoolOp .Or (x :: y :: z :: r) p => notIf x && chkE T N a sc x && chkE T N b sc (.BoolOp .Or (y :: z :: r) p)
    | _ => false
  | .not a, sc, py => match py with
    | .UnaryOp .Not x _ => notIf x && chkE T N a sc x
    | _ => false
  | .ite c a b, sc, py => match py with
    | .IfExp t x y _ => notIf t && chkE T N c sc t && chkE T N a sc x && chkE T N b sc y
    | _ => false
  | .tup es, sc, py => match py with
    | .Tuple xs _ _ => chkL T N es sc xs
    | _ => false
  | .lst es, sc, py => match py with
    | .List xs _ => chkL T N es sc xs
    | _ => false
  | .ix a i, sc, py => match py with
    | .Subscript x y _ => notSlice y && chkE T N a sc x && chkE T N i sc y
    | _ => false
  | .sl a lo hi, sc, py => match py with
    | .Subscript x (.Slice l u none _) _ => chkE T N a sc x && chkO T N lo sc l && chkO T N hi sc u
    | _ => false
  | .rev a lo, sc, py => match py with
    | .Subscript x (.Slice l none (some (.UnaryOp .USub (.Constant (.int 1) _ _) _)) _) _ => (match lo, l with
      | none, none => true
      | some k, some (.Constant (.int m) _ _) => (k : Int) == m
      | _, _ => false) && chkE T N a sc x
    | _ => false
  | .call f es, sc, py => match py with
    | .Call (.Name x _) (y :: ys) [] _ => T.fn f == some x && glB sc x && nmOk x && chkL T N es sc (y :: ys)
    | _ => false
  | .bi f es, sc, py => match py with
    | .Call (.Name x _) (y :: ys) [] _ => f.nm == x && glB sc x && chkL T N es sc (y :: ys)
    | _ => false
  | .isi a t, sc, py => match py with
    | .Call (.Name x _) [y, .Name z _] [] _ => x == "isinstance" && glB sc x && z == (Str.ofString t.nm) && glB sc z && notStar y && chkE T N a sc y
    | _ => false
  | .comp k src t own ifs e, sc, py => match py with
    | .ListComp elt [⟨tg, iter, ifs', 0⟩] scope _ => blkC N sc scope (own.map fun i => (N.getD i "", i)) && (Tg.js t).all (fun j => own.contains j) && chkI T N k src sc tg iter
        && chkG N (fun x => scope.names.lookup x == some .cell) (relB scope sc) t tg && chkL T N ifs (relB scope sc) ifs' && decide (ifs.length ≤ 1) && ifs'.all notIf && chkE T N e (relB scope sc) elt
    | _ => false
  | _, _, _ => false
def chkL (T : Tab) (N : List Str) : List E → Scope → List Expr → Bool
  | [], _, xs => match xs with
    | [] => true
    | _ => false
  | e :: es, sc, xs => match xs with
    | x :: xs => notStar x && chkE T N e sc x && chkL T N es sc xs
    | _ => false
def chkO (T : Tab) (N : List Str) : Option E → Scope → Option Expr → Bool
  | none, _, x => match x with
    | none => true
    | _ => false
  | some e, sc, x => match x with
    | some x => chkE T N e sc x
    | _ => false
/-- what a loop or a comprehension walks -/
def chkI (T : Tab) (N : List Str) (k : IK) : List E → Scope → Expr → Expr → Bool
  | [], _, _, _ => false
  | e :: es, sc, tg, py => match k with
    | .seq => es.isEmpty && notSet py && chkE T N e sc py
    | .rng => match py with
      | .Call (.Name x _) (y :: ys) [] _ => x == "range" && glB sc x && decide (es.length ≤ 1) && notStar y && chkE T N e sc y && chkL T N es sc ys
      | _ => false
    | .enum => match py with
      | .Call (.Name x _) [y] [] _ => x == "enumerate" && glB sc x && es.isEmpty && isTup tg && notStar y && chkE T N e sc y
      | _ => false
    | .zip => match py with
      | .Call (.Name x _) [y, z] [] _ => x == "zip" && glB sc x && decide (es.length = 1) && isTup tg && notStar y && notStar z && chkE T N e sc y && chkL T N es sc [z]
      | .Call (.Name x _) [y, z, z2] [] _ => x == "zip" && glB sc x && decide (es.length = 2) && isTup tg && notStar y && notStar z && notStar z2 && chkE T N e sc y && chkL T N es sc [z, z2]
      | _ => false
end
end GV
set_option Elab.async false
set_option linter.all false
set_option maxRecDepth 100000
set_option maxHeartbeats 4000000
/-! GW1: a call within an except suite; which class an exception is of. -/
namespace GV
open PySem PySem.Spec PyProof.Rows L2 L2H
/-- isinstance(e, c), e pinned -/
theorem call_isP {X : Cx} {a D : Addr} {oe : Obj} (mem : (a, oe) ∈ X.pn) (C : ExcC X.K D) (hz : Zc (.ref D) none oe) (hf : ∃ vs, oe.data = .fields vs) : CallR X (.builtin "isinstance") (rIsE X.K D a) := by
  intro pins s σ H xs us Q I r h
  obtain ⟨c, cv, b, rfl, hcv, e, q⟩ := h
  cases r with
  | cons rx rr =>
    cases rr with
    | cons rt rr =>
      cases rr
      cases rx
      have ec := hcv _ rt
      subst ec
      obtain ⟨hget, _⟩ := I.pin (a, oe) (List.mem_append.mpr (.inl mem))
      obtain ⟨vs, hv⟩ := hf
      have J : PySem.W.InstAt s.heap a oe D none := by
        obtain ⟨oc, od, oda, osl⟩ := oe
        obtain ⟨h1, h2⟩ := hz
        dsimp only at h1 h2 hv
        subst h1 h2 hv
        exact ⟨hget, rfl, rfl, trivial⟩
      exact PySem.W.kia_one (PySem.W.handS_kitx_exc C.hg C.hk C.hs C.hd C.ha C.hn C.ht C.hm) I.kIn J e (fun z => nomatch z) fun tk => ⟨.bl b, H, I.kept (t' := tk) fun _ _ z => z, rfl, q⟩
/-- xs.count(True), xs bools -/
def rCntB (K : PySem.W.Frag) : V → List V → Hp → VK → Prop := fun x xs H Q => ∃ (p : Addr) (bs : List Bool), x = .ref p ∧ xs = [.bl true] ∧ SqL K H p (bs.map V.bl) ∧ Q (.int (bs.countP id : Nat)) H
theorem bls_count : ∀ {bs : List Bool} {us : List Value}, Vals (bs.map V.bl) us → us.countP (eqU (.bl true)) = bs.countP id
  | [], _, r => by cases r; rfl
  | b :: bs, _, r => by
    cases r with
    | @cons _ u _ _ a r2 =>
      have e : eqU (.bl true) u = b := by
        rw [eqU_of a rfl]
        cases b <;> rfl
      rw [List.countP_cons, List.countP_cons, bls_count r2, e]
      cases b <;> rfl
theorem mt_countB {X : Cx} : MtR X "list.count" (rCntB X.K) := by
  intro pins s σ H x xs v us Q I rx rxs h
  obtain ⟨p, bs, rfl, rfl, hs, q⟩ := h
  cases rx
  obtain ⟨u, rfl, ru⟩ := rxs.one
  obtain ⟨its, rv, ⟨⟨cls, dd, data, sl⟩, n, ho, hc, hdn, hd⟩, hlen⟩ := I.list hs
  simp only at hc hd
  subst hc hd
  have fys : (bs.map V.bl).all flatV = true := by simp [List.all_map, flatV]
  refine call_meets PySem.F.slot_list_count ⟨_, ho, rfl⟩ PySem.F.entry_list_count (PySem.F.args_list_count_2 _ _)
    (SeqAt.list_countAt p its.toArray n dd sl u (eqU (.bl true))) ⟨ho, fun u' hu' => mem_eqAt ru rfl rv fys u' (by simpa using hu'), ?_⟩
  have ec : its.toArray.toList.countP (eqU (.bl true)) = bs.countP id := bls_count rv
  refine ⟨.int (bs.countP id : Nat), H, I.tok _, ⟨s.toks, ?_⟩, q⟩
  show Value.int ((its.toArray.toList.countP (eqU (.bl true)) : Nat) : Int) s.toks = Value.int ((bs.countP id : Nat) : Int) s.toks
  rw [ec]
/-! ### a def that takes the handled exception -/
structure FnW (P : Program) (w : World) (K : PySem.W.Frag) (mg : Str → Option Value) (base : Heap) (CX : CXT) (k : Nat) (f : Addr) (fd : FuncData) (D : Addr) (R : Hp → VK → Prop) : Prop where
  run : ∀ (A : Around) (outer : List Env) (s : Shared) (H : Hp) (args : Args) (us : List Value) (Q : VK) (E : XK) (p : Addr × Obj), RoomH k A → PinOk outer H s p → Zc (.ref D) none p.2 → (∃ vs, p.2.data = .fields vs) → Env0 P w K mg base A outer s H → BindsTo s fd args ((["e"] : List Str).zip us) → Vals [.ref p.1] us → R H Q →
    codeAny (model P w) A (.call (.ref f) args) (CR CX outer P w H s Q E) s
theorem fn_ofW {CX : CXT} {P : Program} {w : World} {K : PySem.W.Frag} {mg : Str → Option Value} {base : Heap} {k : Nat} {f D : Addr} {name qual : Str} {params : Arguments} {body : List Stmt} {scope : Scope} {dV kV doc pm cdv ct oc : Value} {an od : Option Addr}
    {osl : Array (Option Value)} {N : List Str} {R : Hp → VK → Prop} (lk : K.lookup f = some ⟨oc, od, .func (PySem.W.fnOf name qual params body scope dV kV doc pm an cdv ct), osl⟩) (hcd : PySem.W.codeIn K cdv qual = true) (S : FnScope N ["e"] scope)
    (hbody : ∀ (A : Around) (outer : List Env) (s : Shared) (H : Hp) (Q : VK) (E : XK) (p : Addr × Obj), RoomH k (A.deeper (envOfC qual scope s.heap.objs.size f cdv)) → Zc (.ref D) none p.2 → (∃ vs, p.2.data = .fields vs) → R H Q →
      ∃ t, PSs (cxH CX P w K mg base N qual scope f cdv A outer s H E p) body t ∧ t { nx := fun _ H' => Q .non H', rt := Q } (L2.start N [.ref p.1]) H) :
    FnW P w K mg base CX (k + 1) f (PySem.W.fnOf name qual params body scope dV kV doc pm an cdv ct) D R := by
  refine ⟨fun A outer s H args us Q E p hr hpin hz hf e0 hb r hsp => ?_⟩
  have hl : ([.ref p.1] : List V).length = (["e"] : List Str).length := rfl
  have KX : K.In s.heap := e0.mod.kin.keeps fun b o e => (e0.bs b o e).1
  have lim : s.heap.NoLimit := e0.mod.nolimit.keeps fun b o e => (e0.bs b o e).1
  have hkind : ∀ y ∈ (["e"] : List Str).zip us, scope.names.lookup y.1 = some .local ∨ (scope.names.lookup y.1 = some .cell ∧ ((cellsFrom (s.heap.objs.size + 1) scope.names []).lookup y.1).isSome = true) := fun ⟨n, v⟩ hy => by
    rcases S.par n (List.of_mem_zip hy).1 with q | q
    · exact .inl q
    · exact .inr ⟨q, PySem.W.cellsFrom_some _ _ _ (.inl q)⟩
  refine codeAny_call_function hr.depth (KX _ _ lk) rfl S.co S.gen rfl (PySem.W.codeRec_of KX hcd) (hb _ _ _ _ ?_)
  refine wpAny_newFunctionEnv_cells S.kind hkind fun env he s1 x => ?_
  subst he
  refine ⟨lim.keeps x.toInCall.keep, codeAny_func ?_⟩
  obtain ⟨t, ht, hq⟩ := hbody A outer s H Q E p (hr.deeper _) hz hf hsp
  have I : Inv (cxH CX P w K mg base N qual scope f cdv A outer s H E p) [] (L2.start N [.ref p.1]) H s1 := inv_startH S hpin e0 hl r x
  refine wpAny_mono (ht.run [] s1 (L2.start N [.ref p.1]) H _ I hq) (fun fl s' hs => ?_) fun e s' hs => hs
  have fin : ∀ {σ' : L2.St} {H' : Hp} {v : V} {u : Value}, Inv (cxH CX P w K mg base N qual scope f cdv A outer s H E p) [] σ' H' s' → RelV v u → Q v H' → CE outer P w H s Q u s' :=
    fun {σ' H' v u} J rv q => ⟨v, H', J.os, J.bare, J.base, J.hok, rv, q⟩
  cases fl with
  | ret u =>
    obtain ⟨v, σ', H', J, rv, q⟩ := hs
    exact fin J rv q
  | next =>
    obtain ⟨σ', H', J, q⟩ := hs
    exact fin (v := V.non) (u := Value.none) J rfl q
  | brk =>
    obtain ⟨_, _, _, q⟩ := hs
    exact False.elim q
  | cont =>
    obtain ⟨_, _, _, q⟩ := hs
    exact False.elim q
/-- such a call in the suite -/
def tW (i : Nat) (a : Addr) (R : Hp → VK → Prop) : TE := fun σ H Q => σ[i]? = some (some (.ref a)) ∧ R H Q
theorem pe_callW {X : Cx} {a D f : Addr} {oe : Obj} {pn : List (Addr × Obj)} {fd : FuncData} {k i : Nat} {x n : Str} {q np pos : Pos} {R : Hp → VK → Prop} (F : FnW X.prog X.w X.K X.mg X.base (L2.CX X.prog X.w) k f fd D R) (hr : Room k X.A) (hz : Zc (.ref D) none oe) (hf : ∃ vs, oe.data = .fields vs)
    (hg : Gl X x) (hm : X.mg x = some (.ref f)) (hk : PySem.W.keepIn X.K (.ref f) = true) (hb : Binds X.K fd ["e"] []) (hdb : (x == ("__debug__" : Str)) = false) (hi : X.N[i]? = some n) (hv : Vis X.env.scope n) (n1 : (n == ("__debug__" : Str)) = false) (n2 : (n == ("__classdict__" : Str)) = false) :
    PE (X.suite a ((a, oe) :: pn)) (.Call (.Name x q) [.Name n np] [] pos) (tW i a R) := by
  refine ⟨fun pins s σ H Q I h => ?_⟩
  obtain ⟨hσ, hR⟩ := h
  have ha : PA (X.suite a ((a, oe) :: pn)) [.Name n np] (tCons (tVar i) tNil) := pa_cons (pe_var hi hv n1 n2) pa_nil rfl
  refine wpAny_Call_Name_kw (ld_glob (X := X.suite a ((a, oe) :: pn)) I hg hm ?_ hdb)
  refine PySem.W.callWith_K (h₀ := X.base) I.ok.mod.kin hk (thn (ha.run pos pins s σ H (fun vs H1 => vs = [.ref a] ∧ H1 = H) I ⟨_, hσ, rfl, rfl⟩) fun us s1 ⟨vs, H1, I1, r, ev, eH⟩ => ⟨I1.kIn, ?_⟩) rfl rfl
  subst ev eH
  have hl : us.length = (["e"] : List Str).length := by rw [← r.length]; rfl
  have b := hb s1 us I1.kIn (by rw [List.append_nil]; exact hl)
  rw [List.append_nil] at b
  have P1 := I1.pin (a, oe) (List.mem_append_left _ List.mem_cons_self)
  have hpin : PinOk X.stack H1 s1 (a, oe) := ⟨P1.1, P1.2.1, fun hm => (List.mem_cons.mp (I1.stkSub a hm)).elim P1.2.2.1 P1.2.2.2.1, P1.2.2.2.2⟩
  refine wpAny_call (codeAny_mono (F.run (X.A.mark (some (.ref a))) X.stack s1 H1 ⟨us, []⟩ us Q E0 (a, oe) ⟨hr.dp, hr.un⟩ hpin hz hf I1.env0 b r hR) fun r s' hq => ?_)
  cases r with
  | error e => exact (passL (X := X.suite a ((a, oe) :: pn)) pins σ H1 s1 e s' I1 hq)
  | ok fl =>
    cases fl with
    | ret u => exact I1.after hq
    | next => exact False.elim hq
    | brk => exact False.elim hq
    | cont => exact False.elim hq
end GV
set_option Elab.async false
set_option linter.all false
set_option maxRecDepth 100000
set_option maxHeartbeats 4000000
/-! GW2: the def that says which class an exception is of. -/
namespace GV
open PySem PySem.Spec PyProof.Rows L2 L2H
def isB (sc : Scope) (x : Str) : Expr → Bool
  | .Call (.Name f _) [.Name v _, .Name y _] [] _ => f == "isinstance" && (glB sc f && (v == "e" && (visB sc v && (y == x && (glB sc y && nmOk y)))))
  | _ => false
def isL (sc : Scope) : List Str → List Expr → Bool
  | [], [] => true
  | x :: xs, e :: es => isB sc x e && isL sc xs es
  | _, _ => false
def asgB (sc : Scope) (xs : List Str) : Stmt → Bool
  | .Assign [.Name v _] (.List es _) _ => v == "own" && (decide (sc.names.lookup v = some .local) && isL sc xs es)
  | _ => false
def extB (sc : Scope) (xs : List Str) : Stmt → Bool
  | .Expr (.Call (.Attribute (.Name v _) m ap) [.List es _] [] cp) _ => v == "own" && (visB sc v && (m == "extend" && ((ap.endLine == cp.line) && isL sc xs es)))
  | _ => false
def appB (sc : Scope) (x : Str) : Stmt → Bool
  | .Expr (.Call (.Attribute (.Name v _) m ap) [e] [] cp) _ => v == "own" && (visB sc v && (m == "append" && ((ap.endLine == cp.line) && isB sc x e)))
  | _ => false
def ifB (sc : Scope) : Stmt → Bool
  | .If (.BoolOp .Or [.Compare (.Call (.Attribute (.Name v _) m ap) [.Constant (.bool true) _ _] [] cp) [.NotEq] [.Constant (.int 1) _ _] _, .UnaryOp .Not e _] _) _ [] _ => v == "own" && (visB sc v && (m == "count" && ((ap.endLine == cp.line) && isB sc "ValueError" e)))
  | _ => false
def retB (sc : Scope) : Stmt → Bool
  | .Return (some (.Tuple [.Constant (.str r) _ _, .Call (.Attribute (.Name v _) m ap) [.Constant (.bool true) _ _] [] cp] _ _)) _ => r == "raised" && (v == "own" && (visB sc v && (m == "index" && (ap.endLine == cp.line))))
  | _ => false
/-- the classes, in the def's sequence -/
def wNames : List Str := ["InvalidBoard", "InvalidBag", "InvalidRow", "InvalidCounts", "InvalidThing", "InvalidExchange", "InvalidActs", "InvalidAct", "InvalidOffers", "InvalidNumber", "Blocked", "HasGain", "NoGain", "Endless", "NotEndless", "Different", "TooMany", "NotOffered", "Bought", "NothingToUndo", "ParseError"]
def whB (sc : Scope) : List Stmt → Bool
  | [a, b, c, d, e, f, g, h, i] => asgB sc (wNames.take 3) a && (extB sc ((wNames.drop 3).take 3) b && (extB sc ((wNames.drop 6).take 3) c && (extB sc ((wNames.drop 9).take 4) d && (extB sc ((wNames.drop 13).take 4) e && (extB sc ((wNames.drop 17).take 3) f && (appB sc "ParseError" g && (ifB sc h && retB sc i)))))))
  | _ => false
section
variable {X : Cx} {a D : Addr} {oe : Obj} {sc : Scope} {bv : Str → Bool}
structure WCx (X : Cx) (sc : Scope) (a D : Addr) (oe : Obj) (bv : Str → Bool) : Prop where
  mem : (a, oe) ∈ X.pn
  C : ExcC X.K D
  hz : Zc (.ref D) none oe
  hf : ∃ vs, oe.data = .fields vs
  nN : X.N = (["e", "own"] : List Str)
  sc : X.env.scope = sc
  fi : X.mg "isinstance" = none
  un : X.A.units + 65 < cLine
  fn : ∀ x, X.fn x = true
  cls : ∀ x ∈ wNames, ∃ C, X.mg x = some (.ref C) ∧ PySem.W.kitOne X.K (.ref D) (.ref C) = some (bv x)
  vm : X.mg "ValueError" = none
  ve : PySem.W.kitOne X.K (.ref D) (.type "ValueError") = some true
def tIs (a : Addr) (b : Bool) : TE := fun σ H Q => σ[0]? = some (some (.ref a)) ∧ Q (.bl b) H
theorem glW {x : Str} (w : WCx X sc a D oe bv) (h : glB sc x = true) : Gl X x := by
  unfold glB at h
  split at h
  · rename_i e
    show X.env.scope.names.lookup x = _
    rw [w.sc]
    exact e
  · cases h
theorem visW {x : Str} (w : WCx X sc a D oe bv) (h : visB sc x = true) : Vis X.env.scope x := by
  rw [w.sc]
  unfold visB at h
  split at h
  · rename_i e; exact .inl e
  · rename_i e; exact .inr (.inl e)
  · rename_i e; exact .inr (.inr e)
  · cases h
theorem nmW {x : Str} (h : nmOk x = true) : (x == ("__debug__" : Str)) = false := by
  unfold nmOk at h
  simp only [Bool.and_eq_true, Bool.not_eq_true'] at h
  exact h.1.1
theorem pe_is {x : Str} {e : Expr} (w : WCx X sc a D oe bv) (hx : x ∈ wNames) (h : isB sc x e = true) : PE X e (tIs a (bv x)) := by
  unfold isB at h
  split at h
  · rename_i f _ v _ y _ _
    simp only [Bool.and_eq_true, beq_iff_eq] at h
    obtain ⟨rfl, h2, rfl, h4, rfl, h6, h7⟩ := h
    obtain ⟨C, e1, e2⟩ := w.cls y hx
    exact PE.mono (pe_callB (call_isP w.mem w.C w.hz w.hf) (glW w h2) w.fi PyProof.Rows.boot_isinstance (pa_cons (pe_var (X := X) (i := 0) (by rw [w.nN]; rfl) (visW w h4) (by decide +kernel) (by decide +kernel)) (pa_cons (pe_glob (v := .ref C) (glW w h6) e1 rfl (nmW h7)) pa_nil rfl) rfl) (by decide +kernel) (by decide +kernel) rfl rfl) fun σ H Q z => ⟨_, z.1, .ref C, .ref C, bv y, rfl, fun u r => r, e2, z.2⟩
  · cases h
theorem pe_isV {e : Expr} (w : WCx X sc a D oe bv) (h : isB sc "ValueError" e = true) : PE X e (tIs a true) := by
  unfold isB at h
  split at h
  · rename_i f _ v _ y _ _
    simp only [Bool.and_eq_true, beq_iff_eq] at h
    obtain ⟨rfl, h2, rfl, h4, rfl, h6, h7⟩ := h
    exact PE.mono (pe_callB (call_isP w.mem w.C w.hz w.hf) (glW w h2) w.fi PyProof.Rows.boot_isinstance (pa_cons (pe_var (X := X) (i := 0) (by rw [w.nN]; rfl) (visW w h4) (by decide +kernel) (by decide +kernel)) (pa_cons (pe_bltn (v := .ty "ValueError") (u := .type "ValueError") (glW w h6) w.vm (by decide +kernel) rfl (by decide +kernel) (nmW h7)) pa_nil rfl) rfl) (by decide +kernel) (by decide +kernel) rfl rfl) fun σ H Q z => ⟨_, z.1, .ty "ValueError", .type "ValueError", true, rfl, fun u r => r, w.ve, z.2⟩
  · cases h
def tIsL (a : Addr) (bs : List Bool) : TA := fun σ H Q => σ[0]? = some (some (.ref a)) ∧ Q (bs.map V.bl) H
theorem star_is {x : Str} {e : Expr} {es : List Expr} {env : Env} (h : isB sc x e = true) : starEach (e :: es) env = (false, eval e env) :: starEach es env := by
  cases e <;> first | rfl | cases h
theorem pa_is (w : WCx X sc a D oe bv) : ∀ {xs : List Str} {es : List Expr}, (∀ x ∈ xs, x ∈ wNames) → isL sc xs es = true → PA X es (tIsL a (xs.map bv))
  | [], [], _, _ => PA.mono pa_nil fun σ H Q z => z.2
  | [], _ :: _, _, h => by simp [isL] at h
  | _ :: _, [], _, h => by simp [isL] at h
  | x :: xs, e :: es, hm, h => by
    simp only [isL, Bool.and_eq_true] at h
    exact PA.mono (pa_cons (pe_is w (hm x (by simp)) h.1) (pa_is w (fun y hy => hm y (by simp [hy])) h.2) (star_is h.1)) fun σ H Q z => ⟨z.1, z.1, z.2⟩
/-- the list so far -/
def Own (a l : Addr) (bs : List Bool) (σ : L2.St) (H : Hp) : Prop := σ[0]? = some (some (.ref a)) ∧ σ[1]? = some (some (.ref l)) ∧ H l = some (.lst (bs.map V.bl))
theorem ps_wasg {xs : List Str} {st : Stmt} (w : WCx X sc a D oe bv) (hm : ∀ x ∈ xs, x ∈ wNames) (hl : xs.length ≤ 100) (h : asgB sc xs st = true) : PS X st (fun Dn σ H => σ[0]? = some (some (.ref a)) ∧ σ.length = 2 ∧ ∀ l, H l = none → Dn.nx (σ.set 1 (some (.ref l))) (upd H l (.lst ((xs.map bv).map V.bl)))) := by
  unfold asgB at h
  split at h
  · rename_i v _ es _ _
    simp only [Bool.and_eq_true, beq_iff_eq, decide_eq_true_eq] at h
    obtain ⟨rfl, h2, h3⟩ := h
    refine PS.mono (ps_set (i := 1) (by rw [w.nN]; decide +kernel) (by rw [w.nN]; rfl) (by rw [w.sc]; exact .inl h2) (pe_lst (pa_is w hm h3)) rfl (.inl (w.fn _))) fun Dn σ H z => ?_
    refine ⟨z.1, ?_, fun l hl => z.2.2 l hl⟩
    rw [List.length_map, List.length_map]
    exact Nat.le_trans hl (by decide)
  · cases h
theorem pe_own {p : Pos} (w : WCx X sc a D oe bv) (h : visB sc "own" = true) : PE X (.Name "own" p) (tVar 1) := pe_var (X := X) (i := 1) (by rw [w.nN]; rfl) (visW w h) (by decide +kernel) (by decide +kernel)
theorem tyL {K : PySem.W.Frag} {H : Hp} {l : Addr} {vs : List V} (e : H l = some (.lst vs)) : tyV K "list" (.ref l) H := Or.inl ⟨rfl, _, Or.inl (Or.inl e)⟩
theorem ps_wext {xs : List Str} {st : Stmt} (w : WCx X sc a D oe bv) (hm : ∀ x ∈ xs, x ∈ wNames) (hl : xs.length ≤ 100) (h : extB sc xs st = true) : PS X st (fun Dn σ H => ∃ l bs, Own a l bs σ H ∧ bs.length ≤ 100 ∧ ∀ p, H p = none → Dn.nx σ (upd (upd H p (.lst ((xs.map bv).map V.bl))) l (.lst ((bs ++ xs.map bv).map V.bl)))) := by
  unfold extB at h
  split at h
  · rename_i v _ m ap es _ cp _
    simp only [Bool.and_eq_true, beq_iff_eq] at h
    obtain ⟨rfl, h2, rfl, h4, h5⟩ := h
    refine PS.mono (ps_expr (pe_bm PySem.F.plainAttrs_list PySem.F.slot_list_extend PySem.F.type_list_extend mt_extend (pe_own w h2) (pa_cons (pe_lst (pa_is w hm h5)) pa_nil rfl) rfl rfl (by simpa using h4) rfl rfl) rfl) fun Dn σ H z => ?_
    obtain ⟨l, bs, ⟨o1, o2, o3⟩, hb, z⟩ := z
    refine ⟨.ref l, o2, tyL o3, o1, ?_, fun p hp => ?_⟩
    · rw [List.length_map, List.length_map]
      exact Nat.le_trans hl (by decide)
    · have ne : l ≠ p := fun e => by rw [e, hp] at o3; cases o3
      refine ⟨l, p, bs.map V.bl, (xs.map bv).map V.bl, rfl, rfl, by rw [upd_ne ne]; exact o3, upd_same, ?_, ?_⟩
      · simp only [List.length_map]
        exact Nat.le_trans (show bs.length + xs.length ≤ 200 by omega) (by decide)
      · have := z p hp
        rw [List.map_append] at this
        exact this
  · cases h
theorem ps_wapp {x : Str} {st : Stmt} (w : WCx X sc a D oe bv) (hm : x ∈ wNames) (h : appB sc x st = true) : PS X st (fun Dn σ H => ∃ l bs, Own a l bs σ H ∧ bs.length ≤ 100 ∧ Dn.nx σ (upd H l (.lst ((bs ++ [bv x]).map V.bl)))) := by
  unfold appB at h
  split at h
  · rename_i v _ m ap e cp _
    simp only [Bool.and_eq_true, beq_iff_eq] at h
    obtain ⟨rfl, h2, rfl, h4, h5⟩ := h
    refine PS.mono (ps_expr (pe_bm PySem.F.plainAttrs_list PySem.F.slot_list_append PySem.F.type_list_append mt_append (pe_own w h2) (pa_cons (pe_is w hm h5) pa_nil (star_is h5)) rfl (by rw [star_is h5]; rfl) (by simpa using h4) (star_is h5) rfl) rfl) fun Dn σ H z => ?_
    obtain ⟨l, bs, ⟨o1, o2, o3⟩, hb, z⟩ := z
    refine ⟨.ref l, o2, tyL o3, o1, l, bs.map V.bl, .bl (bv x), rfl, rfl, o3, ?_, ?_⟩
    · rw [List.length_map]
      exact Nat.lt_of_le_of_lt hb (by decide)
    · rw [List.map_append] at z
      exact z
  · cases h
theorem ps_wif {st : Stmt} (w : WCx X sc a D oe bv) (h : ifB sc st = true) : PS X st (fun Dn σ H => ∃ l bs, Own a l bs σ H ∧ bs.countP id = 1 ∧ Dn.nx σ H) := by
  unfold ifB at h
  split at h
  · rename_i v _ m ap _ _ cp _ _ _ e _ _ body _
    simp only [Bool.and_eq_true, beq_iff_eq] at h
    obtain ⟨rfl, h2, rfl, h4, h5⟩ := h
    have pv : PT X e (tB (tIs a true)) := pt_val (pe_isV w h5) (by intro _; cases e <;> first | rfl | cases h5)
    have nev : PSs X body (fun _ _ _ => False) := ⟨fun _ _ _ _ _ _ z => z.elim⟩
    refine PS.mono (ps_if (PW.pt (pw_or (pt_cmpR (op_neD (by have := w.un; omega)) (pe_bm (X := X) (apos := ap) (cpos := cp) PySem.F.plainAttrs_list PySem.F.slot_list_count PySem.F.type_list_count mt_countB (pe_own w h2) (pa_cons (pe_bl (b := true)) pa_nil rfl) rfl rfl (by simpa using h4) rfl rfl) pe_int (by rfl)) (pw_or1 (pt_not pv)))) nev (pss_nil (X := X))) fun Dn σ H z => ?_
    obtain ⟨l, bs, ⟨o1, o2, o3⟩, hc, z⟩ := z
    refine ⟨.ref l, o2, tyL o3, l, bs, rfl, rfl, .inl (.inl o3), ?_⟩
    rw [hc]
    refine ⟨.int 1, .int 1, .int 1, .int 1, rfl, rfl, ⟨false, by rfl, iteF ⟨o1, true, rfl, iteF z⟩⟩⟩
  · cases h
theorem ps_wret {st : Stmt} (w : WCx X sc a D oe bv) (h : retB sc st = true) : PS X st (fun Dn σ H => ∃ l bs, ∃ c : Nat, Own a l bs σ H ∧ bs[c]? = some true ∧ (∀ m, m < c → bs[m]? = some false) ∧ ∀ p, H p = none → Dn.rt (.ref p) (upd H p (.tup [.str "raised", .int (c : Nat)]))) := by
  unfold retB at h
  split at h
  · rename_i r _ _ v _ m ap _ _ cp _ _ _
    simp only [Bool.and_eq_true, beq_iff_eq] at h
    obtain ⟨rfl, rfl, h2, rfl, h4⟩ := h
    refine PS.mono (ps_ret (pe_tup (pa_cons pe_str (pa_cons (pe_bm (X := X) (apos := ap) (cpos := cp) PySem.F.plainAttrs_list PySem.F.slot_list_index PySem.F.type_list_index mt_index (pe_own w h2) (pa_cons (pe_bl (b := true)) pa_nil rfl) rfl rfl (by simpa using h4) rfl rfl) pa_nil rfl) rfl))) fun Dn σ H z => ?_
    obtain ⟨l, bs, c, ⟨o1, o2, o3⟩, hc, hn, z⟩ := z
    refine ⟨.ref l, o2, tyL o3, l, bs.map V.bl, .bl true, c, .bl true, rfl, rfl, .inl (.inl o3), rfl, by simp [List.all_map, flatV], by simp [hc], rfl, fun m z' hm hz => ?_, by show 2 ≤ sizeLine; decide, z⟩
    rw [List.getElem?_map, hn m hm] at hz
    cases hz
    rfl
  · cases h
end
end GV
set_option Elab.async false
set_option linter.all false
set_option maxRecDepth 100000
set_option maxHeartbeats 4000000
/-! GW3: the def that says which class an exception is of, as a whole. -/
namespace GV
open PySem PySem.Spec PyProof.Rows L2 L2H
def Grow (H H' : Hp) : Prop := ∀ b o, H b = some o → H' b = some o
theorem Grow.refl (H : Hp) : Grow H H := fun _ _ e => e
theorem Grow.new {H H' : Hp} {p : Addr} {o : HO} (g : Grow H H') (n : H p = none) : Grow H (upd H' p o) := fun b u e => by
  rw [upd_ne (ne_of_none e n)]
  exact g b u e
theorem Grow.none {H H' : Hp} {p : Addr} (g : Grow H H') (n : H' p = none) : H p = none := by
  cases e : H p with
  | none => rfl
  | some o => rw [g p o e] at n; cases n
def raisedV (c : Nat) : HO := .tup [.str "raised", .int (c : Nat)]
/-- what is promised of it -/
def rWh (c : Nat) : Hp → VK → Prop := fun H Q => ∀ H' q, Grow H H' → H q = none → H' q = some (raisedV c) → Q (.ref q) H'
def bvOf (c : Nat) (x : Str) : Bool := wNames[c]? == some x
theorem wh_facts : ∀ c, c < 21 → (wNames.map (bvOf c)).countP id = 1 ∧ (wNames.map (bvOf c))[c]? = some true ∧ ∀ m, m < c → (wNames.map (bvOf c))[m]? = some false := by decide +kernel
section
variable {X : Cx} {a D : Addr} {oe : Obj} {sc : Scope}
theorem sub3 {l : List Str} {i j : Nat} {x : Str} (h : x ∈ (l.drop i).take j) : x ∈ l := List.mem_of_mem_drop (List.mem_of_mem_take h)
theorem pss_wh {c : Nat} {body : List Stmt} (hc : c < 21) (w : WCx X sc a D oe (bvOf c)) (h : whB sc body = true) : PSs X body (fun Dn σ H => σ = [some (.ref a), none] ∧ rWh c H Dn.rt) := by
  unfold whB at h
  split at h
  · rename_i s1 s2 s3 s4 s5 s6 s7 s8 s9
    simp only [Bool.and_eq_true] at h
    obtain ⟨g1, g2, g3, g4, g5, g6, g7, g8, g9⟩ := h
    obtain ⟨f1, f2, f3⟩ := wh_facts c hc
    have p1 := ps_wasg w (fun x hx => List.mem_of_mem_take hx) (by decide) g1
    have p2 := ps_wext w (fun x hx => sub3 hx) (by decide) g2
    have p3 := ps_wext w (fun x hx => sub3 hx) (by decide) g3
    have p4 := ps_wext w (fun x hx => sub3 hx) (by decide) g4
    have p5 := ps_wext w (fun x hx => sub3 hx) (by decide) g5
    have p6 := ps_wext w (fun x hx => sub3 hx) (by decide) g6
    have p7 := ps_wapp w (by decide +kernel) g7
    refine PSs.mono (pss_cons p1 (pss_cons p2 (pss_cons p3 (pss_cons p4 (pss_cons p5 (pss_cons p6 (pss_cons p7 (pss_cons (ps_wif w g8) (pss_cons (ps_wret w g9) pss_nil))))))))) fun Dn σ H z => ?_
    obtain ⟨rfl, z⟩ := z
    refine ⟨rfl, rfl, fun l hl => ?_⟩
    have G0 : Grow H (upd H l (.lst (((wNames.take 3).map (bvOf c)).map V.bl))) := (Grow.refl H).new hl
    generalize hb0 : (wNames.take 3).map (bvOf c) = b0 at G0 ⊢
    have L0 : b0.length = 3 := by rw [← hb0]; simp [wNames]
    refine ⟨l, b0, ⟨rfl, rfl, upd_same⟩, by omega, fun q1 hq1 => ?_⟩
    have N1 := G0.none hq1
    refine ⟨l, _, ⟨rfl, rfl, upd_same⟩, by simp only [List.length_append, List.length_map, List.length_take, List.length_drop]; omega, fun q2 hq2 => ?_⟩
    have G1 : Grow H (upd (upd (upd H l (.lst (b0.map V.bl))) q1 (.lst ((((wNames.drop 3).take 3).map (bvOf c)).map V.bl))) l (.lst ((b0 ++ ((wNames.drop 3).take 3).map (bvOf c)).map V.bl))) := (G0.new N1).new hl
    have N2 := G1.none hq2
    have G2 := (G1.new (o := .lst ((((wNames.drop 6).take 3).map (bvOf c)).map V.bl)) N2).new (o := .lst ((b0 ++ ((wNames.drop 3).take 3).map (bvOf c) ++ ((wNames.drop 6).take 3).map (bvOf c)).map V.bl)) hl
    refine ⟨l, _, ⟨rfl, rfl, upd_same⟩, by simp only [List.length_append, List.length_map, List.length_take, List.length_drop]; omega, fun q3 hq3 => ?_⟩
    have N3 := G2.none hq3
    have G3 := (G2.new (o := .lst ((((wNames.drop 9).take 4).map (bvOf c)).map V.bl)) N3).new (o := .lst ((b0 ++ ((wNames.drop 3).take 3).map (bvOf c) ++ ((wNames.drop 6).take 3).map (bvOf c) ++ ((wNames.drop 9).take 4).map (bvOf c)).map V.bl)) hl
    refine ⟨l, _, ⟨rfl, rfl, upd_same⟩, by simp only [List.length_append, List.length_map, List.length_take, List.length_drop]; omega, fun q4 hq4 => ?_⟩
    have N4 := G3.none hq4
    have G4 := (G3.new (o := .lst ((((wNames.drop 13).take 4).map (bvOf c)).map V.bl)) N4).new (o := .lst ((b0 ++ ((wNames.drop 3).take 3).map (bvOf c) ++ ((wNames.drop 6).take 3).map (bvOf c) ++ ((wNames.drop 9).take 4).map (bvOf c) ++ ((wNames.drop 13).take 4).map (bvOf c)).map V.bl)) hl
    refine ⟨l, _, ⟨rfl, rfl, upd_same⟩, by simp only [List.length_append, List.length_map, List.length_take, List.length_drop]; omega, fun q5 hq5 => ?_⟩
    have N5 := G4.none hq5
    have G5 := (G4.new (o := .lst ((((wNames.drop 17).take 3).map (bvOf c)).map V.bl)) N5).new (o := .lst ((b0 ++ ((wNames.drop 3).take 3).map (bvOf c) ++ ((wNames.drop 6).take 3).map (bvOf c) ++ ((wNames.drop 9).take 4).map (bvOf c) ++ ((wNames.drop 13).take 4).map (bvOf c) ++ ((wNames.drop 17).take 3).map (bvOf c)).map V.bl)) hl
    refine ⟨l, _, ⟨rfl, rfl, upd_same⟩, by simp only [List.length_append, List.length_map, List.length_take, List.length_drop]; omega, ?_⟩
    have eb : b0 ++ ((wNames.drop 3).take 3).map (bvOf c) ++ ((wNames.drop 6).take 3).map (bvOf c) ++ ((wNames.drop 9).take 4).map (bvOf c) ++ ((wNames.drop 13).take 4).map (bvOf c) ++ ((wNames.drop 17).take 3).map (bvOf c) ++ [bvOf c "ParseError"] = wNames.map (bvOf c) := by
      rw [← hb0]
      rfl
    rw [eb]
    have G6 := G5.new (o := .lst ((wNames.map (bvOf c)).map V.bl)) hl
    refine ⟨l, _, ⟨rfl, rfl, upd_same⟩, f1, ?_⟩
    refine ⟨l, _, c, ⟨rfl, rfl, upd_same⟩, f2, f3, fun q hq => ?_⟩
    exact z _ q (G6.new (G6.none hq)) (G6.none hq) upd_same
  · cases h
end
/-- what the classes of a program must say -/
structure ClsOk (K : PySem.W.Frag) (mg : Str → Option Value) (D : Addr) (c : Nat) : Prop where
  C : ExcC K D
  cls : ∀ x ∈ wNames, ∃ C, mg x = some (.ref C) ∧ PySem.W.kitOne K (.ref D) (.ref C) = some (bvOf c x)
  ve : PySem.W.kitOne K (.ref D) (.type "ValueError") = some true
theorem fn_wh {P : Program} {w : World} {K : PySem.W.Frag} {mg : Str → Option Value} {base : Heap} {k c : Nat} {ad D : Addr} {x : Str} {fd : FuncData} {params : Arguments} {body : List Stmt} {scope : Scope} (hc : c < 21) (F : FunD K x x params body scope [] [] ad fd) (S : FnScope ["e", "own"] ["e"] scope)
    (h : whB scope body = true) (O : ClsOk K mg D c) (fi : mg "isinstance" = none) (vm : mg "ValueError" = none) : FnW P w K mg base (L2.CX P w) (k + 1) ad fd D (rWh c) := by
  obtain ⟨oc, od, dV, kV, doc, pm, an, cdv, ct, osl, rfl, lk, hcd, _, _⟩ := F.ex
  refine fn_ofW lk hcd S fun A outer s H Q E p hr hz hf hR => ?_
  have wc : WCx (cxH (L2.CX P w) P w K mg base ["e", "own"] x scope ad cdv A outer s H E p) scope p.1 D p.2 (bvOf c) :=
    ⟨by show (p.1, p.2) ∈ [p]; simp, O.C, hz, hf, rfl, rfl, fi, by have := hr.un; show (A.deeper _).units + 65 < cLine; omega, fun _ => rfl, O.cls, vm, O.ve⟩
  exact ⟨_, pss_wh hc wc h, rfl, hR⟩
end GV
set_option Elab.async false
set_option linter.all false
set_option maxRecDepth 100000
set_option maxHeartbeats 4000000
/-! GV13: the expressions run as the evaluator says. -/
namespace GV
open PySem L2
def bnames : List Str := ["len", "sum", "all", "any", "min", "max", "sorted", "tuple", "list", "str", "int", "bool", "isinstance", "range", "enumerate", "zip"]
structure CtxG (A : Stat) (k : Nat) (Wx : WX) (fnB : Str → Bool) (sc : Scope) (N : List Str) (X : Cx) : Prop where
  prog : X.prog = A.P
  w : X.w = A.w
  K : X.K = A.K
  mg : X.mg = A.mg
  base : X.base = A.base
  sc : X.env.scope = sc
  fn : X.fn = fnB
  nN : X.N = N
  nd : N.Nodup
  calm : X.calm = true
  room : Room k X.A
  tk : Takes X Wx
structure StatOk (A : Stat) (k : Nat) : Prop where
  free : ∀ x ∈ bnames, A.mg x = none
  cst : ∀ (c : Nat) x, A.T.gn[c]? = some x → ∃ v u, A.mg x = some u ∧ RelV v u ∧ ∀ d W H, A.G.gc c = some d → Rep A.K W H v d
  fns : ∀ (f : Nat) x, A.T.fn f = some x → ∃ ad fd ps, A.mg x = some (.ref ad) ∧ PySem.W.keepIn A.K (.ref ad) = true ∧ Binds A.K fd ps [] ∧ FnOk A.P A.w A.K A.mg A.base (L2.CX A.P A.w) k ad fd ps (spF A f)
  exc : ∀ (c : Nat) x, A.T.cn.lookup c = some x → ∃ C, A.mg x = some (.ref C) ∧ A.xc c = .ref C ∧ PySem.W.excIn A.K C He.veBase "ValueError.__new__" = true ∧ PySem.W.keepIn A.K (.ref C) = true ∧ PySem.W.subIn A.K (.ref C) (.type "BaseException") = some true ∧ PySem.W.typeIn A.K (.ref C) = some (.type "type")
  tr : ∀ x, A.T.wh = some x → ∃ B ad fd, A.mg A.T.be = some (.ref B) ∧ A.mg x = some (.ref ad) ∧ PySem.W.keepIn A.K (.ref ad) = true ∧ Binds A.K fd ["e"] [] ∧
    ∀ c d, A.G.wh c = some d → d = .tup [.str "raised", .int (c : Nat)] ∧ ∃ C, A.xc c = .ref C ∧ PySem.W.exmOne A.K (.ref C) (.ref B) = some true ∧ FnW A.P A.w A.K A.mg A.base (L2.CX A.P A.w) k ad fd C (rWh c)
def isBool : Expr → Bool
  | .BoolOp _ _ _ => true
  | _ => false
structure Snd (A : Stat) (Wx : WX) (X : Cx) (py : Expr) (e : E) : Prop where
  pe : PE X py (tE A Wx e)
  pw : isBool py = true → PW X py (tT A Wx e)
  pt : notIf py = true → PT X py (tT A Wx e)
section
variable {A : Stat} {k : Nat} {Wx : WX} {fnB : Str → Bool} {sc : Scope} {N : List Str} {X : Cx} {σ : L2.St} {H : Hp}
theorem vis_of {x : Str} (h : visB sc x = true) : Vis sc x := by
  unfold visB at h
  split at h
  · rename_i e; exact .inl e
  · rename_i e; exact .inr (.inl e)
  · rename_i e; exact .inr (.inr e)
  · cases h
theorem loc_of {x : Str} (h : locB sc x = true) : Loc sc x := by
  unfold locB at h
  split at h
  · rename_i e; exact .inl e
  · rename_i e; exact .inr e
  · cases h
theorem gl_of {x : Str} (c : CtxG A k Wx fnB sc N X) (h : glB sc x = true) : Gl X x := by
  unfold glB at h
  split at h
  · rename_i e
    show X.env.scope.names.lookup x = _
    rw [c.sc]
    exact e
  · cases h
theorem nm_of {x : Str} (h : nmOk x = true) : (x == ("__debug__" : Str)) = false ∧ (x == ("__classdict__" : Str)) = false ∧ x ≠ "__name__" := by
  unfold nmOk at h
  simp only [Bool.and_eq_true, Bool.not_eq_true'] at h
  exact ⟨h.1.1, h.1.2, fun e => by rw [e] at h; simp at h⟩
theorem star_of {e : Expr} {es : List Expr} {env : Env} (h : notStar e = true) : starEach (e :: es) env = (false, eval e env) :: starEach es env := by
  cases e <;> first | rfl | cases h
theorem stars_of {env : Env} {pos : Pos} : ∀ {es : List Expr}, es.all notStar = true → (backTo pos (starEach es env)).any (·.1) = false
  | [], _ => rfl
  | e :: es, h => by
    simp only [List.all_cons, Bool.and_eq_true] at h
    rw [star_of h.1]
    show (false || (backTo pos (starEach es env)).any (·.1)) = false
    rw [stars_of h.2]
    rfl
theorem chkL_star {T : Tab} : ∀ {es : List E} {sc : Scope} {xs : List Expr}, chkL T N es sc xs = true → xs.all notStar = true
  | [], _, [], _ => rfl
  | [], _, _ :: _, h => by simp [chkL] at h
  | _ :: _, _, [], h => by simp [chkL] at h
  | e :: es, sc, x :: xs, h => by
    simp only [chkL, Bool.and_eq_true] at h
    simp [h.1.1, chkL_star h.2]
theorem imp_tB {e : E} {Q : Bool → Hp → Prop} (t : tT A Wx e σ H Q) : tB (tE A Wx e) σ H Q := by
  obtain ⟨W, h, oA, ss, w, s, p⟩ := t
  refine tE_bind w s p fun W1 H1 r1 h1 v x1 w1 s1 q1 p1 p0 => ?_
  unfold blE at p1
  split at p1
  · cases q1
    exact ⟨_, rfl, p1.here w1⟩
  · exact False.elim p1
theorem imp_tTest {e : E} {Q : Bool → Hp → Prop} (t : tT A Wx e σ H Q) : tTest (tE A Wx e) σ H Q := imp_tB t
theorem imp_tand {a b : E} {Q : Bool → Hp → Prop} (t : tT A Wx (.and a b) σ H Q) : tAnd (tT A Wx a) (tT A Wx b) σ H Q := by
  obtain ⟨W, h, oA, ss, w, s, p⟩ := t
  simp only [evE] at p
  rw [← O.bind_assoc, O.bind_assoc] at p
  refine tT_bind w s p fun W1 H1 t h1 x1 w1 s1 p1 => ?_
  cases t with
  | true => exact iteT ⟨W1, h1, oA, ss, w1, s1, p1⟩
  | false => exact iteF (PostR.here w1 p1)
theorem imp_tor {a b : E} {Q : Bool → Hp → Prop} (t : tT A Wx (.or a b) σ H Q) : tOr (tT A Wx a) (tT A Wx b) σ H Q := by
  obtain ⟨W, h, oA, ss, w, s, p⟩ := t
  simp only [evE] at p
  rw [← O.bind_assoc, O.bind_assoc] at p
  refine tT_bind w s p fun W1 H1 t h1 x1 w1 s1 p1 => ?_
  cases t with
  | true => exact iteT (PostR.here w1 p1)
  | false => exact iteF ⟨W1, h1, oA, ss, w1, s1, p1⟩
theorem imp_tnot {a : E} {Q : Bool → Hp → Prop} (t : tT A Wx (.not a) σ H Q) : tNot (tT A Wx a) σ H Q := by
  obtain ⟨W, h, oA, ss, w, s, p⟩ := t
  simp only [evE] at p
  refine ⟨W, h, oA, ss, w, s, ?_⟩
  cases q : evE A.G a ss h with
  | ok r h1 =>
    rw [q] at p
    simp only [O.bind_ok] at p ⊢
    unfold blE at p ⊢
    split at p
    · exact fun W' H' x w' => p W' H' x w'
    · exact False.elim p
  | ex c h1 => rw [q] at p; exact p
  | no => rw [q] at p; exact p
theorem imp_ttest {e : E} {t' : TE} {Q : Bool → Hp → Prop} (i : ∀ σ H Q, tE A Wx e σ H Q → t' σ H Q) (t : tT A Wx e σ H Q) : tTest t' σ H Q := i σ H _ (imp_tB t)
theorem snd_plain {py : Expr} {e : E} (p : PE X py (tE A Wx e)) (hb : isBool py = false) (he : ∀ whole, isTrue py X.env whole = (do let v ← whole; standAt py.pos; holding [v] (truthy v))) : Snd A Wx X py e :=
  ⟨p, fun z => (by rw [hb] at z; cases z), fun _ => PT.mono (pt_val p he) fun _ _ _ t => imp_tB t⟩
theorem units_of (c : CtxG A k Wx fnB sc N X) : X.A.units + 65 < cLine := by have := c.room.un; omega
theorem free_of (S : StatOk A k) (c : CtxG A k Wx fnB sc N X) {x : Str} (h : x ∈ bnames) : X.mg x = none := by rw [c.mg]; exact S.free x h
theorem rel_scope {scope : Scope} (c : CtxG A k Wx fnB sc N X) : relabel scope X.env = relB scope sc := by
  unfold relabel relB Env.kindOf
  rw [c.sc]
theorem ctx_blk {scope : Scope} {s : Shared} {H : Hp} {C : Addr} {cl : List (Str × Addr)} {fp : List Addr} (c : CtxG A k Wx fnB sc N X) : CtxG A k W0 (fun x => scope.names.lookup x == some .cell) (relB scope sc) N (X.blk s H scope (compEnvC scope cl C X.env) fp) where
  prog := c.prog
  w := c.w
  K := c.K
  mg := c.mg
  base := c.base
  sc := rel_scope c
  fn := rfl
  nN := c.nN
  nd := c.nd
  calm := c.calm
  room := c.room
  tk := takes0
/-! ### targets -/
theorem assignEach_star {env : Env} : ∀ {es : List Expr}, es.all notStar = true → (assignEach es env).findIdx? (·.1) = none ∧ (assignEach es env).length = es.length
  | [], _ => ⟨rfl, rfl⟩
  | e :: es, h => by
    simp only [List.all_cons, Bool.and_eq_true] at h
    obtain ⟨h1, h2⟩ := assignEach_star (env := env) h.2
    have e1 : assignEach (e :: es) env = (false, assign e env) :: assignEach es env := by
      have := h.1
      cases e <;> first | rfl | cases this
    rw [e1]
    refine ⟨?_, by simp [h2]⟩
    rw [List.findIdx?_cons]
    simp [h1]
theorem chkGs_star : ∀ {ts : List Tg} {es : List Expr}, chkGs N fnB sc ts es = true → es.all notStar = true ∧ es.length = ts.length
  | [], [], _ => ⟨rfl, rfl⟩
  | [], _ :: _, h => by simp [chkGs] at h
  | _ :: _, [], h => by simp [chkGs] at h
  | t :: ts, e :: es, h => by
    simp only [chkGs, Bool.and_eq_true] at h
    obtain ⟨h1, h2⟩ := chkGs_star h.2
    exact ⟨by simp [h.1.2, h1], by simp [h2]⟩
mutual
theorem snG (c : CtxG A k Wx fnB sc N X) : ∀ (t : Tg) (py : Expr), chkG N fnB sc t py = true → PG X py (gTg A.K t)
  | .n j, py, h => by
    unfold chkG at h
    split at h
    · rename_i x _
      simp only [Bool.and_eq_true, Bool.or_eq_true, beq_iff_eq] at h
      rw [gTg]
      refine pg_name (i := j) (by rw [c.nN]; exact c.nd) (by rw [c.nN]; exact h.1.1) (by rw [c.sc]; exact loc_of h.1.2) ?_
      rw [c.fn, c.sc]
      exact h.2
    · cases h
  | .t ts, py, h => by
    unfold chkG at h
    split at h
    · rename_i es _ _
      obtain ⟨h1, h2⟩ := chkGs_star h
      obtain ⟨h3, h4⟩ := assignEach_star (env := X.env) h1
      rw [gTg, ← c.K]
      refine pg_tup c.calm ?_ (by rw [h4, h2]) h3
      rw [c.K]
      exact snGs c ts es h
    · cases h
theorem snGs (c : CtxG A k Wx fnB sc N X) : ∀ (ts : List Tg) (es : List Expr), chkGs N fnB sc ts es = true → PGs X es (gTgs A.K ts)
  | [], [], _ => by rw [gTgs]; exact pgs_nil
  | [], _ :: _, h => by simp [chkGs] at h
  | _ :: _, [], h => by simp [chkGs] at h
  | t :: ts, e :: es, h => by
    simp only [chkGs, Bool.and_eq_true] at h
    rw [gTgs]
    refine pgs_cons (snG c t e h.1.1) (snGs c ts es h.2) ?_
    have := h.1.2
    cases e <;> first | rfl | cases this
end
end
end GV
set_option Elab.async false
set_option linter.all false
set_option maxRecDepth 100000
set_option maxHeartbeats 4000000
/-! GV14: the expressions run as the evaluator says: the theorem. -/
namespace GV
open PySem L2
section
variable {A : Stat} {k : Nat}
theorem bop_of {o : BOp} {op : Operator} (h : bopB o op = true) : op = o.py := by
  cases o <;> cases op <;> first | rfl | cases h
theorem cop_of {o : COp} {op : CmpOp} (h : copB o op = true) : op = o.py := by
  cases o <;> cases op <;> first | rfl | cases h
theorem marks_of {e : Expr} {op : CmpOp} (h : notSet e = true) : behindInMarks op e = false := by
  cases e <;> first | rfl | cases h
theorem folded_of {e : Expr} {env : Env} (h : notSet e = true) : ∀ x, foldedSetIterable e env x = pure x := by
  intro x
  cases e <;> first | rfl | cases h
theorem plainIx_of {e : Expr} (h : notSlice e = true) : PlainIx e := by
  intro o i
  cases e <;> first | rfl | cases h
theorem bi_boot (f : Bi) : (∃ id, f.val = .builtin id ∧ bootBuiltins f.nm = some (.builtin id)) ∨ ∃ T, f.val = .type T ∧ bootBuiltins f.nm = some (.type T) := by
  cases f with
  | len => exact .inl ⟨_, rfl, by decide +kernel⟩
  | sum => exact .inl ⟨_, rfl, by decide +kernel⟩
  | all => exact .inl ⟨_, rfl, by decide +kernel⟩
  | any => exact .inl ⟨_, rfl, by decide +kernel⟩
  | min => exact .inl ⟨_, rfl, by decide +kernel⟩
  | max => exact .inl ⟨_, rfl, by decide +kernel⟩
  | sorted => exact .inl ⟨_, rfl, by decide +kernel⟩
  | tuple => exact .inr ⟨_, rfl, by decide +kernel⟩
  | list => exact .inr ⟨_, rfl, by decide +kernel⟩
  | str => exact .inr ⟨_, rfl, by decide +kernel⟩
  | int => exact .inr ⟨_, rfl, by decide +kernel⟩
theorem bi_nm (f : Bi) : f.nm ∈ bnames ∧ f.nm ≠ "__name__" ∧ (f.nm == ("__debug__" : Str)) = false := by
  cases f <;> exact ⟨by decide +kernel, by decide +kernel, by decide +kernel⟩
theorem ty_boot (t : Ty) : bootBuiltins (Str.ofString t.nm) = some (.type t.nm) ∧ (Str.ofString t.nm) ∈ bnames ∧ (Str.ofString t.nm) ≠ "__name__" ∧ ((Str.ofString t.nm) == ("__debug__" : Str)) = false := by
  cases t <;> exact ⟨by decide +kernel, by decide +kernel, by decide +kernel, by decide +kernel⟩
theorem own_map (N : List Str) (own : List Nat) : (own.map fun i => (N.getD i "", i)).map (·.2) = own := by
  induction own with
  | nil => rfl
  | cons a l ih => exact congrArg (a :: ·) ih
theorem pts_of {Wx : WX} {X : Cx} {ifs : List E} {xs : List Expr} (h1 : ifs.length ≤ 1) (h0 : ifs = [] → xs = []) (h2 : ∀ e, ifs = [e] → ∃ x, xs = [x] ∧ PT X x (tT A Wx e)) : PTs X xs (tTs A Wx ifs) := by
  cases ifs with
  | nil =>
    rw [h0 rfl]
    refine ⟨fun pins s σ H Q I z => pts_nil.run pins s σ H Q I ?_⟩
    obtain ⟨W, h, oA, ss, w, s', p⟩ := z
    exact PostR.here (a := true) w p
  | cons e r =>
    cases r with
    | nil =>
      obtain ⟨x, rfl, p⟩ := h2 e rfl
      refine ⟨fun pins s σ H Q I z => (pts_one p).run pins s σ H Q I ?_⟩
      obtain ⟨W, h, oA, ss, w, s', p⟩ := z
      exact ⟨W, h, oA, ss, w, s', p⟩
    | cons _ _ => simp at h1
end
end GV
set_option Elab.async false
set_option linter.all false
set_option maxRecDepth 100000
set_option maxHeartbeats 4000000
/-! GV14: the theorem. -/
namespace GV
open PySem L2
section
variable {A : Stat} {k : Nat}
mutual
theorem snE (S : StatOk A k) : ∀ (e : E) {Wx : WX} {fnB : Str → Bool} {sc : Scope} {N : List Str} {X : Cx} (py : Expr), CtxG A k Wx fnB sc N X → chkE A.T N e sc py = true → Snd A Wx X py e
  | .non, Wx, fnB, sc, N, X, py, c, h => by
    unfold chkE at h
    split at h
    · exact snd_plain (PE.mono pe_non fun _ _ _ t => imp_non t) rfl fun _ => rfl
    · cases h
  | .bl b, Wx, fnB, sc, N, X, py, c, h => by
    unfold chkE at h
    split at h
    · have e := eq_of_beq h
      subst e
      exact snd_plain (PE.mono pe_bl fun _ _ _ t => imp_bl t) rfl fun _ => rfl
    · cases h
  | .int b, Wx, fnB, sc, N, X, py, c, h => by
    unfold chkE at h
    split at h
    · have e := eq_of_beq h
      subst e
      exact snd_plain (PE.mono pe_int fun _ _ _ t => imp_int t) rfl fun _ => rfl
    · cases h
  | .str b, Wx, fnB, sc, N, X, py, c, h => by
    unfold chkE at h
    split at h
    · have e := eq_of_beq h
      subst e
      exact snd_plain (PE.mono pe_str fun _ _ _ t => imp_str t) rfl fun _ => rfl
    · cases h
  | .v j, Wx, fnB, sc, N, X, py, c, h => by
    unfold chkE at h
    split at h
    · simp only [Bool.and_eq_true, beq_iff_eq] at h
      obtain ⟨n1, n2, n3⟩ := nm_of h.2
      exact snd_plain (PE.mono (pe_var (i := j) (by rw [c.nN]; exact h.1.1) (by rw [c.sc]; exact vis_of h.1.2) n1 n2) fun _ _ _ t => imp_var t) rfl fun _ => rfl
    · cases h
  | .g j, Wx, fnB, sc, N, X, py, c, h => by
    unfold chkE at h
    split at h
    · simp only [Bool.and_eq_true, beq_iff_eq] at h
      obtain ⟨n1, n2, n3⟩ := nm_of h.2
      obtain ⟨v, u, e1, e2, e3⟩ := S.cst j _ h.1.1
      exact snd_plain (PE.mono (pe_glob (gl_of c h.1.2) (by rw [c.mg]; exact e1) e2 n1) fun _ _ _ t => imp_glob (fun d W H z => e3 d W H z) t) rfl fun _ => rfl
    · cases h
  | .bin o a b, Wx, fnB, sc, N, X, py, c, h => by
    unfold chkE at h
    split at h
    · simp only [Bool.and_eq_true] at h
      have e := bop_of h.1.1
      subst e
      have ho := op_bin (X := X) o
      rw [c.K] at ho
      exact snd_plain (PE.mono (pe_op ho (snE S a _ c h.1.2).pe (snE S b _ c h.2).pe) fun _ _ _ t => imp_bin t) rfl fun _ => rfl
    · cases h
  | .neg a, Wx, fnB, sc, N, X, py, c, h => by
    unfold chkE at h
    split at h
    · exact snd_plain (PE.mono (pe_un un_neg (snE S a _ c h).pe) fun _ _ _ t => imp_neg t) rfl fun _ => rfl
    · cases h
  | .cmp o a b, Wx, fnB, sc, N, X, py, c, h => by
    unfold chkE at h
    split at h
    · simp only [Bool.and_eq_true] at h
      have e := cop_of h.1.1.1
      subst e
      have ho := op_cmp (X := X) (units_of c) o
      rw [c.K] at ho
      refine ⟨PE.mono (pe_cmpR ho (snE S a _ c h.1.2).pe (snE S b _ c h.2).pe (marks_of h.1.1.2)) fun _ _ _ t => imp_cmp t, fun z => (by cases z), fun _ => ?_⟩
      exact PT.mono (pt_cmpR ho (snE S a _ c h.1.2).pe (snE S b _ c h.2).pe (marks_of h.1.1.2)) fun _ _ _ t => imp_ttest (fun _ _ _ z => imp_cmp z) t
    · cases h
  | .chn o o' a b d, Wx, fnB, sc, N, X, py, c, h => by
    unfold chkE at h
    split at h
    · simp only [Bool.and_eq_true] at h
      obtain ⟨⟨⟨⟨⟨h1, h2⟩, h3⟩, h4⟩, h5⟩, h6⟩ := h
      have e := cop_of h1
      subst e
      have e := cop_of h2
      subst e
      have ho := op_cmp (X := X) (units_of c) o
      have ho' := op_cmp (X := X) (units_of c) o'
      rw [c.K] at ho ho'
      refine ⟨PE.mono (pe_chain ho ho' (snE S a _ c h4).pe (snE S b _ c h5).pe (snE S d _ c h6).pe (marks_of h3)) fun _ _ _ t => imp_chn t, fun z => (by cases z), fun _ => ?_⟩
      exact PT.mono (pt_chain ho ho' (snE S a _ c h4).pe (snE S b _ c h5).pe (snE S d _ c h6).pe (marks_of h3)) fun _ _ _ t => imp_ttest (fun _ _ _ z => imp_chn z) t
    · cases h
  | .and a b, Wx, fnB, sc, N, X, py, c, h => by
    unfold chkE at h
    split at h
    · simp only [Bool.and_eq_true] at h
      obtain ⟨⟨⟨h1, h2⟩, h3⟩, h4⟩ := h
      have sa := snE S a _ c h3
      have sb := snE S b _ c h4
      rename_i x y pos
      have pw : PW X (.BoolOp .And [x, y] pos) (tAnd (tT A Wx a) (tT A Wx b)) := pw_and (sa.pt h1) (pw_and1 (sb.pt h2))
      refine ⟨PE.mono (pe_and sa.pe (pe_one sb.pe)) fun _ _ _ t => imp_and t, fun _ => ?_, fun _ => ?_⟩
      · exact ⟨fun wh pins s σ H Q I z => pw.run wh pins s σ H Q I (imp_tand z)⟩
      · exact PT.mono pw.pt fun _ _ _ t => imp_tand t
    · simp only [Bool.and_eq_true] at h
      obtain ⟨⟨h1, h3⟩, h4⟩ := h
      have sa := snE S a _ c h3
      have sb := snE S b _ c h4
      have pw : PW X _ (tAnd (tT A Wx a) (tT A Wx b)) := pw_and (sa.pt h1) (sb.pw rfl)
      refine ⟨PE.mono (pe_and sa.pe sb.pe) fun _ _ _ t => imp_and t, fun _ => ?_, fun _ => ?_⟩
      · exact ⟨fun wh pins s σ H Q I z => pw.run wh pins s σ H Q I (imp_tand z)⟩
      · exact PT.mono pw.pt fun _ _ _ t => imp_tand t
    · cases h
  | .or a b, Wx, fnB, sc, N, X, py, c, h => by
    unfold chkE at h
    split at h
    · simp only [Bool.and_eq_true] at h
      obtain ⟨⟨⟨h1, h2⟩, h3⟩, h4⟩ := h
      have sa := snE S a _ c h3
      have sb := snE S b _ c h4
      rename_i x y pos
      have pw : PW X (.BoolOp .Or [x, y] pos) (tOr (tT A Wx a) (tT A Wx b)) := pw_or (sa.pt h1) (pw_or1 (sb.pt h2))
      refine ⟨PE.mono (pe_or sa.pe (pe_one sb.pe)) fun _ _ _ t => imp_or t, fun _ => ?_, fun _ => ?_⟩
      · exact ⟨fun wh pins s σ H Q I z => pw.run wh pins s σ H Q I (imp_tor z)⟩
      · exact PT.mono pw.pt fun _ _ _ t => imp_tor t
    · simp only [Bool.and_eq_true] at h
      obtain ⟨⟨h1, h3⟩, h4⟩ := h
      have sa := snE S a _ c h3
      have sb := snE S b _ c h4
      have pw : PW X _ (tOr (tT A Wx a) (tT A Wx b)) := pw_or (sa.pt h1) (sb.pw rfl)
      refine ⟨PE.mono (pe_or sa.pe sb.pe) fun _ _ _ t => imp_or t, fun _ => ?_, fun _ => ?_⟩
      · exact ⟨fun wh pins s σ H Q I z => pw.run wh pins s σ H Q I (imp_tor z)⟩
      · exact PT.mono pw.pt fun _ _ _ t => imp_tor t
    · cases h
  | .not a, Wx, fnB, sc, N, X, py, c, h => by
    unfold chkE at h
    split at h
    · simp only [Bool.and_eq_true] at h
      have sa := snE S a _ c h.2
      exact ⟨PE.mono (pe_not sa.pe) fun _ _ _ t => imp_not t, fun z => (by cases z), fun _ => PT.mono (pt_not (sa.pt h.1)) fun _ _ _ t => imp_tnot t⟩
    · cases h
  | .ite t a b, Wx, fnB, sc, N, X, py, c, h => by
    unfold chkE at h
    split at h
    · simp only [Bool.and_eq_true] at h
      obtain ⟨⟨⟨h1, h2⟩, h3⟩, h4⟩ := h
      exact ⟨PE.mono (pe_ifExp ((snE S t _ c h2).pt h1) (snE S a _ c h3).pe (snE S b _ c h4).pe) fun _ _ _ t => imp_ite t, fun z => (by cases z), fun z => (by cases z)⟩
    · cases h
  | .tup es, Wx, fnB, sc, N, X, py, c, h => by
    unfold chkE at h
    split at h
    · exact snd_plain (PE.mono (pe_tup (snL S es _ c h)) fun _ _ _ t => imp_tup t) rfl fun _ => rfl
    · cases h
  | .lst es, Wx, fnB, sc, N, X, py, c, h => by
    unfold chkE at h
    split at h
    · exact snd_plain (PE.mono (pe_lst (snL S es _ c h)) fun _ _ _ t => imp_lst t) rfl fun _ => rfl
    · cases h
  | .ix a i, Wx, fnB, sc, N, X, py, c, h => by
    unfold chkE at h
    split at h
    · simp only [Bool.and_eq_true] at h
      have hr := ix_seq (X := X)
      rw [c.K] at hr
      exact snd_plain (PE.mono (pe_ix hr (snE S a _ c h.1.2).pe (snE S i _ c h.2).pe (plainIx_of h.1.1)) fun _ _ _ t => imp_ix t) rfl fun _ => rfl
    · cases h
  | .sl a lo hi, Wx, fnB, sc, N, X, py, c, h => by
    unfold chkE at h
    split at h
    · simp only [Bool.and_eq_true] at h
      have hr : SlR X (rSlAll X.K) := sl_list.or sl_tupA
      rw [c.K] at hr
      exact snd_plain (PE.mono (pe_slice hr (snE S a _ c h.1.1).pe (snO S lo _ c h.1.2) (snO S hi _ c h.2)) fun _ _ _ t => imp_sl t) rfl fun _ => rfl
    · cases h
  | .rev a lo, Wx, fnB, sc, N, X, py, c, h => by
    unfold chkE at h
    split at h
    · rename_i x l _ _ _ _ _
      simp only [Bool.and_eq_true] at h
      have hlo : PO X l (tLo lo) := by
        have h1 := h.1
        cases lo with
        | none =>
          cases l with
          | none => exact po_none
          | some _ => cases h1
        | some k =>
          cases l with
          | none => cases h1
          | some z =>
            split at h1
            · rename_i heq1 heq2
              cases heq1
            · rename_i heq1 heq2
              cases heq1
              cases heq2
              have e := eq_of_beq h1
              subst e
              exact po_some pe_int
            · cases h1
      have hp := (snE S a _ c h.2).pe
      refine snd_plain (PE.mono (t := tRevA A.K lo (tE A Wx a)) ?_ fun _ _ _ t => imp_rev t) rfl fun _ => rfl
      rw [← c.K]
      exact pe_revA lo hlo hp
    · cases h
  | .call f es, Wx, fnB, sc, N, X, py, c, h => by
    unfold chkE at h
    split at h
    · simp only [Bool.and_eq_true, beq_iff_eq] at h
      obtain ⟨⟨⟨h1, h2⟩, h3⟩, h4⟩ := h
      obtain ⟨n1, n2, n3⟩ := nm_of h3
      obtain ⟨ad, fd, ps, e1, e2, e3, F⟩ := S.fns f _ h1
      have st := chkL_star h4
      simp only [List.all_cons, Bool.and_eq_true] at st
      have F' : FnOk X.prog X.w X.K X.mg X.base (L2.CX X.prog X.w) k ad fd ps (spF A f) := by rw [c.prog, c.w, c.K, c.mg, c.base]; exact F
      exact snd_plain (PE.mono (pe_callS F' c.room (gl_of c h2) (by rw [c.mg]; exact e1) (by rw [c.K]; exact e2) (by rw [c.K]; exact e3) (fun σ => passAt c.tk σ) (snL S es _ c h4) n1 (star_of st.1) (stars_of st.2)) fun _ _ _ t => imp_call t) rfl fun _ => rfl
    · cases h
  | .bi f es, Wx, fnB, sc, N, X, py, c, h => by
    unfold chkE at h
    split at h
    · simp only [Bool.and_eq_true, beq_iff_eq] at h
      obtain ⟨⟨h1, h2⟩, h4⟩ := h
      subst h1
      obtain ⟨n1, n2, n3⟩ := bi_nm f
      have st := chkL_star h4
      simp only [List.all_cons, Bool.and_eq_true] at st
      have hc := call_bi (X := X) c.calm (units_of c) f
      rw [c.K] at hc
      rcases bi_boot f with ⟨id, e1, e2⟩ | ⟨T, e1, e2⟩
      · rw [e1] at hc
        exact snd_plain (PE.mono (pe_callB hc (gl_of c h2) (free_of S c n1) e2 (snL S es _ c h4) n2 n3 (star_of st.1) (stars_of st.2)) fun _ _ _ t => imp_bi t) rfl fun _ => rfl
      · rw [e1] at hc
        exact snd_plain (PE.mono (pe_callTy hc (gl_of c h2) (free_of S c n1) e2 (snL S es _ c h4) n2 n3 (star_of st.1) (stars_of st.2)) fun _ _ _ t => imp_bi t) rfl fun _ => rfl
    · cases h
  | .isi a ty, Wx, fnB, sc, N, X, py, c, h => by
    unfold chkE at h
    split at h
    · simp only [Bool.and_eq_true, beq_iff_eq] at h
      obtain ⟨⟨⟨⟨⟨h1, h2⟩, h3⟩, h4⟩, h5⟩, h6⟩ := h
      subst h1
      subst h3
      obtain ⟨b1, b2, b3, b4⟩ := ty_boot ty
      have hc := call_isi (X := X)
      rw [c.K] at hc
      have pc : ∀ p, PE X (.Name (Str.ofString ty.nm) p) (tC (.ty ty.nm)) := fun p => pe_bltn (gl_of c h4) (free_of S c b2) b1 rfl b3 b4
      exact snd_plain (PE.mono (pe_callB hc (gl_of c h2) (free_of S c (by decide +kernel)) PyProof.Rows.boot_isinstance (pa_cons (snE S a _ c h6).pe (pa_cons (pc _) pa_nil) (star_of h5)) (by decide +kernel) (by decide +kernel) (star_of h5) rfl) fun _ _ _ t => imp_isi t) rfl fun _ => rfl
    · cases h
  | .comp kk src t own ifs e, Wx, fnB, sc, N, X, py, c, h => by
    unfold chkE at h
    split at h
    · rename_i elt tg iter ifs' scope pos
      simp only [Bool.and_eq_true, decide_eq_true_eq] at h
      obtain ⟨⟨⟨⟨⟨⟨⟨h1, h2⟩, h3⟩, h4⟩, h5⟩, h6⟩, h7⟩, h8⟩ := h
      obtain ⟨i1, i2, i3⟩ := snI S kk src tg iter c h3
      have bo := blkOk_by h1
      rw [← c.nN, ← c.sc] at bo
      have hN : X.N.Nodup := by rw [c.nN]; exact c.nd
      have q := pe_lc (own := own.map fun i => (X.N.getD i "", i)) (pos := pos) c.calm hN i1 bo
        (fun s H C cl fp => snG (ctx_blk (scope := scope) (s := s) (H := H) (C := C) (cl := cl) (fp := fp) c) t tg h4)
        (fun s H C cl fp => snTs S ifs ifs' (ctx_blk (scope := scope) (s := s) (H := H) (C := C) (cl := cl) (fp := fp) c) h5 h6 h7)
        (fun s H C cl fp => (snE S e _ (ctx_blk (scope := scope) (s := s) (H := H) (C := C) (cl := cl) (fp := fp) c) h8).pe) i3
      rw [own_map] at q
      refine snd_plain (PE.mono q fun _ _ _ z => imp_comp i2 (fun j hj => ?_) z) rfl fun _ => rfl
      have := List.all_eq_true.mp h2 j hj
      simpa using this
    · cases h
  | .make _ _ _, _, _, _, _, _, _, _, h => by simp [chkE] at h
  | .meth _ _ _, _, _, _, _, _, _, _, h => by simp [chkE] at h
  | .mt _ _ _, _, _, _, _, _, _, _, h => by simp [chkE] at h
  | .fld _ _, _, _, _, _, _, _, _, h => by simp [chkE] at h
  | .fix _ _ _, _, _, _, _, _, _, _, h => by simp [chkE] at h
  | .flen _ _, _, _, _, _, _, _, _, h => by simp [chkE] at h
  | .fcut _ _ _ _, _, _, _, _, _, _, _, h => by simp [chkE] at h
theorem snL (S : StatOk A k) : ∀ (es : List E) {Wx : WX} {fnB : Str → Bool} {sc : Scope} {N : List Str} {X : Cx} (xs : List Expr), CtxG A k Wx fnB sc N X → chkL A.T N es sc xs = true → PA X xs (tA A Wx es)
  | [], Wx, fnB, sc, N, X, [], c, h => PA.mono pa_nil fun _ _ _ t => imp_anil t
  | [], Wx, fnB, sc, N, X, _ :: _, c, h => by simp [chkL] at h
  | _ :: _, Wx, fnB, sc, N, X, [], c, h => by simp [chkL] at h
  | e :: es, Wx, fnB, sc, N, X, x :: xs, c, h => by
    simp only [chkL, Bool.and_eq_true] at h
    exact PA.mono (pa_cons (snE S e x c h.1.2).pe (snL S es xs c h.2) (star_of h.1.1)) fun _ _ _ t => imp_acons t
theorem snTs (S : StatOk A k) : ∀ (es : List E) {Wx : WX} {fnB : Str → Bool} {sc : Scope} {N : List Str} {X : Cx} (xs : List Expr), CtxG A k Wx fnB sc N X → chkL A.T N es sc xs = true → es.length ≤ 1 → xs.all notIf = true → PTs X xs (tTs A Wx es)
  | [], Wx, fnB, sc, N, X, [], c, h, _, _ => pts_of (by simp) (fun _ => rfl) fun e z => (by cases z)
  | [], Wx, fnB, sc, N, X, _ :: _, c, h, _, _ => by simp [chkL] at h
  | _ :: _, Wx, fnB, sc, N, X, [], c, h, _, _ => by simp [chkL] at h
  | [e], Wx, fnB, sc, N, X, x :: xs, c, h, _, hi => by
    simp only [chkL, Bool.and_eq_true] at h
    have hx : xs = [] := by
      have := h.2
      cases xs with
      | nil => rfl
      | cons _ _ => simp at this
    subst hx
    have hi : notIf x = true := by simpa using hi
    exact pts_of (by simp) (fun z => (by cases z)) fun e' z => by
      cases z
      exact ⟨x, rfl, (snE S e x c h.1.2).pt hi⟩
  | _ :: _ :: _, Wx, fnB, sc, N, X, _ :: _, c, h, hl, _ => by simp at hl
theorem snO (S : StatOk A k) : ∀ (e : Option E) {Wx : WX} {fnB : Str → Bool} {sc : Scope} {N : List Str} {X : Cx} (x : Option Expr), CtxG A k Wx fnB sc N X → chkO A.T N e sc x = true → PO X x (tOo A Wx e)
  | none, Wx, fnB, sc, N, X, none, c, h => po_none
  | none, Wx, fnB, sc, N, X, some _, c, h => by simp [chkO] at h
  | some _, Wx, fnB, sc, N, X, none, c, h => by simp [chkO] at h
  | some e, Wx, fnB, sc, N, X, some x, c, h => by
    simp only [chkO] at h
    exact po_some (snE S e x c h).pe
theorem snI (S : StatOk A k) (kk : IK) : ∀ (src : List E) {Wx : WX} {fnB : Str → Bool} {sc : Scope} {N : List Str} {X : Cx} (tg py : Expr), CtxG A k Wx fnB sc N X → chkI A.T N kk src sc tg py = true →
    PI X tg py (iK A Wx kk src) ∧ srcB kk src = true ∧ ∀ x, foldedSetIterable py X.env x = pure x
  | [], Wx, fnB, sc, N, X, tg, py, c, h => by simp [chkI] at h
  | e :: es, Wx, fnB, sc, N, X, tg, py, c, h => by
    cases kk with
    | seq =>
      simp only [chkI, Bool.and_eq_true, List.isEmpty_iff] at h
      obtain ⟨⟨rfl, h2⟩, h3⟩ := h
      have q := pi_seq (tg := tg) (snE S e py c h3).pe
      rw [c.K] at q
      exact ⟨q, rfl, folded_of h2⟩
    | rng =>
      simp only [chkI] at h
      split at h
      · simp only [Bool.and_eq_true, beq_iff_eq, decide_eq_true_eq] at h
        obtain ⟨⟨⟨⟨⟨h1, h2⟩, h3⟩, h4⟩, h5⟩, h6⟩ := h
        subst h1
        have fr := free_of S c (x := "range") (by decide +kernel)
        have st := chkL_star h6
        cases es with
        | nil =>
          cases hx : (‹List Expr› : List Expr) with
          | nil =>
            subst hx
            exact ⟨pi_range1 (gl_of c h2) fr (PA.mono (pa_cons (snE S e _ c h5).pe (snL S [] [] c h6) (star_of h4)) fun _ _ _ t => imp_acons t) (star_of h4), rfl, fun _ => rfl⟩
          | cons _ _ => subst hx; simp [chkL] at h6
        | cons e2 es2 =>
          cases es2 with
          | nil =>
            cases hx : (‹List Expr› : List Expr) with
            | nil => subst hx; simp [chkL] at h6
            | cons y2 ys2 =>
              subst hx
              have h6' := h6
              simp only [chkL, Bool.and_eq_true] at h6'
              have hy : ys2 = [] := by
                have := h6'.2
                cases ys2 with
                | nil => rfl
                | cons _ _ => simp at this
              subst hy
              exact ⟨pi_range2 (gl_of c h2) fr (PA.mono (pa_cons (snE S e _ c h5).pe (snL S [e2] [y2] c h6) (star_of h4)) fun _ _ _ t => imp_acons t) (by rw [star_of h4, star_of h6'.1.1]; rfl) (by rw [star_of h6'.1.1]; rfl), rfl, fun _ => rfl⟩
          | cons _ _ => simp at h3
      · cases h
    | enum =>
      simp only [chkI] at h
      split at h
      · simp only [Bool.and_eq_true, beq_iff_eq, List.isEmpty_iff] at h
        obtain ⟨⟨⟨⟨⟨h1, h2⟩, rfl⟩, h4⟩, h5⟩, h6⟩ := h
        subst h1
        have fr := free_of S c (x := "enumerate") (by decide +kernel)
        cases tg with
        | Tuple elts kt tpos =>
          refine ⟨?_, rfl, fun _ => rfl⟩
          show PI X _ _ (iEnumA A.K (tA A Wx [e]))
          rw [← c.K]
          exact pi_enumA (gl_of c h2) fr (PA.mono (pa_cons (snE S e _ c h6).pe (PA.mono pa_nil fun _ _ _ t => imp_anil t) (star_of h5)) fun _ _ _ t => imp_acons t) (star_of h5)
        | _ => cases h4
      · cases h
    | zip =>
      simp only [chkI] at h
      split at h
      · simp only [Bool.and_eq_true, beq_iff_eq, decide_eq_true_eq] at h
        obtain ⟨⟨⟨⟨⟨⟨⟨h1, h2⟩, h3⟩, h4⟩, h5⟩, h5'⟩, h6⟩, h7⟩ := h
        subst h1
        have fr := free_of S c (x := "zip") (by decide +kernel)
        cases tg with
        | Tuple elts kt tpos =>
          cases es with
          | nil => simp at h3
          | cons e2 es2 =>
            cases es2 with
            | nil =>
              refine ⟨?_, rfl, fun _ => rfl⟩
              show PI X _ _ (iZip2 A.K (tA A Wx [e, e2]))
              rw [← c.K]
              exact pi_zip2 (gl_of c h2) fr (PA.mono (pa_cons (snE S e _ c h6).pe (snL S [e2] _ c h7) (star_of h5)) fun _ _ _ t => imp_acons t) (star_of h5) (stars_of (by simp [h5']))
            | cons _ _ => simp at h3
        | _ => cases h4
      · simp only [Bool.and_eq_true, beq_iff_eq, decide_eq_true_eq] at h
        obtain ⟨⟨⟨⟨⟨⟨⟨⟨h1, h2⟩, h3⟩, h4⟩, h5⟩, h5'⟩, h5''⟩, h6⟩, h7⟩ := h
        subst h1
        have fr := free_of S c (x := "zip") (by decide +kernel)
        cases tg with
        | Tuple elts kt tpos =>
          cases es with
          | nil => simp at h3
          | cons e2 es2 =>
            cases es2 with
            | nil => simp at h3
            | cons e3 es3 =>
              cases es3 with
              | nil =>
                refine ⟨?_, rfl, fun _ => rfl⟩
                show PI X _ _ (iZip3 A.K (tA A Wx [e, e2, e3]))
                rw [← c.K]
                exact pi_zip3 (gl_of c h2) fr (PA.mono (pa_cons (snE S e _ c h6).pe (snL S [e2, e3] _ c h7) (star_of h5)) fun _ _ _ t => imp_acons t) (star_of h5) (stars_of (by simp [h5', h5'']))
              | cons _ _ => simp at h3
        | _ => cases h4
      · cases h
end
end
end GV
set_option Elab.async false
set_option linter.all false
set_option maxRecDepth 100000
set_option maxHeartbeats 4000000
/-! GV15: statements: states, outcomes. -/
namespace GV
open PySem L2
/-- what data lean on stands -/
structure ExS (W : Wd) (H : Hp) (W' : Wd) (H' : Hp) : Prop where
  tup : ∀ a xs, H a = some (.tup xs) → H' a = some (.tup xs)
  frz : ∀ a o u, H a = some (.frz o u) → H' a = some (.frz o u)
  lst : ∀ a o, W.F a → H a = some o → H' a = some o
  ids : ∀ q a, W.k q = some a → W'.k q = some a
  fF : ∀ a, W.F a → W'.F a
theorem ExS.refl (W : Wd) (H : Hp) : ExS W H W H := ⟨fun _ _ e => e, fun _ _ _ e => e, fun _ _ _ e => e, fun _ _ e => e, fun _ e => e⟩
theorem ExS.trans {W W1 W2 : Wd} {H H1 H2 : Hp} (a : ExS W H W1 H1) (b : ExS W1 H1 W2 H2) : ExS W H W2 H2 :=
  ⟨fun c xs e => b.tup c xs (a.tup c xs e), fun c o u e => b.frz c o u (a.frz c o u e), fun c o f e => b.lst c o (a.fF c f) (a.lst c o f e), fun q c e => b.ids q c (a.ids q c e), fun c f => b.fF c (a.fF c f)⟩
section
variable {K : PySem.W.Frag} {cl : Nat → Option Addr} {W W' : Wd} {H H' : Hp} {h : MH}
theorem Ext.exs (w : WOk K cl W h H) (x : Ext W H W' H') : ExS W H W' H' :=
  ⟨fun a xs e => x.keep a _ e (notfp_tup w e), fun a o u e => x.keep a _ e (notfp_frz w e), fun a o f e => x.keep a o e (w.dis a f), x.ids, x.fF⟩
theorem fz_exs {H0 : Hp} : ExS W H (W.fz H0 H) H := ⟨fun _ _ e => e, fun _ _ _ e => e, fun _ _ _ e => e, fun _ _ e => e, fun _ f => .inl f⟩
theorem chg_exs {p : Addr} {xs ys : List V} (e : H p = some (.lst xs)) (n : ¬ W.F p) : ExS W H W (upd H p (.lst ys)) :=
  ⟨fun a zs q => by rw [upd_ne (ne_of q e (by intro z; cases z))]; exact q, fun a o u q => by rw [upd_ne (ne_of q e (by intro z; cases z))]; exact q,
   fun a o f q => by rw [upd_ne (ne_F f n)]; exact q, fun _ _ e => e, fun _ f => f⟩
mutual
theorem Rep.exs (x : ExS W H W' H') : ∀ {v : V} {d : D}, Rep K W H v d → Rep K W' H' v d
  | _, _, .non => .non
  | _, _, .bl b => .bl b
  | _, _, .int i => .int i
  | _, _, .str s => .str s
  | _, _, .tup e r => .tup (by
      rcases e with (e | ⟨o, e⟩) | e
      · exact .inl (.inl (x.tup _ _ e))
      · exact .inl (.inr ⟨o, x.frz _ _ _ e⟩)
      · exact .inr e) (RepL.exs x r)
  | _, _, .lst e f r => .lst (by
      rcases e with e | ⟨o, e⟩
      · exact .inl (x.lst _ _ f e)
      · exact .inr ⟨o, x.frz _ _ _ e⟩) (x.fF _ f) (RepL.exs x r)
  | _, _, .obj e => .obj (x.ids _ _ e)
theorem RepL.exs (x : ExS W H W' H') : ∀ {vs : List V} {ds : List D}, RepL K W H vs ds → RepL K W' H' vs ds
  | _, _, .nil => .nil
  | _, _, .cons a b => .cons (Rep.exs x a) (RepL.exs x b)
end
end
structure SSt (A : Stat) (Wi : Wd) (Hi : Hp) (W : Wd) (h : MH) (oA : Nat → Option Addr) (ss : SS) (σ : L2.St) (H : Hp) : Prop where
  w : WOkA A W h H
  s : SRel A.K W H oA ss σ
  x : Ext Wi Hi W H
  f : ∀ j a, oA j = some a → Hi a = none
def PostS (A : Stat) (Wi : Wd) (Hi : Hp) (W : Wd) (H : Hp) (Wx : WX) (Dn : Ends) : O Fl → Prop
  | .ok (.nx ss') h' => ∀ W' H' oA' σ', SSt A Wi Hi W' h' oA' ss' σ' H' → ExS W H W' H' → Dn.nx σ' H'
  | .ok (.rt r) h' => ∀ W' H' v, Ext Wi Hi W' H' → WOkA A W' h' H' → RRel A.K W' Hi H' v r → Dn.rt v H'
  | .ex c h' => ∀ W' H' σ', Ext Wi Hi W' H' → WOkA A W' h' H' → Wx (A.xc c) none σ' H'
  | .no => False
def tS (A : Stat) (Wi : Wd) (Hi : Hp) (Wx : WX) (c : S) : TS := fun Dn σ H => ∃ W h oA ss, SSt A Wi Hi W h oA ss σ H ∧ PostS A Wi Hi W H Wx Dn (evS A.G c ss h)
def tBk (A : Stat) (Wi : Wd) (Hi : Hp) (Wx : WX) (b : List S) : TS := fun Dn σ H => ∃ W h oA ss, SSt A Wi Hi W h oA ss σ H ∧ PostS A Wi Hi W H Wx Dn (evB A.G b ss h)
section
variable {A : Stat} {Wi : Wd} {Hi : Hp} {W W1 : Wd} {h h1 : MH} {oA : Nat → Option Addr} {ss : SS} {σ : L2.St} {H H1 : Hp} {Wx : WX} {Dn : Ends}
theorem PostS.mono {o : O Fl} (x : ExS W H W1 H1) (p : PostS A Wi Hi W H Wx Dn o) : PostS A Wi Hi W1 H1 Wx Dn o := by
  cases o with
  | ok f h' =>
    cases f with
    | nx ss' => exact fun W' H' oA' σ' st y => p W' H' oA' σ' st (x.trans y)
    | rt r => exact p
  | ex c h' => exact p
  | no => exact p
theorem SSt.ext (st : SSt A Wi Hi W h oA ss σ H) (x : Ext W H W1 H1) (w1 : WOkA A W1 h1 H1) : SSt A Wi Hi W1 h1 oA ss σ H1 := ⟨w1, st.s.ext st.w x, st.x.trans x, st.f⟩
theorem SSt.fz (st : SSt A Wi Hi W h oA ss σ H) (x : Ext W H W1 H1) (w1 : WOkA A W1 h1 H1) : SSt A Wi Hi (W1.fz H H1) h1 oA ss σ H1 := ⟨fz_ok w1, st.s.fz (st.s.ext st.w x), st.x.trans (fz_ext x), st.f⟩
theorem fz_exs2 (w : WOkA A W h H) (x : Ext W H W1 H1) : ExS W H (W1.fz H H1) H1 := (x.exs w).trans fz_exs
theorem S_bind {e : E} {k : R → MH → O Fl} {Q : VK} (st : SSt A Wi Hi W h oA ss σ H) (p : PostS A Wi Hi W H Wx Dn ((evE A.G e ss h).bind k))
    (step : ∀ W1 H1 r h1 v, Ext W H W1 H1 → WOkA A W1 h1 H1 → SSt A Wi Hi W1 h1 oA ss σ H1 → RRel A.K W1 H H1 v r → PostS A Wi Hi W H Wx Dn (k r h1) → Q v H1) : tE A Wx e σ H Q := by
  refine ⟨W, h, oA, ss, st.w, st.s, ?_⟩
  cases q : evE A.G e ss h with
  | ok r h1 =>
    rw [q] at p
    exact fun W1 H1 x w1 v rr => step W1 H1 r h1 v x w1 (st.ext x w1) rr p
  | ex c h1 => rw [q] at p; exact fun W' H' x w' => p W' H' σ (st.x.trans x) w'
  | no => rw [q] at p; exact p
theorem S_bindL {es : List E} {k : List R → MH → O Fl} {Q : List V → Hp → Prop} (st : SSt A Wi Hi W h oA ss σ H) (p : PostS A Wi Hi W H Wx Dn ((evL A.G es ss h).bind k))
    (step : ∀ W1 H1 rs h1 vs, evL A.G es ss h = .ok rs h1 → Ext W H W1 H1 → WOkA A W1 h1 H1 → SSt A Wi Hi W1 h1 oA ss σ H1 → Paired (RRel A.K W1 H H1) vs rs → PostS A Wi Hi W H Wx Dn (k rs h1) → Q vs H1) : tA A Wx es σ H Q := by
  refine ⟨W, h, oA, ss, st.w, st.s, ?_⟩
  cases q : evL A.G es ss h with
  | ok r h1 =>
    rw [q] at p
    exact fun W1 H1 x w1 v rr => step W1 H1 r h1 v q x w1 (st.ext x w1) rr p
  | ex c h1 => rw [q] at p; exact fun W' H' x w' => p W' H' σ (st.x.trans x) w'
  | no => rw [q] at p; exact p
theorem S_bindT {e : E} {k : Bool → MH → O Fl} {Q : Bool → Hp → Prop} (st : SSt A Wi Hi W h oA ss σ H) (p : PostS A Wi Hi W H Wx Dn (((evE A.G e ss h).bind fun r h => O.of h (blE r)).bind k))
    (step : ∀ W1 H1 b h1, Ext W H W1 H1 → SSt A Wi Hi W1 h1 oA ss σ H1 → PostS A Wi Hi W1 H1 Wx Dn (k b h1) → Q b H1) : tT A Wx e σ H Q := by
  refine ⟨W, h, oA, ss, st.w, st.s, ?_⟩
  cases q : (evE A.G e ss h).bind fun r h => O.of h (blE r) with
  | ok r h1 =>
    rw [q] at p
    exact fun W1 H1 x w1 => step W1 H1 r h1 x (st.ext x w1) (p.mono (x.exs st.w))
  | ex c h1 => rw [q] at p; exact fun W' H' x w' => p W' H' σ (st.x.trans x) w'
  | no => rw [q] at p; exact p
/-! ### blocks -/
theorem imp_bnil (t : tBk A Wi Hi Wx [] Dn σ H) : tNext Dn σ H := by
  obtain ⟨W, h, oA, ss, st, p⟩ := t
  exact p W H oA σ st (ExS.refl _ _)
theorem imp_bcons {c : S} {r : List S} (t : tBk A Wi Hi Wx (c :: r) Dn σ H) : tSeq (tS A Wi Hi Wx c) (tBk A Wi Hi Wx r) Dn σ H := by
  obtain ⟨W, h, oA, ss, st, p⟩ := t
  rw [evB] at p
  refine ⟨W, h, oA, ss, st, ?_⟩
  cases q : evS A.G c ss h with
  | ok f h1 =>
    rw [q] at p
    cases f with
    | nx ss' => exact fun W' H' oA' σ' st' y => ⟨W', h1, oA', ss', st', PostS.mono y p⟩
    | rt r => exact p
  | ex c h1 => rw [q] at p; exact p
  | no => rw [q] at p; exact p
theorem imp_if {c : E} {a b : List S} (t : tS A Wi Hi Wx (.ifs c a b) Dn σ H) : tIfS (tT A Wx c) (tBk A Wi Hi Wx a) (tBk A Wi Hi Wx b) Dn σ H := by
  obtain ⟨W, h, oA, ss, st, p⟩ := t
  rw [evS] at p
  rw [← O.bind_assoc] at p
  refine S_bindT st p fun W1 H1 t h1 x1 st1 p1 => ?_
  cases t with
  | true => exact iteT ⟨W1, h1, oA, ss, st1, p1⟩
  | false => exact iteF ⟨W1, h1, oA, ss, st1, p1⟩
theorem imp_pass (t : tS A Wi Hi Wx .pass Dn σ H) : tNext Dn σ H := by
  obtain ⟨W, h, oA, ss, st, p⟩ := t
  rw [evS] at p
  exact p W H oA σ st (ExS.refl _ _)
theorem imp_expr {e : E} (t : tS A Wi Hi Wx (.expr e) Dn σ H) : tDrop (tE A Wx e) Dn σ H := by
  obtain ⟨W, h, oA, ss, st, p⟩ := t
  rw [evS] at p
  exact S_bind st p fun W1 H1 r h1 v x1 w1 st1 q p1 => p1 W1 H1 oA σ st1 (x1.exs st.w)
theorem imp_ret {e : E} (t : tS A Wi Hi Wx (.ret e) Dn σ H) : tRet (tE A Wx e) Dn σ H := by
  obtain ⟨W, h, oA, ss, st, p⟩ := t
  rw [evS] at p
  refine S_bind st p fun W1 H1 r h1 v x1 w1 st1 q p1 => ?_
  cases r with
  | v d => exact p1 W1 H1 v st1.x w1 q
  | nl xs => exact p1 W1 H1 v st1.x w1 (q.back st.x)
  | bw xs => exact p1.elim
theorem imp_retN (t : tS A Wi Hi Wx .retN Dn σ H) : tRetN Dn σ H := by
  obtain ⟨W, h, oA, ss, st, p⟩ := t
  rw [evS] at p
  exact p W H .non st.x st.w .non
theorem imp_retO {j : Nat} (t : tS A Wi Hi Wx (.retO j) Dn σ H) : tRet (tVar j) Dn σ H := by
  obtain ⟨W, h, oA, ss, st, p⟩ := t
  rw [evS] at p
  split at p
  · rename_i xs e
    obtain ⟨a, vs, e1, e2, e3, e4⟩ := st.s.own j xs e
    exact ⟨_, e2, p W H (.ref a) st.x st.w ⟨a, vs, rfl, st.f j a e1, e3, e4, (st.s.free j a e1).2.1, (st.s.free j a e1).1⟩⟩
  · exact p.elim
/-! ### stores -/
theorem SSt.setV {j : Nat} {v : V} {d : D} (st : SSt A Wi Hi W h oA ss σ H) (hj : j < ss.length) (r : Rep A.K W H v d) : SSt A Wi Hi W h oA (ss.set j (some (.v d))) (σ.set j (some v)) H :=
  ⟨st.w, st.s.setV hj r, st.x, st.f⟩
theorem imp_asg {t : Tg} {e : E} (z : tS A Wi Hi Wx (.asg t e) Dn σ H) : tAsg (tE A Wx e) (gTg A.K t) Dn σ H := by
  obtain ⟨W, h, oA, ss, st, p⟩ := z
  rw [evS] at p
  refine S_bind st p fun W1 H1 r h1 v x1 w1 st1 q p1 => ?_
  cases e1 : r.toD with
  | none => rw [e1] at p1; exact p1.elim
  | some d =>
    rw [e1] at p1
    simp only [Option.bind_some] at p1
    cases e2 : asgT t d ss with
    | none => rw [e2] at p1; exact p1.elim
    | some ss' =>
      rw [e2] at p1
      have st2 := st.fz x1 w1
      exact tg_ok st2.s (q.fz e1) e2 fun σ' s' _ => p1 _ H1 oA σ' ⟨st2.w, s', st2.x, st.f⟩ (fz_exs2 st.w x1)
/-- a name takes a list that nobody else holds -/
theorem SRel.setOwn {K : PySem.W.Frag} {j : Nat} {p : Addr} {vs : List V} {xs : List D} (s0 : SRel K W H oA ss σ) (n : H p = none) (s : SRel K W1 H1 oA ss σ) (hj : j < ss.length) (e : H1 p = some (.lst vs)) (r : RepL K W1 H1 vs xs) (nF : ¬ W1.F p) (nf : ¬ W1.fp p) :
    SRel K W1 H1 (fun i => if i = j then some p else oA i) (ss.set j (some (.own xs))) (σ.set j (some (.ref p))) where
  vs := fun i d q => by
    by_cases z : j = i
    · subst z
      rw [List.getElem?_set_self hj] at q
      cases q
    · rw [List.getElem?_set_ne z] at q ⊢
      exact s.vs i d q
  own := fun i ys q => by
    by_cases z : j = i
    · subst z
      rw [List.getElem?_set_self hj] at q
      cases q
      exact ⟨p, vs, by simp, by rw [List.getElem?_set_self (by rw [← s.len]; exact hj)], e, r⟩
    · rw [List.getElem?_set_ne z] at q
      obtain ⟨a, us, e1, e2, e3⟩ := s.own i ys q
      exact ⟨a, us, by rw [if_neg (Ne.symm z)]; exact e1, by rw [List.getElem?_set_ne z]; exact e2, e3⟩
  bw := fun i ys q => by
    by_cases z : j = i
    · subst z
      rw [List.getElem?_set_self hj] at q
      cases q
    · rw [List.getElem?_set_ne z] at q
      obtain ⟨a, us, e2, e3, e4, e5, e6⟩ := s.bw i ys q
      obtain ⟨a', us', e2', e3', _⟩ := s0.bw i ys q
      have ea : a = a' := by rw [e2] at e2'; cases e2'; rfl
      subst ea
      refine ⟨a, us, by rw [List.getElem?_set_ne z]; exact e2, e3, e4, e5, fun l => ?_⟩
      show (if l = j then some p else oA l) ≠ some a
      split
      · intro z2
        cases z2
        rw [n] at e3'
        cases e3'
      · exact e6 l
  inj := fun i l a h1 h2 => by
    have np : ∀ m, oA m ≠ some p := fun m q => (s0.free m p q).2.2 n
    split at h1
    · split at h2
      · rename_i z1 z2; rw [z1, z2]
      · cases h1; exact (np _ h2).elim
    · split at h2
      · cases h2; exact (np _ h1).elim
      · exact s.inj i l a h1 h2
  free := fun i a h1 => by
    split at h1
    · cases h1; exact ⟨nf, nF, by rw [e]; exact Option.some_ne_none _⟩
    · exact s.free i a h1
  len := by simp [s.len]
theorem imp_asgO {j : Nat} {e : E} (z : tS A Wi Hi Wx (.asgO j e) Dn σ H) : tAsg (tE A Wx e) (gName j) Dn σ H := by
  obtain ⟨W, h, oA, ss, st, p⟩ := z
  rw [evS] at p
  refine S_bind st p fun W1 H1 r h1 v x1 w1 st1 q p1 => ?_
  cases r with
  | v d => exact p1.elim
  | bw xs => exact p1.elim
  | nl xs =>
    simp only at p1
    unfold setSl at p1
    split at p1
    · rename_i hj
      obtain ⟨b, vs, rfl, n, e3, e4, e5, e6⟩ := q
      refine p1 W1 H1 _ _ ⟨w1, SRel.setOwn st.s n st1.s hj e3 e4 e5 e6, st1.x, fun i a z => ?_⟩ (x1.exs st.w)
      split at z
      · cases z; exact st.x.new n
      · exact st.f i a z
    · exact p1.elim
end
end GV
set_option Elab.async false
set_option linter.all false
set_option maxRecDepth 100000
set_option maxHeartbeats 4000000
/-! GV16: loops, lists that grow. -/
namespace GV
open PySem L2
section
variable {A : Stat} {Wi : Wd} {Hi : Hp} {W W1 : Wd} {h h1 : MH} {oA : Nat → Option Addr} {ss : SS} {σ : L2.St} {H H1 : Hp} {Wx : WX} {Dn : Ends}
theorem PostS.prOk (st : SSt A Wi Hi W h oA ss σ H) : PrOk A W H Wx σ (PostS A Wi Hi W H Wx Dn) := ⟨fun z => z, fun c h' z W' H' x w => z W' H' σ (st.x.trans x) w⟩
/-- frozen data stand through statements -/
theorem srcExS {v : V} {r : R} {d : D} (q : RRel A.K W1 H H1 v r) (e : r.toD = some d) : SrcOk A (ExS (W1.fz H H1) H1) v r := by
  have rp := q.fz e
  cases r with
  | bw xs => cases e
  | v d' =>
    obtain rfl : d' = d := Option.some.inj e
    refine ⟨fun xs e => ?_, fun xs e => ?_⟩
    · have e' : d' = .lst xs := e
      subst e'
      cases rp with
      | lst q1 q2 q3 => exact ⟨_, _, rfl, fun W' H' x => by
          have := Rep.exs x (Rep.lst q1 q2 q3)
          refine ⟨?_, RepL.exs x q3⟩
          rcases q1 with q1 | ⟨o, q1⟩
          · exact .inl (.inl (x.lst _ _ q2 q1))
          · exact .inl (.inr ⟨o, x.frz _ _ _ q1⟩)⟩
    · have e' : d' = .tup xs := e
      subst e'
      cases rp with
      | tup q1 q3 => exact ⟨_, _, rfl, fun W' H' x => by
          refine ⟨?_, RepL.exs x q3⟩
          rcases q1 with (q1 | ⟨o, q1⟩) | q1
          · exact .inl (.inl (x.tup _ _ q1))
          · exact .inl (.inr ⟨o, x.frz _ _ _ q1⟩)
          · exact .inr q1⟩
  | nl ys =>
    cases e
    refine ⟨fun xs e => ?_, fun xs e => by cases e⟩
    cases e
    cases rp with
    | lst q1 q2 q3 => exact ⟨_, _, rfl, fun W' H' x => by
        refine ⟨?_, RepL.exs x q3⟩
        rcases q1 with q1 | ⟨o, q1⟩
        · exact .inl (.inl (x.lst _ _ q2 q1))
        · exact .inl (.inr ⟨o, x.frz _ _ _ q1⟩)⟩
theorem srcExSL : ∀ {vs : List V} {rs : List R} {ds : List D}, Paired (RRel A.K W1 H H1) vs rs → toDs rs = some ds → Paired (SrcOk A (ExS (W1.fz H H1) H1)) vs rs
  | _, _, _, .nil, _ => .nil
  | _, r :: rs, ds, .cons a b, e => by
    unfold toDs at e
    cases e1 : r.toD with
    | none => rw [e1] at e; cases e
    | some d =>
      rw [e1] at e
      cases e2 : toDs rs with
      | none => rw [e2] at e; cases e
      | some es => exact .cons (srcExS a e1) (srcExSL b e2)
theorem imp_for {k : IK} {src : List E} {t : Tg} {b : List S} (hsrc : srcB k src = true) (z : tS A Wi Hi Wx (.for_ k src t b) Dn σ H) : tFor (iK A Wx k src) (gTg A.K t) (tBk A Wi Hi Wx b) Dn σ H := by
  obtain ⟨W, h, oA, ss, st, p⟩ := z
  rw [evS] at p
  refine imp_src (Kk := fun rs ds h => match toDs rs with
    | some _ => evFor (evB A.G b) t ds ss h
    | none => .no) (PostS.prOk st) hsrc st.w st.s p fun W1 H1 rs ds h1 J vs x1 w1 s1 qs wk p0 => ?_
  cases e : toDs rs with
  | none => rw [e] at p0; exact p0.elim
  | some es =>
    rw [e] at p0
    obtain ⟨G, Y, wlk, hG, hY⟩ := wk _ (srcExSL qs e)
    have st2 := st.fz x1 w1
    have p1 : PostS A Wi Hi (W1.fz H H1) H1 Wx Dn (evFor (evB A.G b) t ds ss h1) := PostS.mono (fz_exs2 st.w x1) p0
    refine for_it wlk (fun i σ' H' => ∃ W' h' oA' ss', SSt A Wi Hi W' h' oA' ss' σ' H' ∧ ExS (W1.fz H H1) H1 W' H' ∧ PostS A Wi Hi W' H' Wx Dn (evFor (evB A.G b) t (ds.drop i) ss' h')) ?_ ?_ ?_ ?_
    · exact ⟨_, h1, oA, ss, st2, ExS.refl _ _, by simpa using p1⟩
    · intro i σ' H' hi ⟨W', h', oA', ss', st', y', _⟩
      exact hG W' H' y'
    · intro i x σ' H' H'' hi ⟨W', h', oA', ss', st', y', pp⟩ yy
      obtain ⟨d, ed, rd, x2, w2⟩ := hY i H' x H'' W' h' hi y' st'.w yy
      have dr : ds.drop i = d :: ds.drop (i + 1) := by
        obtain ⟨hlt, hget⟩ := List.getElem?_eq_some_iff.mp ed
        rw [List.drop_eq_getElem_cons hlt, hget]
      rw [dr, evFor] at pp
      cases ea : asgT t d ss' with
      | none => rw [ea] at pp; exact pp.elim
      | some ss1 =>
        rw [ea] at pp
        have st3 := st'.ext x2 w2
        refine tg_ok st3.s rd ea fun σ2 s2 _ => ⟨W', h', oA', ss1, ⟨w2, s2, st3.x, st'.f⟩, ?_⟩
        have ye : ExS W' H' W' H'' := x2.exs st'.w
        simp only [O.of_some, O.bind_ok] at pp
        cases eb : evB A.G b ss1 h' with
        | ok f h2 =>
          rw [eb] at pp
          cases f with
          | nx ss2 => exact fun W4 H4 oA4 σ4 st4 y4 => ⟨W4, h2, oA4, ss2, st4, (y'.trans ye).trans y4, PostS.mono (ye.trans y4) pp⟩
          | rt r => exact pp
        | ex c h2 => rw [eb] at pp; exact pp
        | no => rw [eb] at pp; exact pp
    · intro σ' H' ⟨W', h', oA', ss', st', y', pp⟩
      rw [List.drop_length, evFor] at pp
      exact pp W' H' oA' σ' st' (ExS.refl _ _)
/-! ### a list of the frame's own changes -/
theorem SRel.chgOwn {K : PySem.W.Frag} {j : Nat} {a : Addr} {vs us : List V} {ys : List D} (s : SRel K W H oA ss σ) (hj : j < ss.length) (ho : oA j = some a) (hσ : σ[j]? = some (some (.ref a))) (e : H a = some (.lst vs)) (r : RepL K W H us ys) :
    SRel K W (upd H a (.lst us)) oA (ss.set j (some (.own ys))) σ where
  vs := fun i d q => by
    by_cases z : j = i
    · subst z
      rw [List.getElem?_set_self hj] at q
      cases q
    · rw [List.getElem?_set_ne z] at q
      obtain ⟨v, e1, e2⟩ := s.vs i d q
      exact ⟨v, e1, Rep.chg e (s.free j a ho).2.1 e2⟩
  own := fun i zs q => by
    by_cases z : j = i
    · subst z
      rw [List.getElem?_set_self hj] at q
      cases q
      exact ⟨a, us, ho, hσ, upd_same, RepL.chg e (s.free j a ho).2.1 r⟩
    · rw [List.getElem?_set_ne z] at q
      obtain ⟨b, ws, e1, e2, e3, e4⟩ := s.own i zs q
      have nb : b ≠ a := fun y => z (s.inj j i a ho (y ▸ e1))
      exact ⟨b, ws, e1, e2, by rw [upd_ne nb]; exact e3, RepL.chg e (s.free j a ho).2.1 e4⟩
  bw := fun i zs q => by
    by_cases z : j = i
    · subst z
      rw [List.getElem?_set_self hj] at q
      cases q
    · rw [List.getElem?_set_ne z] at q
      obtain ⟨b, ws, e2, e3, e4, e5, e6⟩ := s.bw i zs q
      have nb : b ≠ a := fun y => e6 j (y ▸ ho)
      exact ⟨b, ws, e2, by rw [upd_ne nb]; exact e3, RepL.chg e (s.free j a ho).2.1 e4, e5, e6⟩
  inj := s.inj
  free := fun i b q => by
    obtain ⟨h1, h2, h3⟩ := s.free i b q
    refine ⟨h1, h2, ?_⟩
    by_cases z : b = a
    · subst z; rw [upd_same]; exact Option.some_ne_none _
    · rw [upd_ne z]; exact h3
  len := by simp [s.len]
theorem SSt.chgOwn {j : Nat} {a : Addr} {vs us : List V} {ys : List D} (st : SSt A Wi Hi W h oA ss σ H) (hj : j < ss.length) (ho : oA j = some a) (hσ : σ[j]? = some (some (.ref a))) (e : H a = some (.lst vs)) (r : RepL A.K W H us ys) :
    SSt A Wi Hi W h oA (ss.set j (some (.own ys))) σ (upd H a (.lst us)) ∧ ExS W H W (upd H a (.lst us)) :=
  ⟨⟨st.w.chg e (st.s.free j a ho).2.1 (st.s.free j a ho).1, st.s.chgOwn hj ho hσ e r, st.x.chg e (st.f j a ho), st.f⟩, chg_exs e (st.s.free j a ho).2.1⟩
/-! ### a list by reference changes -/
theorem Paired.setOther {K : PySem.W.Frag} {i : Nat} {a : Addr} {xs ys : List V} (e : H a = some (.lst xs)) (n : ¬ W.F a) (hk : ∀ f, W.k (i, some f) ≠ some a) : ∀ {fs : List (Str × Fd)} {gs : List (Str × V)}, Paired (FRel K W H i) fs gs → Paired (FRel K W (upd H a (.lst ys)) i) fs gs
  | _, _, .nil => .nil
  | (f, .v d) :: _, _, .cons q b => .cons ⟨q.1, Rep.chg e n q.2⟩ (Paired.setOther e n hk b)
  | (f, .own k xs) :: _, _, .cons q b => .cons ⟨q.1, by
      obtain ⟨_, c, vs, h1, h2, h3, h4⟩ := q
      exact ⟨c, vs, h1, h2, by rw [upd_ne (fun z => hk _ (z ▸ h1))]; exact h3, RepL.chg e n h4⟩⟩ (Paired.setOther e n hk b)
theorem WOk.setObj {K : PySem.W.Frag} {cl : Nat → Option Addr} {i : Nat} {a : Addr} {xs : List D} {vs us : List V} {ys : List D} (w : WOk K cl W h H) (hi : h[i]? = some (.lst xs)) (hk : W.k (i, none) = some a) (e : H a = some (.lst vs)) (r : RepL K W H us ys) :
    WOk K cl W (h.set i (.lst ys)) (upd H a (.lst us)) := by
  have nF : ¬ W.F a := fun z => w.dis a z ⟨_, hk⟩
  have hlt : i < h.length := by
    obtain ⟨z, _⟩ := List.getElem?_eq_some_iff.mp hi
    exact z
  refine ⟨w.inj, w.dis, fun b z => ?_, fun b z => by rw [upd_ne (ne_F z nF)]; exact w.frz b z, fun l o q => ?_, fun q b z => by rw [List.length_set]; exact w.bnd q b z⟩
  · by_cases eb : b = a
    · subst eb; exact .inl ⟨us, upd_same⟩
    · rw [upd_ne eb]; exact w.cov b z
  · by_cases el : i = l
    · subst el
      rw [List.getElem?_set_self hlt] at q
      cases q
      exact ⟨a, us, hk, upd_same, RepL.chg e nF r⟩
    · rw [List.getElem?_set_ne el] at q
      have m := w.obj l o q
      cases o with
      | lst zs =>
        obtain ⟨b, ws, e1, e2, e3⟩ := m
        have nb : b ≠ a := fun z => el (by have := w.inj _ _ _ hk (z ▸ e1); exact congrArg Prod.fst this)
        exact ⟨b, ws, e1, by rw [upd_ne nb]; exact e2, RepL.chg e nF e3⟩
      | ins c fs =>
        obtain ⟨b, C, dx, gs, e1, e2, e3, e4⟩ := m
        have nb : b ≠ a := fun z => el (by have := w.inj _ _ _ hk (z ▸ e1); exact congrArg Prod.fst this)
        refine ⟨b, C, dx, gs, e1, e2, by rw [upd_ne nb]; exact e3, Paired.setOther e nF (fun f z => ?_) e4⟩
        have := w.inj _ _ _ hk z
        cases this
theorem SRel.chgFp {K : PySem.W.Frag} {cl : Nat → Option Addr} {a : Addr} {vs us : List V} (w : WOk K cl W h H) (s : SRel K W H oA ss σ) (hf : W.fp a) (e : H a = some (.lst vs)) : SRel K W (upd H a (.lst us)) oA ss σ := by
  have nF : ¬ W.F a := fun z => w.dis a z hf
  refine ⟨fun j d q => ?_, fun j xs q => ?_, fun j xs q => ?_, s.inj, fun j b q => ?_, s.len⟩
  · obtain ⟨v, e1, e2⟩ := s.vs j d q
    exact ⟨v, e1, Rep.chg e nF e2⟩
  · obtain ⟨b, ws, e1, e2, e3, e4⟩ := s.own j xs q
    have nb : b ≠ a := fun z => (s.free j b e1).1 (z ▸ hf)
    exact ⟨b, ws, e1, e2, by rw [upd_ne nb]; exact e3, RepL.chg e nF e4⟩
  · obtain ⟨b, ws, e2, e3, e4, e5, e6⟩ := s.bw j xs q
    have nb : b ≠ a := fun z => e5 (z ▸ hf)
    exact ⟨b, ws, e2, by rw [upd_ne nb]; exact e3, RepL.chg e nF e4, e5, e6⟩
  · obtain ⟨h1, h2, h3⟩ := s.free j b q
    have nb : b ≠ a := fun z => h1 (z ▸ hf)
    exact ⟨h1, h2, by rw [upd_ne nb]; exact h3⟩
theorem Ext.chgFp {a : Addr} {o : HO} (x : Ext Wi Hi W H) (hf : W.fp a) : Ext Wi Hi W (upd H a o) where
  keep := fun b u q n => by
    have nb : b ≠ a := fun z => by
      subst z
      rcases x.fpn b hf with y | y
      · exact n y
      · rw [q] at y; cases y
    rw [upd_ne nb]
    exact x.keep b u q n
  there := fun b q => by
    by_cases z : b = a
    · subst z; rw [upd_same]; exact Option.some_ne_none _
    · rw [upd_ne z]; exact x.there b q
  fpn := x.fpn
  ids := x.ids
  fF := x.fF
  fn := x.fn
theorem SSt.setObj {i : Nat} {a : Addr} {xs : List D} {vs us : List V} {ys : List D} (st : SSt A Wi Hi W h oA ss σ H) (hi : h[i]? = some (.lst xs)) (hk : W.k (i, none) = some a) (e : H a = some (.lst vs)) (r : RepL A.K W H us ys) :
    SSt A Wi Hi W (h.set i (.lst ys)) oA ss σ (upd H a (.lst us)) ∧ ExS W H W (upd H a (.lst us)) :=
  ⟨⟨st.w.setObj hi hk e r, st.s.chgFp st.w ⟨_, hk⟩ e, st.x.chgFp ⟨_, hk⟩, st.f⟩, chg_exs e fun z => st.w.dis a z ⟨_, hk⟩⟩
/-! ### append, extend -/
theorem tyV_list {K : PySem.W.Frag} {a : Addr} {vs : List V} (e : H a = some (.lst vs)) : tyV K "list" (.ref a) H := Or.inl ⟨rfl, _, Or.inl (Or.inl e)⟩
/-- the list that a name holds: of the frame, or by reference -/
theorem app_slot {j : Nat} {ys : List D} {us : List V} {h' : MH} (st : SSt A Wi Hi W h oA ss σ H) (r : RepL A.K W H us ys) (p : PostS A Wi Hi W1 H1 Wx Dn (appTo ss j ys h)) (y : ExS W1 H1 W H) :
    ∃ a vs, σ[j]? = some (some (.ref a)) ∧ H a = some (.lst vs) ∧ vs.length + us.length ≤ 1000000 ∧ Dn.nx σ (upd H a (.lst (vs ++ us))) := by
  unfold appTo at p
  split at p
  · rename_i xs e
    obtain ⟨a, vs, e1, e2, e3, e4⟩ := st.s.own j xs e
    split at p
    · rename_i hs
      have hj : j < ss.length := (List.getElem?_eq_some_iff.mp e).1
      unfold setSl at p
      rw [if_pos hj] at p
      obtain ⟨st2, y2⟩ := st.chgOwn hj e1 e2 e3 (e4.append r)
      exact ⟨a, vs, e2, e3, by rw [e4.length, r.length]; exact of_decide_eq_true hs, p _ _ _ _ st2 (y.trans y2)⟩
    · exact p.elim
  · rename_i i e
    obtain ⟨v, e1, e2⟩ := st.s.vs j _ e
    split at p
    · rename_i xs hi
      obtain ⟨a, vs, k1, k2, k3⟩ := st.w.obj i _ hi
      cases e2 with
      | obj k4 =>
        rename_i a'
        have : a' = a := by rw [k1] at k4; exact (Option.some.inj k4).symm
        subst this
        split at p
        · rename_i hs
          obtain ⟨st2, y2⟩ := st.setObj hi k1 k2 (k3.append r)
          exact ⟨a', vs, e1, k2, by rw [k3.length, r.length]; exact of_decide_eq_true hs, p _ _ _ _ st2 (y.trans y2)⟩
        · exact p.elim
    · exact p.elim
  · exact p.elim
/-- the name's list is there ahead of the argument -/
theorem app_pre {j : Nat} (st : SSt A Wi Hi W h oA ss σ H) (e : isLst ss j h = true) : ∃ a vs, σ[j]? = some (some (.ref a)) ∧ H a = some (.lst vs) := by
  unfold isLst at e
  split at e
  · rename_i xs q
    obtain ⟨a, vs, e1, e2, e3, e4⟩ := st.s.own j xs q
    exact ⟨a, vs, e2, e3⟩
  · rename_i i q
    split at e
    · rename_i xs hi
      obtain ⟨v, e1, e2⟩ := st.s.vs j _ q
      obtain ⟨a, vs, k1, k2, k3⟩ := st.w.obj i _ hi
      cases e2 with
      | obj k4 =>
        rename_i a'
        have : a' = a := by rw [k1] at k4; exact (Option.some.inj k4).symm
        subst this
        exact ⟨a', vs, e1, k2⟩
    · cases e
  · cases e
theorem imp_app {j : Nat} {e : E} (z : tS A Wi Hi Wx (.app j e) Dn σ H) : tDrop (tBM A.K "list" rAppend (tVar j) (tCons (tE A Wx e) tNil)) Dn σ H := by
  obtain ⟨W, h, oA, ss, st, p⟩ := z
  rw [evS] at p
  cases el : isLst ss j h with
  | false => rw [el] at p; exact p.elim
  | true =>
    rw [el] at p
    obtain ⟨a, vs, e1, e2⟩ := app_pre st el
    refine ⟨.ref a, e1, tyV_list e2, ?_⟩
    refine S_bind st p fun W1 H1 r h1 v x1 w1 st1 q p1 => ?_
    cases e3 : r.toD with
    | none => rw [e3] at p1; exact p1.elim
    | some d =>
      rw [e3] at p1
      have st2 := st.fz x1 w1
      obtain ⟨a', us, k1, k2, k3, k4⟩ := app_slot (h' := h1) st2 (.cons (q.fz e3) .nil) p1 (fz_exs2 st.w x1)
      have : a' = a := by rw [e1] at k1; cases k1; rfl
      subst this
      exact ⟨a', us, v, rfl, rfl, k2, Nat.lt_of_le_of_lt (show us.length ≤ 1000000 by simp at k3; omega) (by decide), k4⟩
theorem imp_ext {j : Nat} {e : E} (z : tS A Wi Hi Wx (.ext j e) Dn σ H) : tDrop (tBM A.K "list" rExtend (tVar j) (tCons (tE A Wx e) tNil)) Dn σ H := by
  obtain ⟨W, h, oA, ss, st, p⟩ := z
  rw [evS] at p
  cases el : isLst ss j h with
  | false => rw [el] at p; exact p.elim
  | true =>
    rw [el] at p
    obtain ⟨a, vs, e1, e2⟩ := app_pre st el
    refine ⟨.ref a, e1, tyV_list e2, ?_⟩
    refine S_bind st p fun W1 H1 r h1 v x1 w1 st1 q p1 => ?_
    cases r with
    | v d => exact p1.elim
    | bw xs => exact p1.elim
    | nl xs =>
      obtain ⟨b, ws, rfl, n, e3, e4, e5, e6⟩ := q
      obtain ⟨a', us, k1, k2, k3, k4⟩ := app_slot (h' := h1) st1 e4 p1 (x1.exs st.w)
      have : a' = a := by rw [e1] at k1; cases k1; rfl
      subst this
      exact ⟨a', b, us, ws, rfl, rfl, k2, e3, Nat.le_trans k3 (by decide), k4⟩
/-! ### a new list by reference -/
def Wd.add (W : Wd) (n : Nat) (p : Addr) : Wd := { W with k := fun q => if q = (n, none) then some p else W.k q }
theorem imp_asgR {j : Nat} {e : E} (z : tS A Wi Hi Wx (.asgR j e) Dn σ H) : tAsg (tE A Wx e) (gName j) Dn σ H := by
  obtain ⟨W, h, oA, ss, st, p⟩ := z
  rw [evS] at p
  refine S_bind st p fun W1 H1 r h1 v x1 w1 st1 q p1 => ?_
  cases r with
  | v d => exact p1.elim
  | bw xs => exact p1.elim
  | nl xs =>
    simp only at p1
    unfold setSl at p1
    by_cases hj : j < ss.length
    · rw [if_pos hj] at p1
      obtain ⟨b, vs, rfl, n, e3, e4, e5, e6⟩ := q
      have nk : W1.k (h1.length, none) = none := by
        cases q : W1.k (h1.length, none) with
        | none => rfl
        | some a => exact absurd (w1.bnd _ a q) (Nat.lt_irrefl _)
      have fpA : ∀ a, (W1.add h1.length b).fp a ↔ a = b ∨ W1.fp a := fun a => by
        constructor
        · rintro ⟨q, hq⟩
          unfold Wd.add at hq
          simp only at hq
          split at hq
          · exact .inl (Option.some.inj hq).symm
          · exact .inr ⟨q, hq⟩
        · rintro (z | ⟨q, hq⟩)
          · subst z; exact ⟨(h1.length, none), by simp [Wd.add]⟩
          · refine ⟨q, ?_⟩
            unfold Wd.add
            simp only
            rw [if_neg (fun z => by rw [z, nk] at hq; cases hq)]
            exact hq
      have xS : ExS W1 H1 (W1.add h1.length b) H1 := ⟨fun _ _ e => e, fun _ _ _ e => e, fun _ _ _ e => e, fun q a hq => by
        unfold Wd.add
        simp only
        rw [if_neg (fun z => by rw [z, nk] at hq; cases hq)]
        exact hq, fun _ f => f⟩
      have w2 : WOkA A (W1.add h1.length b) (h1 ++ [.lst xs]) H1 := by
        refine ⟨fun q q' a h2 h3 => ?_, fun a f z => ?_, fun a z => ?_, w1.frz, fun i o q => ?_, fun q a hq => ?_⟩
        · unfold Wd.add at h2 h3
          simp only at h2 h3
          split at h2
          · split at h3
            · rename_i z1 z2; rw [z1, z2]
            · cases h2; exact (e6 ⟨_, h3⟩).elim
          · split at h3
            · cases h3; exact (e6 ⟨_, h2⟩).elim
            · exact w1.inj q q' a h2 h3
        · rcases (fpA a).mp z with y | y
          · subst y; exact e5 f
          · exact w1.dis a f y
        · rcases (fpA a).mp z with y | y
          · subst y; exact .inl ⟨vs, e3⟩
          · exact w1.cov a y
        · by_cases hi : i < h1.length
          · rw [List.getElem?_append_left hi] at q
            have m := w1.obj i o q
            cases o with
            | lst zs =>
              obtain ⟨a, ws, k1, k2, k3⟩ := m
              exact ⟨a, ws, xS.ids _ _ k1, k2, RepL.exs xS k3⟩
            | ins c fs =>
              obtain ⟨a, C, dx, gs, k1, k2, k3, k4⟩ := m
              refine ⟨a, C, dx, gs, xS.ids _ _ k1, k2, k3, Paired.mapP k4 fun pp qq z => ?_⟩
              obtain ⟨f, fd⟩ := pp
              cases fd with
              | v d => exact ⟨z.1, Rep.exs xS z.2⟩
              | own m ys =>
                obtain ⟨z1, c, ws, z2, z3, z4, z5⟩ := z
                exact ⟨z1, c, ws, xS.ids _ _ z2, z3, z4, RepL.exs xS z5⟩
          · rw [List.getElem?_append_right (by omega)] at q
            have ei : i = h1.length := by
              have := (List.getElem?_eq_some_iff.mp q).1
              simp at this
              omega
            subst ei
            simp at q
            subst q
            exact ⟨b, vs, by simp [Wd.add], e3, RepL.exs xS e4⟩
        · rw [List.length_append, List.length_singleton]
          unfold Wd.add at hq
          simp only at hq
          split at hq
          · rename_i z; rw [z]; exact Nat.lt_succ_self _
          · exact Nat.lt_succ_of_lt (w1.bnd q a hq)
      have nb : ∀ l, oA l ≠ some b := fun l q => (st.s.free l b q).2.2 n
      have s2 : SRel A.K (W1.add h1.length b) H1 oA ss σ := by
        refine ⟨fun i d q => ?_, fun i ys q => ?_, fun i ys q => ?_, st.s.inj, fun i a q => ?_, st.s.len⟩
        · obtain ⟨v, k1, k2⟩ := st1.s.vs i d q
          exact ⟨v, k1, Rep.exs xS k2⟩
        · obtain ⟨a, ws, k1, k2, k3, k4⟩ := st1.s.own i ys q
          exact ⟨a, ws, k1, k2, k3, RepL.exs xS k4⟩
        · obtain ⟨a, ws, k2, k3, k4, k5, k6⟩ := st1.s.bw i ys q
          obtain ⟨a', ws', k2', k3', _⟩ := st.s.bw i ys q
          have ea : a = a' := by rw [k2] at k2'; cases k2'; rfl
          refine ⟨a, ws, k2, k3, RepL.exs xS k4, fun z => ?_, k6⟩
          rcases (fpA a).mp z with y | y
          · rw [y] at ea; rw [← ea, n] at k3'; cases k3'
          · exact k5 y
        · obtain ⟨k1, k2, k3⟩ := st1.s.free i a q
          refine ⟨fun z => ?_, k2, k3⟩
          rcases (fpA a).mp z with y | y
          · subst y; exact nb i q
          · exact k1 y
      have x2 : Ext Wi Hi (W1.add h1.length b) H1 := ⟨st1.x.keep, st1.x.there, fun a z => by
        rcases (fpA a).mp z with y | y
        · subst y; exact .inr (st.x.new n)
        · exact st1.x.fpn a y, fun q a hq => xS.ids _ _ (st1.x.ids q a hq), st1.x.fF, st1.x.fn⟩
      exact p1 _ H1 oA _ ⟨w2, s2.setV hj (.obj (by simp [Wd.add])), x2, st.f⟩ ((x1.exs st.w).trans xS)
    · rw [if_neg hj] at p1
      exact p1.elim
/-! ### names in parallel -/
theorem imp_par2 {i j : Nat} {a b : E} (z : tS A Wi Hi Wx (.par [i, j] [a, b]) Dn σ H) : tPar i j (tA A Wx [a, b]) Dn σ H := by
  obtain ⟨W, h, oA, ss, st, p⟩ := z
  rw [evS] at p
  refine S_bindL st p fun W1 H1 rs h1 vs eL x1 w1 st1 q p1 => ?_
  cases e : toDs rs with
  | none => rw [e] at p1; exact p1.elim
  | some ds =>
    rw [e] at p1
    simp only [Option.bind_some] at p1
    have r := RRelL.fz q e
    have st2 := st.fz x1 w1
    match ds, vs, r, p1 with
    | [d1, d2], [v1, v2], .cons r1 (.cons r2 .nil), p1 =>
      simp only [parS, setSl] at p1
      by_cases hi : i < ss.length
      · rw [if_pos hi] at p1
        simp only [Option.bind_some] at p1
        by_cases hj : j < (ss.set i (some (.v d1))).length
        · rw [if_pos hj] at p1
          exact ⟨v1, v2, rfl, p1 _ H1 oA _ ((st2.setV hi r1).setV hj r2) (fz_exs2 st.w x1)⟩
        · rw [if_neg hj] at p1; exact p1.elim
      · rw [if_neg hi] at p1; exact p1.elim
    | [], [], .nil, p1 => exact p1.elim
    | [d1], [v1], .cons r1 .nil, p1 =>
      simp only [parS, setSl] at p1
      by_cases hi : i < ss.length
      · rw [if_pos hi] at p1; exact p1.elim
      · rw [if_neg hi] at p1; exact p1.elim
    | d1 :: d2 :: d3 :: dr, v1 :: v2 :: v3 :: vr, .cons r1 (.cons r2 (.cons r3 _)), p1 =>
      simp only [parS, setSl] at p1
      by_cases hi : i < ss.length
      · rw [if_pos hi] at p1
        simp only [Option.bind_some] at p1
        by_cases hj : j < (ss.set i (some (.v d1))).length
        · rw [if_pos hj] at p1; exact p1.elim
        · rw [if_neg hj] at p1; exact p1.elim
      · rw [if_neg hi] at p1; exact p1.elim
/-- a list of the frame's own is frozen from here on -/
theorem imp_frz {j : Nat} {r : List S} (t : tBk A Wi Hi Wx (.frz j :: r) Dn σ H) : tBk A Wi Hi Wx r Dn σ H := by
  obtain ⟨W, h, oA, ss, st, p⟩ := t
  rw [evB, evS] at p
  split at p
  · rename_i xs e
    obtain ⟨a, vs, e1, e2, e3, e4⟩ := st.s.own j xs e
    have hj : j < ss.length := (List.getElem?_eq_some_iff.mp e).1
    unfold setSl at p
    rw [if_pos hj] at p
    simp only [Option.map_some, O.of_some, O.bind_ok] at p
    obtain ⟨f1, f2, f3⟩ := st.s.free j a e1
    let W' : Wd := { W with F := fun b => W.F b ∨ b = a }
    have xS : ExS W H W' H := ⟨fun _ _ e => e, fun _ _ _ e => e, fun _ _ _ e => e, fun _ _ e => e, fun _ f => .inl f⟩
    have w2 : WOkA A W' h H := by
      refine ⟨st.w.inj, fun b f z => ?_, st.w.cov, fun b f => ?_, fun i o q => ?_, st.w.bnd⟩
      · rcases f with f | f
        · exact st.w.dis b f z
        · subst f; exact f1 z
      · rcases f with f | f
        · exact st.w.frz b f
        · subst f; exact f3
      · have m := st.w.obj i o q
        cases o with
        | lst zs =>
          obtain ⟨b, ws, k1, k2, k3⟩ := m
          exact ⟨b, ws, k1, k2, RepL.exs xS k3⟩
        | ins c fs =>
          obtain ⟨b, C, dx, gs, k1, k2, k3, k4⟩ := m
          refine ⟨b, C, dx, gs, k1, k2, k3, Paired.mapP k4 fun pp qq z => ?_⟩
          obtain ⟨f, fd⟩ := pp
          cases fd with
          | v d => exact ⟨z.1, Rep.exs xS z.2⟩
          | own m ys =>
            obtain ⟨z1, c, ws, z2, z3, z4, z5⟩ := z
            exact ⟨z1, c, ws, z2, z3, z4, RepL.exs xS z5⟩
    have s2 : SRel A.K W' H (fun i => if i = j then none else oA i) (ss.set j (some (.v (.lst xs)))) σ := by
      refine ⟨fun i d q => ?_, fun i ys q => ?_, fun i ys q => ?_, fun i l b h1 h2 => ?_, fun i b q => ?_, by simp [st.s.len]⟩
      · by_cases z : j = i
        · subst z
          rw [List.getElem?_set_self hj] at q
          cases q
          exact ⟨_, e2, .lst (.inl e3) (.inr rfl) (RepL.exs xS e4)⟩
        · rw [List.getElem?_set_ne z] at q
          obtain ⟨v, k1, k2⟩ := st.s.vs i d q
          exact ⟨v, k1, Rep.exs xS k2⟩
      · by_cases z : j = i
        · subst z
          rw [List.getElem?_set_self hj] at q
          cases q
        · rw [List.getElem?_set_ne z] at q
          obtain ⟨b, ws, k1, k2, k3, k4⟩ := st.s.own i ys q
          exact ⟨b, ws, by rw [if_neg (Ne.symm z)]; exact k1, k2, k3, RepL.exs xS k4⟩
      · by_cases z : j = i
        · subst z
          rw [List.getElem?_set_self hj] at q
          cases q
        · rw [List.getElem?_set_ne z] at q
          obtain ⟨b, ws, k2, k3, k4, k5, k6⟩ := st.s.bw i ys q
          refine ⟨b, ws, k2, k3, RepL.exs xS k4, k5, fun l => ?_⟩
          show (if l = j then none else oA l) ≠ some b
          split
          · intro z2; cases z2
          · exact k6 l
      · split at h1
        · cases h1
        · split at h2
          · cases h2
          · exact st.s.inj i l b h1 h2
      · split at q
        · cases q
        · rename_i z
          obtain ⟨k1, k2, k3⟩ := st.s.free i b q
          exact ⟨k1, fun f => f.elim k2 fun y => z (st.s.inj i j a (y ▸ q) e1), k3⟩
    have x2 : Ext Wi Hi W' H := ⟨st.x.keep, st.x.there, st.x.fpn, st.x.ids, fun b f => .inl (st.x.fF b f), fun b f => by
      rcases f with f | f
      · exact st.x.fn b f
      · subst f; exact .inr (st.f j b e1)⟩
    refine ⟨W', h, _, _, ⟨w2, s2, x2, fun i b q => ?_⟩, PostS.mono xS p⟩
    split at q
    · cases q
    · exact st.f i b q
  · exact p.elim
/-- an exception is raised -/
theorem imp_raise {c : Nat} (t : tS A Wi Hi Wx (.raise c) Dn σ H) : Wx (A.xc c) none σ H := by
  obtain ⟨W, h, oA, ss, st, p⟩ := t
  rw [evS] at p
  exact p W H σ st.x st.w
/-! ### x += e -/
theorem imp_augA {j : Nat} {e : E} (t : tS A Wi Hi Wx (.aug j .add e) Dn σ H) : tAug j (tE A Wx e) (ipI fun x y => x + y) Dn σ H := by
  obtain ⟨W, h, oA, ss, st, p⟩ := t
  rw [evS] at p
  split at p
  · rename_i x e1
    obtain ⟨v, k1, k2⟩ := st.s.vs j _ e1
    cases k2
    refine ⟨_, k1, S_bind st p fun W1 H1 r h1 v x1 w1 st1 q p1 => ?_⟩
    cases r with
    | nl _ => exact p1.elim
    | bw _ => exact p1.elim
    | v d =>
      cases d with
      | int y =>
        cases q
        refine ⟨x, y, rfl, rfl, ?_⟩
        have hj : j < ss.length := (List.getElem?_eq_some_iff.mp e1).1
        simp only [setSl] at p1
        rw [if_pos hj] at p1
        exact p1 W1 H1 oA _ (st1.setV hj (.int _)) (x1.exs st.w)
      | _ => exact p1.elim
  · exact p.elim
theorem imp_augS {j : Nat} {e : E} (t : tS A Wi Hi Wx (.aug j .sub e) Dn σ H) : tAug j (tE A Wx e) (ipI fun x y => x - y) Dn σ H := by
  obtain ⟨W, h, oA, ss, st, p⟩ := t
  rw [evS] at p
  split at p
  · rename_i x e1
    obtain ⟨v, k1, k2⟩ := st.s.vs j _ e1
    cases k2
    refine ⟨_, k1, S_bind st p fun W1 H1 r h1 v x1 w1 st1 q p1 => ?_⟩
    cases r with
    | nl _ => exact p1.elim
    | bw _ => exact p1.elim
    | v d =>
      cases d with
      | int y =>
        cases q
        refine ⟨x, y, rfl, rfl, ?_⟩
        have hj : j < ss.length := (List.getElem?_eq_some_iff.mp e1).1
        simp only [setSl] at p1
        rw [if_pos hj] at p1
        exact p1 W1 H1 oA _ (st1.setV hj (.int _)) (x1.exs st.w)
      | _ => exact p1.elim
  · exact p.elim
end
end GV
set_option Elab.async false
set_option linter.all false
set_option maxRecDepth 100000
set_option maxHeartbeats 4000000
/-! GV16b: two names at once, items set, pop, while. -/
namespace GV
open PySem L2
section
variable {A : Stat} {Wi : Wd} {Hi : Hp} {W W1 : Wd} {h h1 : MH} {oA : Nat → Option Addr} {ss ss' : SS} {σ : L2.St} {H H1 : Hp} {Wx : WX} {Dn : Ends}
def Wd.put (o : Bool) (W1 : Wd) (H H1 : Hp) : Wd := match o with
  | true => W1
  | false => W1.fz H H1
theorem put_ext {o : Bool} (x : Ext W H W1 H1) : Ext W H (W1.put o H H1) H1 := by
  cases o
  · exact fz_ext x
  · exact x
theorem put_ok {o : Bool} (w1 : WOkA A W1 h1 H1) : WOkA A (W1.put o H H1) h1 H1 := by
  cases o
  · exact fz_ok w1
  · exact w1
theorem put_exs {o : Bool} (w : WOkA A W h H) (x : Ext W H W1 H1) : ExS W H (W1.put o H H1) H1 := by
  cases o
  · exact fz_exs2 w x
  · exact x.exs w
theorem SSt.put {o : Bool} (st : SSt A Wi Hi W h oA ss σ H) (x : Ext W H W1 H1) (w1 : WOkA A W1 h1 H1) : SSt A Wi Hi (W1.put o H H1) h1 oA ss σ H1 := by
  cases o
  · exact st.fz x w1
  · exact st.ext x w1
theorem put_set {o : Bool} {j : Nat} {v : V} {r : R} (st : SSt A Wi Hi W h oA ss σ H) (x : Ext W H W1 H1) (w1 : WOkA A W1 h1 H1) (q : RRel A.K W1 H H1 v r) (e : putS o j r ss = some ss') : ∃ oA', SSt A Wi Hi (W1.put o H H1) h1 oA' ss' (σ.set j (some v)) H1 := by
  cases o with
  | true =>
    cases r with
    | v d => cases e
    | bw d => cases e
    | nl xs =>
      simp only [putS, setSl] at e
      split at e
      · rename_i hj
        cases e
        obtain ⟨b, vs, rfl, n, e3, e4, e5, e6⟩ := q
        have st1 := st.ext x w1
        refine ⟨_, w1, SRel.setOwn st.s n st1.s hj e3 e4 e5 e6, st1.x, fun i a z => ?_⟩
        split at z
        · cases z; exact st.x.new n
        · exact st.f i a z
      · cases e
  | false =>
    simp only [putS] at e
    cases e1 : r.toD with
    | none => rw [e1] at e; cases e
    | some d =>
      rw [e1] at e
      simp only [Option.bind_some, setSl] at e
      split at e
      · rename_i hj
        cases e
        exact ⟨oA, (st.fz x w1).setV hj (q.fz e1)⟩
      · cases e
theorem imp_parO {o o' : Bool} {i j : Nat} {a b : E} (z : tS A Wi Hi Wx (.par2 o o' i j a b) Dn σ H) : tPar i j (tCons (tE A Wx a) (tCons (tE A Wx b) tNil)) Dn σ H := by
  obtain ⟨W, h, oA, ss, st, p⟩ := z
  rw [evS] at p
  refine S_bind st p fun W1 H1 r h1 v x1 w1 st1 q p1 => ?_
  have stB : SSt A Wi Hi (W1.put o H H1) h1 oA ss σ H1 := st.put x1 w1
  refine S_bind stB (PostS.mono (put_exs st.w x1) p1) fun W2 H2 r' h2 v' x2 w2 st2 q2 p2 => ?_
  cases e1 : putS o i r ss with
  | none => rw [e1] at p2; exact p2.elim
  | some ss1 =>
    rw [e1] at p2
    simp only [Option.bind_some] at p2
    cases e2 : putS o' j r' ss1 with
    | none => rw [e2] at p2; exact p2.elim
    | some ss2 =>
      rw [e2] at p2
      obtain ⟨oA1, stN⟩ := put_set st x1 w1 q e1
      obtain ⟨oA2, stM⟩ := put_set stN x2 w2 q2 e2
      exact ⟨v, v', rfl, p2 _ H2 oA2 _ stM (put_exs stB.w x2)⟩
theorem imp_setI {j : Nat} {i e : E} (z : tS A Wi Hi Wx (.setI j i e) Dn σ H) : tAsg (tE A Wx e) (gSub (tVar j) (tE A Wx i) rSetL) Dn σ H := by
  obtain ⟨W, h, oA, ss, st, p⟩ := z
  rw [evS] at p
  split at p
  · rename_i xs e0
    refine S_bind st p fun W1 H1 r h1 v x1 w1 st1 q p1 => ?_
    cases e1 : r.toD with
    | none => rw [e1] at p1; exact p1.elim
    | some d =>
      rw [e1] at p1
      have st2 := st.fz x1 w1
      obtain ⟨a, vs, k1, k2, k3, k4⟩ := st2.s.own j xs e0
      refine ⟨.ref a, k2, ?_⟩
      refine S_bind st2 (PostS.mono (fz_exs2 st.w x1) p1) fun W2 H2 r2 h2 v2 x2 w2 st3 q2 p2 => ?_
      split at p2
      · rename_i kk
        cases q2
        split at p2
        · rename_i n hn
          obtain ⟨a', vs', k1', k2', k3', k4'⟩ := st3.s.own j xs e0
          have ea : a' = a := by rw [k2] at k2'; cases k2'; rfl
          subst ea
          have hj : j < ss.length := (List.getElem?_eq_some_iff.mp e0).1
          obtain ⟨st4, y4⟩ := st3.chgOwn hj k1' k2' k3' (k4'.set n ((q.fz e1).ext st2.w x2))
          refine ⟨a', vs', kk, n, rfl, rfl, k3', by rw [k4'.length]; exact hn, ?_⟩
          unfold setSl at p2
          rw [if_pos hj] at p2
          exact p2 _ _ _ _ st4 ((x2.exs st2.w).trans y4)
        · exact p2.elim
      · exact p2.elim
  · exact p.elim
theorem RepL.erase {K : PySem.W.Frag} {W : Wd} {H : Hp} : ∀ {vs : List V} {ds : List D} (n : Nat), RepL K W H vs ds → RepL K W H (vs.eraseIdx n) (ds.eraseIdx n)
  | _, _, _, .nil => .nil
  | _, _, 0, .cons _ b => b
  | _, _, n + 1, .cons a b => .cons a (RepL.erase n b)
theorem popL_one {xs : List D} {r : R} {d : D} {zs : List D} (e : popL xs [r] = some (d, zs)) : ∃ i : Int, r = .v (.int i) ∧ 0 ≤ i ∧ i < xs.length ∧ i < 1000000 ∧ xs[i.toNat]? = some d ∧ zs = xs.eraseIdx i.toNat := by
  cases r with
  | nl _ => cases e
  | bw _ => cases e
  | v x =>
    cases x with
    | int i =>
      simp only [popL] at e
      split at e
      · rename_i hc
        simp only [Option.map_eq_some_iff, Prod.mk.injEq] at e
        obtain ⟨a, e1, e2, e3⟩ := e
        subst e2
        exact ⟨i, rfl, hc.1, hc.2.1, hc.2.2, e1, e3.symm⟩
      · cases e
    | _ => cases e
theorem imp_appPop {j l : Nat} {e : E} (z : tS A Wi Hi Wx (.appPop j l e) Dn σ H) : tDrop (tBM A.K "list" rAppend (tVar j) (tCons (tBM A.K "list" rPopAt (tVar l) (tCons (tE A Wx e) tNil)) tNil)) Dn σ H := by
  obtain ⟨W, h, oA, ss, st, p⟩ := z
  rw [evS] at p
  split at p
  · rename_i ys xs ej el
    obtain ⟨a, vs, a1, a2, a3, a4⟩ := st.s.own j ys ej
    obtain ⟨b, us, b1, b2, b3, b4⟩ := st.s.own l xs el
    refine ⟨.ref a, a2, tyV_list a3, ⟨.ref b, b2, tyV_list b3, ?_⟩⟩
    refine S_bind st p fun W1 H1 r h1 v x1 w1 st1 q p1 => ?_
    cases hp : popL xs [r] with
    | none => rw [hp] at p1; exact p1.elim
    | some dz =>
      obtain ⟨d, zs⟩ := dz
      rw [hp] at p1
      simp only at p1
      obtain ⟨i, rfl, i1, i2, i3, i4, rfl⟩ := popL_one hp
      cases q
      obtain ⟨b', us', b1', b2', b3', b4'⟩ := st1.s.own l xs el
      have eb : b' = b := by rw [b2] at b2'; cases b2'; rfl
      subst eb
      obtain ⟨u, hu, ru⟩ := b4'.get' i4
      split at p1
      · rename_i hc
        have hl : l < ss.length := (List.getElem?_eq_some_iff.mp el).1
        have hj : j < ss.length := (List.getElem?_eq_some_iff.mp ej).1
        have hj' : j < (ss.set l (some (.own (xs.eraseIdx i.toNat)))).length := by simpa using hj
        obtain ⟨st2, y2⟩ := st1.chgOwn hl b1' b2' b3' (b4'.erase i.toNat)
        have ej2 : (ss.set l (some (.own (xs.eraseIdx i.toNat))))[j]? = some (some (.own ys)) := by rw [List.getElem?_set_ne (Ne.symm hc.1)]; exact ej
        obtain ⟨a', vs', a1', a2', a3', a4'⟩ := st2.s.own j ys ej2
        have ea : a' = a := by rw [a2] at a2'; cases a2'; rfl
        subst ea
        have lu : us'.length = xs.length := b4'.length
        refine ⟨b', us', i, i.toNat, u, rfl, rfl, b3', by omega, by omega, ?_, hu, ?_⟩
        · unfold seqIndex?
          rw [lu]
          simp only [show ¬ (i < 0) by omega, if_false]
          split
          · rename_i hh; first | rfl | (exfalso; omega) | simp at hh; omega
          · rename_i hh; first | rfl | (exfalso; omega) | simp at hh; omega
        · have ru2 : Rep A.K W1 (upd H1 b' (.lst (us'.eraseIdx i.toNat))) u d := Rep.chg b3' (st1.s.free l b' b1').2.1 ru
          obtain ⟨st3, y3⟩ := st2.chgOwn hj' a1' a2' a3' (a4'.append (.cons ru2 .nil))
          have hs : vs'.length < sizeLine := by
            have := of_decide_eq_true hc.2
            rw [a4'.length]
            exact Nat.lt_of_lt_of_le (show ys.length < 1000001 by omega) (by decide)
          refine ⟨a', vs', u, rfl, rfl, a3', hs, ?_⟩
          unfold setSl at p1
          rw [if_pos hl] at p1
          simp only [Option.bind_some] at p1
          rw [if_pos hj'] at p1
          exact p1 _ _ _ _ st3 (((x1.exs st.w).trans y2).trans y3)
      · exact p1.elim
  · exact p.elim
theorem imp_while {c : E} {b : List S} (z : tS A Wi Hi Wx (.while_ c b) Dn σ H) : tWhile (tT A Wx c) (tBk A Wi Hi Wx b) Dn σ H := by
  obtain ⟨W, h, oA, ss, st, p⟩ := z
  rw [evS] at p
  refine ⟨fun m σ' H' => ∃ W' h' oA' ss', SSt A Wi Hi W' h' oA' ss' σ' H' ∧ PostS A Wi Hi W' H' Wx Dn (evWhile (fun ss h => (evE A.G c ss h).bind fun r h => O.of h (blE r)) (evB A.G b) m ss' h'), ⟨A.G.wf, W, h, oA, ss, st, p⟩, fun m σ' H' ⟨W', h', oA', ss', st', pp⟩ => ?_⟩
  cases m with
  | zero => exact (show False from pp).elim
  | succ m =>
    rw [evWhile] at pp
    refine S_bindT st' pp fun W1 H1 t h1 x1 st1 p1 => ?_
    cases t with
    | false =>
      rw [if_neg Bool.false_ne_true]
      exact p1 W1 H1 oA' σ' st1 (ExS.refl _ _)
    | true =>
      rw [if_pos rfl]
      refine ⟨fun σ2 H2 => ∃ W' h' oA' ss', SSt A Wi Hi W' h' oA' ss' σ2 H2 ∧ PostS A Wi Hi W' H2 Wx Dn (evWhile (fun ss h => (evE A.G c ss h).bind fun r h => O.of h (blE r)) (evB A.G b) m ss' h'), fun σ2 H2 z => ⟨m, Nat.lt_succ_self _, z⟩, W1, h1, oA', ss', st1, ?_⟩
      simp only at p1
      cases eb : evB A.G b ss' h1 with
      | ok f h2 =>
        rw [eb] at p1
        cases f with
        | nx ss2 => exact fun W' H' oA2 σ2 st2 y => ⟨W', h2, oA2, ss2, st2, PostS.mono y p1⟩
        | rt r => exact p1
      | ex c h2 => rw [eb] at p1; exact p1
      | no => rw [eb] at p1; exact p1
/-! ### x[i] += e -/
theorem imp_augI {j : Nat} {o : BOp} {i e : E} {g : Int → Int → Int} (ho : (o = .add ∧ g = fun x y => x + y) ∨ (o = .sub ∧ g = fun x y => x - y)) (z : tS A Wi Hi Wx (.augI j o i e) Dn σ H) :
    tAugS (tVar j) (tE A Wx i) (tE A Wx e) (rIxL A.K) (ipI g) rSetL Dn σ H := by
  obtain ⟨W, h, oA, ss, st, p⟩ := z
  rw [evS] at p
  split at p
  · rename_i xs e0
    obtain ⟨a, vs, k1, k2, k3, k4⟩ := st.s.own j xs e0
    refine ⟨.ref a, k2, ?_⟩
    refine S_bind st p fun W1 H1 r h1 v x1 w1 st1 q p1 => ?_
    split at p1
    · rename_i kk
      cases q
      split at p1
      · rename_i n x hn hx
        obtain ⟨a1, vs1, m1, m2, m3, m4⟩ := st1.s.own j xs e0
        have ea : a1 = a := by rw [k2] at m2; cases m2; rfl
        subst ea
        obtain ⟨u, hu, ru⟩ := atI_rep m4 hx
        cases ru
        refine ⟨a1, vs1, kk, .int x, rfl, rfl, .inl (.inl m3), hu, ?_⟩
        refine S_bind st1 (PostS.mono (x1.exs st.w) p1) fun W2 H2 r2 h2 v2 x2 w2 st2 q2 p2 => ?_
        split at p2
        · rename_i y
          cases q2
          refine ⟨x, y, rfl, rfl, ?_⟩
          obtain ⟨a2, vs2, l1, l2, l3, l4⟩ := st2.s.own j xs e0
          have ea : a2 = a1 := by rw [m2] at l2; cases l2; rfl
          subst ea
          have hj : j < ss.length := (List.getElem?_eq_some_iff.mp e0).1
          obtain ⟨st4, y4⟩ := st2.chgOwn hj l1 l2 l3 (l4.set n (.int (g x y)))
          refine ⟨a2, vs2, kk, n, rfl, rfl, l3, by rw [l4.length]; exact hn, ?_⟩
          rcases ho with ⟨rfl, rfl⟩ | ⟨rfl, rfl⟩
          · simp only [setSl] at p2
            rw [if_pos hj] at p2
            exact p2 _ _ _ _ st4 ((x2.exs st1.w).trans y4)
          · simp only [setSl] at p2
            rw [if_pos hj] at p2
            exact p2 _ _ _ _ st4 ((x2.exs st1.w).trans y4)
        · exact p2.elim
      · exact p1.elim
    · exact p1.elim
  · exact p.elim
/-! ### try: return e, except .. as n: return which(n) -/
theorem WOk.grow {K : PySem.W.Frag} {cl : Nat → Option Addr} (w : WOk K cl W h H) (g : Grow H H1) : Ext W H W H1 ∧ WOk K cl W h H1 := by
  have x : Ext W H W H1 := ⟨fun a o e _ => g a o e, fun a e => by
    cases q : H a with
    | none => exact absurd q e
    | some o => rw [g a o q]; exact Option.some_ne_none _, fun a z => .inl z, fun _ _ e => e, fun _ e => e, fun _ e => .inl e⟩
  refine ⟨x, w.inj, w.dis, fun a z => ?_, fun a z => x.there a (w.frz a z), fun i m e => ?_, w.bnd⟩
  · rcases w.cov a z with ⟨xs, q⟩ | ⟨C, dx, fs, q⟩
    · exact .inl ⟨xs, g _ _ q⟩
    · exact .inr ⟨C, dx, fs, g _ _ q⟩
  · have q := w.obj i m e
    cases m with
    | lst xs =>
      obtain ⟨a, vs, e1, e2, e3⟩ := q
      exact ⟨a, vs, e1, g _ _ e2, RepL.ext w x e3⟩
    | ins c fs =>
      obtain ⟨a, C, dx, gs, e1, e2, e3, e4⟩ := q
      refine ⟨a, C, dx, gs, e1, e2, g _ _ e3, Paired.ext w x (fun f b e5 => ?_) e4⟩
      rcases w.cov b ⟨_, e5⟩ with ⟨ys, q⟩ | ⟨C', dx', fs', q⟩
      · rw [g _ _ q, q]
      · rw [g _ _ q, q]
def tsW (A : Stat) (i : Nat) (a : Addr) (cls : Value) (d : Option Addr) : TS := fun Dn σ H => ∃ c dd, A.G.wh c = some dd ∧ cls = A.xc c ∧ d = none ∧ σ[i]? = some (some (.ref a)) ∧ rWh c H Dn.rt
theorem imp_tryW {e : E} {i : Nat} {B : Value} (hB : ∀ c d, A.G.wh c = some d → d = .tup [.str "raised", .int (c : Nat)] ∧ PySem.W.exmOne A.K (A.xc c) B = some true) (z : tS A Wi Hi Wx (.tryW e i) Dn σ H) :
    tE A (wAs A.K B i (tsW A i) Wx Dn) e σ H Dn.rt := by
  obtain ⟨W, h, oA, ss, st, p⟩ := z
  rw [evS] at p
  split at p
  · rename_i hi
    refine ⟨W, h, oA, ss, st.w, st.s, ?_⟩
    cases q : evE A.G e ss h with
    | no => rw [q] at p; exact p
    | ok r h1 =>
      rw [q] at p
      intro W1 H1 x w1 v rr
      cases r with
      | v d => exact p W1 H1 v (st.x.trans x) w1 rr
      | nl xs => exact p W1 H1 v (st.x.trans x) w1 (rr.back st.x)
      | bw xs => exact p.elim
    | ex c h1 =>
      rw [q] at p
      simp only at p
      cases e1 : A.G.wh c with
      | none => rw [e1] at p; exact p.elim
      | some d =>
        rw [e1] at p
        obtain ⟨rfl, e2⟩ := hB c d e1
        intro W1 H1 x w1
        refine ⟨true, e2, fun _ a ha => ⟨c, _, e1, rfl, rfl, by rw [List.getElem?_set_self (by rw [← st.s.len]; exact hi)], fun H2 q g nq eq => ?_⟩, fun z => by cases z⟩
        obtain ⟨x2, w2⟩ := w1.grow g
        exact p W1 H2 (.ref q) ((st.x.trans x).trans x2) w2 (.tup (SqT.of eq) (.cons (.str _) (.cons (.int _) .nil)))
  · exact p.elim
end
end GV
set_option Elab.async false
set_option linter.all false
set_option maxRecDepth 100000
set_option maxHeartbeats 4000000
/-! GV17: the program's statements against the small language's; functions. -/
namespace GV
open PySem L2
def notComp : Expr → Bool
  | .ListComp _ _ _ _ => false
  | .SetComp _ _ _ _ => false
  | .DictComp _ _ _ _ _ => false
  | _ => true
def isNm : Expr → Bool
  | .Name _ _ => true
  | _ => false
/-- the store happens within the comprehension's frame -/
def swC (sc : Scope) (y : Str) (py pos : Pos) (scope : Scope) : Bool :=
  sc.names.lookup y == some .local && (py.line == pos.line) && !(scope.names.any fun (n, k) => n == y && (k == .local || k == .cell))
/-- not all targets are plain local names of one line -/
def notPar (sc : Scope) (ts : List Expr) : Bool := (ts.filterMap fun
    | .Name id pos => if sc.names.lookup id == some .local && pos.line == (ts.head?.map (·.pos.line)).getD 0 then some id else none
    | _ => none).length != ts.length
/-- an ordinary store -/
def plainA (sc : Scope) : Expr → Expr → Bool
  | .Name y py, v => match v with
    | .ListComp _ _ scope pos => !swC sc y py pos scope
    | v => notComp v
  | .Tuple ts _ _, v => notComp v && (match v with
    | .Tuple _ _ _ => !(ts.length == 2 || ts.length == 3) || notPar sc ts
    | _ => true)
  | _, _ => false
def isLc : Expr → Bool
  | .ListComp _ _ _ _ => true
  | _ => false
def parB (sc : Scope) (x y : Str) (px py : Pos) (a b : Expr) : Bool :=
  sc.names.lookup x == some .local && sc.names.lookup y == some .local && !(x == y) && (px.line == py.line) && notStar a && notStar b && !([a, b].all (foldedForSure 8)) && !([a, b].all (constantsAlone 8))
mutual
def chkS (T : Tab) (N : List Str) (fnB : Str → Bool) (sc : Scope) : S → Stmt → Bool
  | .wall, _ => true
  | .asg t e, st => match st with
    | .Assign [tg] v _ => chkG N fnB sc t tg && chkE T N e sc v && (plainA sc tg v || (isNm tg && isLc v))
    | _ => false
  | .asgO j e, st => match st with
    | .Assign [tg] v _ => isNm tg && chkG N fnB sc (.n j) tg && chkE T N e sc v && (plainA sc tg v || isLc v)
    | _ => false
  | .asgR j e, st => match st with
    | .Assign [tg] v _ => isNm tg && chkG N fnB sc (.n j) tg && chkE T N e sc v && plainA sc tg v
    | _ => false
  | .par js es, st => match js, es, st with
    | [i, j], [a, b], .Assign [.Tuple [.Name x px, .Name y py] _ _] (.Tuple [p, q] _ _) _ => N[i]? == some x && N[j]? == some y && parB sc x y px py p q && chkE T N a sc p && chkE T N b sc q
    | _, _, _ => false
  | .par2 _ _ i j a b, st => match st with
    | .Assign [.Tuple [.Name x px, .Name y py] _ _] (.Tuple [p, q] _ _) _ => N[i]? == some x && N[j]? == some y && parB sc x y px py p q && chkE T N a sc p && chkE T N b sc q
    | _ => false
  | .setI j i e, st => match st with
    | .Assign [.Subscript (.Name x _) ix _] v _ => N[j]? == some x && visB sc x && nmOk x && notSlice ix && notComp v && chkE T N i sc ix && chkE T N e sc v
    | _ => false
  | .appPop j l e, st => match st with
    | .Expr (.Call (.Attribute (.Name x _) m apos) [.Call (.Attribute (.Name y _) m2 apos2) [z] [] cpos2] [] cpos) _ => m == "append" && N[j]? == some x && visB sc x && nmOk x && (apos.endLine == cpos.line) &&
        m2 == "pop" && N[l]? == some y && visB sc y && nmOk y && (apos2.endLine == cpos2.line) && notStar z && chkE T N e sc z
    | _ => false
  | .while_ c b, st => match st with
    | .While t xs [] _ => notIf t && chkE T N c sc t && chkB T N fnB sc b xs
    | _ => false
  | .augI j o i e, st => match st with
    | .AugAssign (.Subscript (.Name x _) ix _) op v _ => N[j]? == some x && visB sc x && nmOk x && notSlice ix && bopB o op && (o == .add || o == .sub) && chkE T N i sc ix && chkE T N e sc v
    | _ => false
  | .raise c, st => match st with
    | .Raise (some (.Call (.Name x _) [.Constant (.str _) _ _] [] _)) none _ => T.cn.lookup c == some x && glB sc x && nmOk x
    | _ => false
  | .tryW e i, st => match st with
    | .Try [.Return (some v) _] [.ExceptHandler (some (.Name b _)) (some n) [.Return (some (.Call (.Name x _) [.Name m _] [] _)) _] _] [] [] _ => b == T.be && glB sc b && nmOk b && N[i]? == some n && decide (sc.names.lookup n = some .local) && nmOk n && m == n && T.wh == some x && glB sc x && nmOk x && chkE T N e sc v
    | _ => false
  | .aug j o e, st => match st with
    | .AugAssign (.Name x _) op v _ => N[j]? == some x && locB sc x && (fnB x || sc.names.lookup x == some .local) && bopB o op && (o == .add || o == .sub) && chkE T N e sc v
    | _ => false
  | .app j e, st => match st with
    | .Expr (.Call (.Attribute (.Name x _) m apos) [y] [] cpos) _ => m == "append" && N[j]? == some x && visB sc x && nmOk x && (apos.endLine == cpos.line) && notStar y && chkE T N e sc y
    | _ => false
  | .ext j e, st => match st with
    | .Expr (.Call (.Attribute (.Name x _) m apos) [y] [] cpos) _ => m == "extend" && N[j]? == some x && visB sc x && nmOk x && (apos.endLine == cpos.line) && notStar y && chkE T N e sc y
    | _ => false
  | .expr e, st => match st with
    | .Expr v _ => notComp v && chkE T N e sc v
    | _ => false
  | .ifs c a b, st => match st with
    | .If t xs ys _ => notIf t && chkE T N c sc t && chkB T N fnB sc a xs && chkB T N fnB sc b ys
    | _ => false
  | .for_ k src t b, st => match st with
    | .For tg iter body [] _ => chkI T N k src sc tg iter && chkG N fnB sc t tg && chkB T N fnB sc b body
    | _ => false
  | .ret e, st => match st with
    | .Return (some v) _ => chkE T N e sc v
    | _ => false
  | .retN, st => match st with
    | .Return none _ => true
    | _ => false
  | .retO j, st => match st with
    | .Return (some (.Name x _)) _ => N[j]? == some x && visB sc x && nmOk x
    | _ => false
  | .pass, st => match st with
    | .Pass _ => true
    | _ => false
  | _, _ => false
def chkB (T : Tab) (N : List Str) (fnB : Str → Bool) (sc : Scope) : List S → List Stmt → Bool
  | [], sts => match sts with
    | [] => true
    | _ => false
  | c :: r, sts => match c with
    | .frz _ => chkB T N fnB sc r sts
    | c => match sts with
      | st :: sts => chkS T N fnB sc c st && chkB T N fnB sc r sts
      | [] => false
end
structure CtxS (A : Stat) (k : Nat) (Wx : WX) (fnB : Str → Bool) (sc : Scope) (N : List Str) (X : Cx) : Prop where
  g : CtxG A k Wx fnB sc N X
  pown : PassesOwn (model X.prog X.w) X.A X.env X.xe
  kind : sc.kind = .function
  stk : X.stack = X.env :: X.outer
  frm : X.env.frame = some X.env.locals
section
variable {A : Stat} {k : Nat} {Wx : WX} {fnB : Str → Bool} {sc : Scope} {N : List Str} {X : Cx} {Wi : Wd} {Hi : Hp}
theorem sw_false {v : Expr} {t : Option Expr} {l : Nat} {env : Env} (h : notComp v = true) : swapsWith v t l env = pure false := by
  cases v <;> first | rfl | cases h
theorem sw_lc {elt : Expr} {gs : List Comprehension} {scope : Scope} {pos py : Pos} {y : Str} {l : Nat} (c : CtxS A k Wx fnB sc N X) (h : swC sc y py pos scope = false) : swapsWith (.ListComp elt gs scope pos) (some (.Name y py)) l X.env = pure false := by
  have hb : X.env.blockKind = .function := by unfold Env.blockKind; rw [c.g.sc, c.kind]; rfl
  have e : swapsWith (.ListComp elt gs scope pos) (some (.Name y py)) l X.env = pure (X.env.blockKind == .function && X.env.kindOf y == some .local && py.line == pos.line && !(scope.names.any fun (n, k) => n == y && (k == .local || k == .cell))) := rfl
  rw [e, hb]
  unfold swC at h
  have ek : X.env.kindOf y = sc.names.lookup y := by unfold Env.kindOf; rw [c.g.sc]
  rw [ek]
  simp only [BEq.rfl, Bool.true_and]
  rw [h]
theorem plain_ok {tg v : Expr} {l : Nat} (c : CtxS A k Wx fnB sc N X) (h : plainA sc tg v = true) : swapsWithSole [tg] v l X.env = pure false ∧ swappedStores [tg] v X.env = pure none ∧ (assignEach [tg] X.env).map (·.2) = [assign tg X.env] := by
  unfold plainA at h
  split at h
  · rename_i y py
    refine ⟨?_, ?_, rfl⟩
    · split at h
      · unfold swapsWithSole
        exact sw_lc c (by simpa using h)
      · unfold swapsWithSole
        exact sw_false h
    · unfold swappedStores
      rfl
  · rename_i ts _ _
    simp only [Bool.and_eq_true] at h
    refine ⟨(by unfold swapsWithSole; exact sw_false h.1), ?_, rfl⟩
    have h2 := h.2
    unfold swappedStores
    cases v <;> first | rfl | skip
    simp only at h2 ⊢
    cases h3 : !(ts.length == 2 || ts.length == 3) with
    | true => rw [if_pos (by simp only [Bool.true_or])]
    | false =>
      rw [h3, Bool.false_or] at h2
      have hk : ∀ id, X.env.kindOf id = sc.names.lookup id := fun id => by unfold Env.kindOf; rw [c.g.sc]
      unfold notPar at h2
      simp only [hk]
      split
      · rfl
      · split
        · rfl
        · split
          · rfl
          · rename_i hne
            exact absurd (Bool.or_eq_true_iff.mpr (.inl h2)) hne
  · cases h
theorem snA {t : Tg} {e : E} {tg v : Expr} {pos : Pos} (S : StatOk A k) (c : CtxS A k Wx fnB sc N X) (h1 : chkG N fnB sc t tg = true) (h2 : chkE A.T N e sc v = true) (h3 : plainA sc tg v = true) : PS X (.Assign [tg] v pos) (tAsg (tE A Wx e) (gTg A.K t)) := by
  obtain ⟨k1, k2, k3⟩ := plain_ok (l := pos.line) c h3
  exact ps_asg (snE S e v c.g h2).pe (snG c.g t tg h1) k1 k2 k3
/-- name = [..], stored within the comprehension's frame -/
theorem snLc {j : Nat} {e : E} {y : Str} {py pos : Pos} {v : Expr} (S : StatOk A k) (c : CtxS A k Wx fnB sc N X) (h1 : chkG N fnB sc (.n j) (.Name y py) = true) (h2 : chkE A.T N e sc v = true) (h3 : isLc v = true) :
    PS X (.Assign [.Name y py] v pos) (tAsg (tE A Wx e) (gName j)) := by
  by_cases hp : plainA sc (.Name y py) v = true
  · have q := snA (pos := pos) S c h1 h2 hp
    rw [gTg] at q
    exact q
  · cases v with
    | ListComp elt gs scope lpos =>
      have hsw : swC sc y py lpos scope = true := by
        unfold plainA at hp
        simpa using hp
      unfold swC at hsw
      simp only [Bool.and_eq_true, beq_iff_eq, Bool.not_eq_true'] at hsw
      cases e with
      | comp kk src t own ifs e' =>
        unfold chkE at h2
        split at h2
        · rename_i elt' tg iter ifs' scope' pos' heq2
          cases heq2
          simp only [Bool.and_eq_true, decide_eq_true_eq] at h2
          obtain ⟨⟨⟨⟨⟨⟨⟨g1, g2⟩, g3⟩, g4⟩, g5⟩, g6⟩, g7⟩, g8⟩ := h2
          obtain ⟨i1, i2, i3⟩ := snI S kk src tg iter c.g g3
          have bo := blkOk_by g1
          rw [← c.g.nN, ← c.g.sc] at bo
          have hN : X.N.Nodup := by rw [c.g.nN]; exact c.g.nd
          simp only [chkG, Bool.and_eq_true, beq_iff_eq] at h1
          have q := ps_setLc (i := j) (own := own.map fun i => (X.N.getD i "", i)) (py := py) (spos := pos) (pos := lpos) c.g.calm hN (by rw [c.g.nN]; exact h1.1.1) (by rw [c.g.sc]; exact hsw.1.1)
            (sw_true (by rw [c.g.sc]; exact c.kind) (by rw [c.g.sc]; exact hsw.1.1) (by simp [hsw.1.2]) hsw.2) i1 bo
            (fun s H C cl fp => snG (ctx_blk (scope := scope) (s := s) (H := H) (C := C) (cl := cl) (fp := fp) c.g) t tg g4)
            (fun s H C cl fp => snTs S ifs ifs' (ctx_blk (scope := scope) (s := s) (H := H) (C := C) (cl := cl) (fp := fp) c.g) g5 g6 g7)
            (fun s H C cl fp => (snE S e' _ (ctx_blk (scope := scope) (s := s) (H := H) (C := C) (cl := cl) (fp := fp) c.g) g8).pe) i3
          rw [own_map] at q
          refine PS.mono q fun Dn σ H z => ?_
          exact imp_comp i2 (fun j hj => by
            have := List.all_eq_true.mp g2 j hj
            simpa using this) z
        · cases h2
      | _ => simp [chkE] at h2
    | _ => cases h3
end
end GV
set_option Elab.async false
set_option linter.all false
set_option maxRecDepth 100000
set_option maxHeartbeats 4000000
/-! GV18: statements run as the evaluator says. -/
namespace GV
open PySem L2
section
variable {A : Stat} {k : Nat} {Wx : WX} {fnB : Str → Bool} {sc : Scope} {N : List Str} {X : Cx} {Wi : Wd} {Hi : Hp}
theorem swapped_par {x y : Str} {px py pt pt2 : Pos} {kt k2 : Nat} {a b : Expr} (c : CtxS A k Wx fnB sc N X) (h : parB sc x y px py a b = true) :
    swappedStores [.Tuple [.Name x px, .Name y py] kt pt] (.Tuple [a, b] k2 pt2) X.env = pure (some [x, y]) := by
  have hb : X.env.blockKind = .function := by unfold Env.blockKind; rw [c.g.sc, c.kind]; rfl
  unfold parB at h
  simp only [Bool.and_eq_true, beq_iff_eq, Bool.not_eq_true'] at h
  obtain ⟨⟨⟨⟨⟨⟨⟨h1, h2⟩, h3⟩, h4⟩, h5⟩, h6⟩, h7⟩, h8⟩ := h
  have ex : X.env.kindOf x = some .local := by unfold Env.kindOf; rw [c.g.sc]; exact h1
  have ey : X.env.kindOf y = some .local := by unfold Env.kindOf; rw [c.g.sc]; exact h2
  have hne : (x == y) = false := h3
  have s1 : ∀ e : Expr, notStar e = true → (match e with | .Starred .. => true | _ => false) = false := fun e he => by cases e <;> first | rfl | cases he
  have e2 : (y == x) = false := by
    rw [Bool.eq_false_iff]
    intro z
    have := eq_of_beq z
    subst this
    simp at hne
  unfold swappedStores
  simp [hb, ex, ey, h4, Expr.pos, hne, e2, List.eraseDups_cons]
  have k7 : ¬ (foldedForSure 8 a = true ∧ foldedForSure 8 b = true) := fun z => by simp [z.1, z.2] at h7
  have k8 : ¬ (constantsAlone 8 a = true ∧ constantsAlone 8 b = true) := fun z => by simp [z.1, z.2] at h8
  rw [if_neg (fun z => by
    rcases z with z | z
    · exact Bool.false_ne_true ((s1 a h5).symm.trans z)
    · exact Bool.false_ne_true ((s1 b h6).symm.trans z)), if_neg k7, if_neg k8]
theorem name_of {x : Str} {p : Pos} {j : Nat} (c : CtxS A k Wx fnB sc N X) (h1 : N[j]? = some x) (h2 : visB sc x = true) (h3 : nmOk x = true) : PE X (.Name x p) (tVar j) := by
  obtain ⟨n1, n2, n3⟩ := nm_of h3
  exact pe_var (i := j) (by rw [c.g.nN]; exact h1) (by rw [c.g.sc]; exact vis_of h2) n1 n2
theorem chkB_cons {T : Tab} {s : S} {r : List S} {sts : List Stmt} (hf : ∀ j, s ≠ .frz j) (h : chkB T N fnB sc (s :: r) sts = true) : ∃ st sts', sts = st :: sts' ∧ chkS T N fnB sc s st = true ∧ chkB T N fnB sc r sts' = true := by
  cases sts with
  | nil => cases s <;> first | exact absurd rfl (hf _) | (simp [chkB] at h)
  | cons st sts => cases s <;> first | exact absurd rfl (hf _) | (simp only [chkB, Bool.and_eq_true] at h; exact ⟨st, sts, rfl, h.1, h.2⟩)
theorem get_list {X : Cx} : PGet X (rIxL X.K) := by
  intro pins s σ H x y v u Q I rx ry h
  obtain ⟨p, xs, i, z, rfl, rfl, hq, he, q⟩ := h
  cases rx
  obtain ⟨t, rfl⟩ := ry
  obtain ⟨its, r, pl, hz⟩ := I.list hq
  obtain ⟨j, h1, h2, h3, h4, h5⟩ := atI_get he
  obtain ⟨w, ew, rw'⟩ := r.get h2
  have hl := r.length
  have hn := line63
  have fin : EP X pins σ Q w s := ⟨z, H, I, rw', q⟩
  by_cases h0 : 0 ≤ i
  · have hj : i.toNat = j := by
      rw [PySem.seqIndex_of h0 h5] at h1
      exact Option.some.inj h1
    exact PySem.wpAny_getItem_list pl.isList h0 (by omega) (by rw [hj]; simpa using ew) fin
  · have hj : (i + (its.toArray.size : Int)).toNat = j := by
      rw [PySem.seqIndex_neg (by omega) h4] at h1
      rw [List.size_toArray, ← hl]
      exact Option.some.inj h1
    exact PySem.wpAny_getItem_list_neg pl.isList (by omega) (by rw [List.size_toArray] <;> omega) (by omega) (by rw [hj]; simpa using ew) fin
mutual
theorem snS (SO : StatOk A k) (c : CtxS A k Wx fnB sc N X) : ∀ (s : S) (st : Stmt), chkS A.T N fnB sc s st = true → PS X st (tS A Wi Hi Wx s)
  | .wall, st, h => PS.mono ps_never fun Dn σ H z => by
    obtain ⟨W, h, oA, ss, st, p⟩ := z
    rw [evS] at p
    exact p
  | .asg t e, st, h => by
    unfold chkS at h
    split at h
    · rename_i tg v pos
      simp only [Bool.and_eq_true, Bool.or_eq_true] at h
      obtain ⟨⟨h1, h2⟩, h3⟩ := h
      rcases h3 with h3 | ⟨h3, h4⟩
      · exact PS.mono (snA SO c h1 h2 h3) fun Dn σ H z => imp_asg z
      · cases tg with
        | Name y py =>
          cases t with
          | n j =>
            refine PS.mono (snLc SO c h1 h2 h4) fun Dn σ H z => ?_
            have := imp_asg z
            rw [gTg] at this
            exact this
          | t ts => simp [chkG] at h1
        | _ => cases h3
    · cases h
  | .asgO j e, st, h => by
    unfold chkS at h
    split at h
    · rename_i tg v pos
      simp only [Bool.and_eq_true, Bool.or_eq_true] at h
      obtain ⟨⟨⟨h0, h1⟩, h2⟩, h3⟩ := h
      rcases h3 with h3 | h4
      · have q := snA (pos := pos) SO c h1 h2 h3
        rw [gTg] at q
        exact PS.mono q fun Dn σ H z => imp_asgO z
      · cases tg with
        | Name y py => exact PS.mono (snLc SO c h1 h2 h4) fun Dn σ H z => imp_asgO z
        | _ => cases h0
    · cases h
  | .asgR j e, st, h => by
    unfold chkS at h
    split at h
    · rename_i tg v pos
      simp only [Bool.and_eq_true] at h
      obtain ⟨⟨⟨h0, h1⟩, h2⟩, h3⟩ := h
      have q := snA (pos := pos) SO c h1 h2 h3
      rw [gTg] at q
      exact PS.mono q fun Dn σ H z => imp_asgR z
    · cases h
  | .par js es, st, h => by
    unfold chkS at h
    split at h
    · rename_i i j a b x px y py kt pt p q k2 pt2 pos
      simp only [Bool.and_eq_true, beq_iff_eq] at h
      obtain ⟨⟨⟨⟨h1, h2⟩, h3⟩, h4⟩, h5⟩ := h
      have hp := h3
      unfold parB at hp
      simp only [Bool.and_eq_true, beq_iff_eq, Bool.not_eq_true'] at hp
      obtain ⟨⟨⟨⟨⟨⟨⟨l1, l2⟩, l3⟩, l4⟩, l5⟩, l6⟩, l7⟩, l8⟩ := hp
      have hij : i ≠ j := fun e => by
        rw [e, h2] at h1
        cases h1
        simp at l3
      refine PS.mono (ps_par c.g.calm (by rw [c.g.nN]; exact c.g.nd) (by rw [c.g.nN]; exact h1) (by rw [c.g.nN]; exact h2) hij (by rw [c.g.sc]; exact l1) (by rw [c.g.sc]; exact l2)
        (snL SO [a, b] [p, q] c.g (by simp [chkL, l5, l6, h4, h5])) (swapped_par c h3) (by unfold swapsWithSole; rfl)) fun Dn σ H z => imp_par2 z
    · cases h
  | .par2 o o' i j a b, st, h => by
    unfold chkS at h
    split at h
    · rename_i x px y py kt pt p q k2 pt2 pos
      simp only [Bool.and_eq_true, beq_iff_eq] at h
      obtain ⟨⟨⟨⟨h1, h2⟩, h3⟩, h4⟩, h5⟩ := h
      have hp := h3
      unfold parB at hp
      simp only [Bool.and_eq_true, beq_iff_eq, Bool.not_eq_true'] at hp
      obtain ⟨⟨⟨⟨⟨⟨⟨l1, l2⟩, l3⟩, l4⟩, l5⟩, l6⟩, l7⟩, l8⟩ := hp
      have hij : i ≠ j := fun e => by
        rw [e, h2] at h1
        cases h1
        simp at l3
      refine PS.mono (ps_par c.g.calm (by rw [c.g.nN]; exact c.g.nd) (by rw [c.g.nN]; exact h1) (by rw [c.g.nN]; exact h2) hij (by rw [c.g.sc]; exact l1) (by rw [c.g.sc]; exact l2)
        (pa_cons (snE SO a _ c.g h4).pe (pa_cons (snE SO b _ c.g h5).pe pa_nil (star_of l6)) (star_of l5)) (swapped_par c h3) (by unfold swapsWithSole; rfl)) fun Dn σ H z => imp_parO z
    · cases h
  | .setI j i e, st, h => by
    unfold chkS at h
    split at h
    · rename_i x _ ix _ v _
      simp only [Bool.and_eq_true, beq_iff_eq] at h
      obtain ⟨⟨⟨⟨⟨⟨h1, h2⟩, h3⟩, h4⟩, h5⟩, h6⟩, h7⟩ := h
      refine PS.mono (ps_asg (snE SO e _ c.g h7).pe (pg_sub (name_of c h1 h2 h3) (snE SO i _ c.g h6).pe set_list (by
        intro v
        cases ix <;> first | rfl | cases h4)) (by unfold swapsWithSole; exact sw_false h5) (by unfold swappedStores; rfl) rfl) fun Dn σ H z => imp_setI z
    · cases h
  | .appPop j l e, st, h => by
    unfold chkS at h
    split at h
    · simp only [Bool.and_eq_true, beq_iff_eq] at h
      obtain ⟨⟨⟨⟨⟨⟨⟨⟨⟨⟨⟨h1, h2⟩, h3⟩, h4⟩, h5⟩, g1⟩, g2⟩, g3⟩, g4⟩, g5⟩, h6⟩, h7⟩ := h
      subst h1
      subst g1
      refine PS.mono (t := tDrop (tBM A.K "list" rAppend (tVar j) (tCons (tBM A.K "list" rPopAt (tVar l) (tCons (tE A Wx e) tNil)) tNil))) ?_ fun Dn σ H z => imp_appPop z
      rw [← c.g.K]
      exact ps_expr (pe_bm PySem.F.plainAttrs_list PySem.F.slot_list_append PySem.F.type_list_append mt_append (name_of c h2 h3 h4) (pa_cons (pe_bm PySem.F.plainAttrs_list PySem.F.slot_list_pop PySem.F.type_list_pop mt_popAt (name_of c g2 g3 g4) (pa_cons (snE SO e _ c.g h7).pe pa_nil (star_of h6)) rfl (by rw [star_of h6]; rfl) (by simpa using g5) (star_of h6) rfl) pa_nil (star_of rfl)) rfl (by rw [star_of rfl]; rfl) (by simpa using h5) (star_of rfl) rfl) rfl
    · cases h
  | .augI j o i e, st, h => by
    unfold chkS at h
    split at h
    · rename_i x _ ix _ op v _
      simp only [Bool.and_eq_true, beq_iff_eq, Bool.or_eq_true] at h
      obtain ⟨⟨⟨⟨⟨⟨⟨h1, h2⟩, h3⟩, h4⟩, h5⟩, h6⟩, h7⟩, h8⟩ := h
      have e1 := bop_of h5
      subst e1
      have hg : PGet X (rIxL A.K) := by rw [← c.g.K]; exact get_list
      have ha : ∀ ov iv new, augStore ix ov iv new = (do holding [new, ov, iv] (setItem ov iv new); release [new, ov, iv] []; pure .next) := by
        intro ov iv new
        cases ix <;> first | rfl | cases h4
      rcases h6 with rfl | rfl
      · exact PS.mono (ps_augS (name_of c h1 h2 h3) (snE SO i _ c.g h7).pe hg (snE SO e _ c.g h8).pe ip_add set_list ha) fun Dn σ H z => imp_augI (.inl ⟨rfl, rfl⟩) z
      · exact PS.mono (ps_augS (name_of c h1 h2 h3) (snE SO i _ c.g h7).pe hg (snE SO e _ c.g h8).pe ip_sub set_list ha) fun Dn σ H z => imp_augI (.inr ⟨rfl, rfl⟩) z
    · cases h
  | .raise cc, st, h => by
    unfold chkS at h
    split at h
    · simp only [Bool.and_eq_true, beq_iff_eq] at h
      obtain ⟨⟨h1, h2⟩, h3⟩ := h
      obtain ⟨n1, n2, n3⟩ := nm_of h3
      obtain ⟨C, m1, m2, m3, m4, m5, m6⟩ := SO.exc cc _ h1
      refine PS.mono (ps_raise c.g.calm c.g.tk (pmk_own (C := C) PySem.F.excBase_ValueError (by rw [c.g.K]; exact m3) (by rw [c.g.mg]; exact m1) (by rw [c.g.K]; exact m4) (raises_own (by rw [c.g.K]; exact m5) (by rw [c.g.K]; exact m6)) (gl_of c.g h2) n1)) fun Dn σ H z => ?_
      have := imp_raise z
      rw [m2] at this
      exact this
    · cases h
  | .tryW e i, st, h => by
    unfold chkS at h
    split at h
    · rename_i v _ b _ n x _ m _ _ _ _ _
      simp only [Bool.and_eq_true, beq_iff_eq, decide_eq_true_eq] at h
      obtain ⟨⟨⟨⟨⟨⟨⟨⟨⟨⟨rfl, h2⟩, h3⟩, h4⟩, h5⟩, h6⟩, rfl⟩, h8⟩, h9⟩, h10⟩, h11⟩ := h
      obtain ⟨n1, n2, n3⟩ := nm_of h3
      obtain ⟨l1, l2, l3⟩ := nm_of h6
      obtain ⟨o1, o2, o3⟩ := nm_of h10
      obtain ⟨B, ad, fd, b1, b2, b3, b4, b5⟩ := SO.tr _ h8
      have hi : X.N[i]? = some m := by rw [c.g.nN]; exact h4
      have hln : X.env.kindOf m = some .local := by unfold Env.kindOf; rw [c.g.sc]; exact h5
      have hv : Vis X.env.scope m := by rw [c.g.sc]; exact .inl h5
      refine PS.mono (ps_try_as (X := X) (c := .ref B) (tb := fun W => tSeq (tRet (tE A W e)) tNext) (ts := tsW A i) (Wout := Wx) c.stk c.frm (by rw [c.g.nN]; exact c.g.nd) hi hln ⟨gl_of c.g h2, n1, .inl (by rw [c.g.mg]; exact b1)⟩ c.g.tk
        (fun W pn xe tk' _ => pss_cons (ps_ret (snE SO e v (X := X.tr pn xe) ⟨c.g.prog, c.g.w, c.g.K, c.g.mg, c.g.base, c.g.sc, c.g.fn, c.g.nN, c.g.nd, c.g.calm, c.g.room, tk'⟩ h11).pe) pss_nil)
        (fun a oe cls d pn hz hf => by
          refine ⟨fun pins s σ H Dn I z => ?_⟩
          obtain ⟨cc, dd, z1, rfl, rfl, z4, z5⟩ := z
          obtain ⟨_, C, y1, y2, y3⟩ := b5 cc dd z1
          rw [y1] at hz
          have F' : FnW X.prog X.w X.K X.mg X.base (L2.CX X.prog X.w) k ad fd C (rWh cc) := by rw [c.g.prog, c.g.w, c.g.K, c.g.mg, c.g.base]; exact y3
          exact (pss_cons (ps_ret (pe_callW F' c.g.room hz hf (gl_of c.g h9) (by rw [c.g.mg]; exact b2) (by rw [c.g.K]; exact b3) (by rw [c.g.K]; exact b4) o1 hi hv l1 l2)) pss_nil).run pins s σ H Dn I ⟨z4, z5⟩)) fun Dn σ H z => ?_
      have := imp_tryW (B := .ref B) (fun cc dd z1 => ⟨(b5 cc dd z1).1, by obtain ⟨_, C, y1, y2, _⟩ := b5 cc dd z1; rw [y1]; exact y2⟩) z
      rw [← c.g.K] at this
      exact this
    · cases h
  | .while_ t b, st, h => by
    unfold chkS at h
    split at h
    · simp only [Bool.and_eq_true] at h
      obtain ⟨⟨h1, h2⟩, h3⟩ := h
      exact PS.mono (ps_while c.pown ((snE SO t _ c.g h2).pt h1) (snB SO c b _ h3)) fun Dn σ H z => imp_while z
    · cases h
  | .aug j o e, st, h => by
    unfold chkS at h
    split at h
    · rename_i x _ op v _
      simp only [Bool.and_eq_true, beq_iff_eq, Bool.or_eq_true] at h
      obtain ⟨⟨⟨⟨⟨h1, h2⟩, h3⟩, h4⟩, h5⟩, h6⟩ := h
      have e1 := bop_of h4
      subst e1
      have hf : X.fn x = true ∨ X.env.scope.names.lookup x = some .local := by rw [c.g.fn, c.g.sc]; exact h3
      rcases h5 with rfl | rfl
      · exact PS.mono (ps_aug (i := j) (by rw [c.g.nN]; exact c.g.nd) (by rw [c.g.nN]; exact h1) (by rw [c.g.sc]; exact loc_of h2) (snE SO e _ c.g h6).pe ip_add hf) fun Dn σ H z => imp_augA z
      · exact PS.mono (ps_aug (i := j) (by rw [c.g.nN]; exact c.g.nd) (by rw [c.g.nN]; exact h1) (by rw [c.g.sc]; exact loc_of h2) (snE SO e _ c.g h6).pe ip_sub hf) fun Dn σ H z => imp_augS z
    · cases h
  | .app j e, st, h => by
    unfold chkS at h
    split at h
    · simp only [Bool.and_eq_true, beq_iff_eq] at h
      obtain ⟨⟨⟨⟨⟨⟨h1, h2⟩, h3⟩, h4⟩, h5⟩, h6⟩, h7⟩ := h
      subst h1
      refine PS.mono (t := tDrop (tBM A.K "list" rAppend (tVar j) (tCons (tE A Wx e) tNil))) ?_ fun Dn σ H z => imp_app z
      rw [← c.g.K]
      exact ps_expr (pe_bm PySem.F.plainAttrs_list PySem.F.slot_list_append PySem.F.type_list_append mt_append (name_of c h2 h3 h4) (pa_cons (snE SO e _ c.g h7).pe pa_nil (star_of h6)) rfl (by rw [star_of h6]; rfl) (by simpa using h5) (star_of h6) rfl) rfl
    · cases h
  | .ext j e, st, h => by
    unfold chkS at h
    split at h
    · simp only [Bool.and_eq_true, beq_iff_eq] at h
      obtain ⟨⟨⟨⟨⟨⟨h1, h2⟩, h3⟩, h4⟩, h5⟩, h6⟩, h7⟩ := h
      subst h1
      refine PS.mono (t := tDrop (tBM A.K "list" rExtend (tVar j) (tCons (tE A Wx e) tNil))) ?_ fun Dn σ H z => imp_ext z
      rw [← c.g.K]
      exact ps_expr (pe_bm PySem.F.plainAttrs_list PySem.F.slot_list_extend PySem.F.type_list_extend mt_extend (name_of c h2 h3 h4) (pa_cons (snE SO e _ c.g h7).pe pa_nil (star_of h6)) rfl (by rw [star_of h6]; rfl) (by simpa using h5) (star_of h6) rfl) rfl
    · cases h
  | .expr e, st, h => by
    unfold chkS at h
    split at h
    · simp only [Bool.and_eq_true] at h
      exact PS.mono (ps_expr (snE SO e _ c.g h.2).pe (sw_false h.1)) fun Dn σ H z => imp_expr z
    · cases h
  | .ifs t a b, st, h => by
    unfold chkS at h
    split at h
    · simp only [Bool.and_eq_true] at h
      obtain ⟨⟨⟨h1, h2⟩, h3⟩, h4⟩ := h
      exact PS.mono (ps_if ((snE SO t _ c.g h2).pt h1) (snB SO c a _ h3) (snB SO c b _ h4)) fun Dn σ H z => imp_if z
    · cases h
  | .for_ kk src t b, st, h => by
    unfold chkS at h
    split at h
    · simp only [Bool.and_eq_true] at h
      obtain ⟨⟨h1, h2⟩, h3⟩ := h
      obtain ⟨i1, i2, i3⟩ := snI SO kk src _ _ c.g h1
      exact PS.mono (ps_for c.pown c.g.calm i1 (snG c.g t _ h2) (snB SO c b _ h3) i3) fun Dn σ H z => imp_for i2 z
    · cases h
  | .ret e, st, h => by
    unfold chkS at h
    split at h
    · exact PS.mono (ps_ret (snE SO e _ c.g h).pe) fun Dn σ H z => imp_ret z
    · cases h
  | .retN, st, h => by
    unfold chkS at h
    split at h
    · exact PS.mono ps_retN fun Dn σ H z => imp_retN z
    · cases h
  | .retO j, st, h => by
    unfold chkS at h
    split at h
    · simp only [Bool.and_eq_true, beq_iff_eq] at h
      exact PS.mono (ps_ret (name_of c h.1.1 h.1.2 h.2)) fun Dn σ H z => imp_retO z
    · cases h
  | .pass, st, h => by
    unfold chkS at h
    split at h
    · exact PS.mono ps_pass fun Dn σ H z => imp_pass z
    · cases h
  | .pop _ _ _, st, h => by simp [chkS] at h
  | .fldV _ _ _, st, h => by simp [chkS] at h
  | .fldO _ _ _, st, h => by simp [chkS] at h
  | .fldSet _ _ _ _, st, h => by simp [chkS] at h
  | .fldApp _ _ _, st, h => by simp [chkS] at h
  | .forF _ _ _ _ _, st, h => by simp [chkS] at h
  | .frz _, st, h => by simp [chkS] at h
theorem snB (SO : StatOk A k) (c : CtxS A k Wx fnB sc N X) : ∀ (b : List S) (sts : List Stmt), chkB A.T N fnB sc b sts = true → PSs X sts (tBk A Wi Hi Wx b)
  | [], [], _ => PSs.mono pss_nil fun Dn σ H z => imp_bnil z
  | [], _ :: _, h => by simp [chkB] at h
  | s :: r, sts, h => by
    by_cases hf : ∃ j, s = .frz j
    · obtain ⟨j, rfl⟩ := hf
      simp only [chkB] at h
      exact PSs.mono (snB SO c r sts h) fun Dn σ H z => imp_frz z
    · obtain ⟨st, sts', rfl, h1, h2⟩ := chkB_cons (fun j e => hf ⟨j, e⟩) h
      exact PSs.mono (pss_cons (snS SO c s st h1) (snB SO c r sts' h2)) fun Dn σ H z => imp_bcons z
end
end
end GV
set_option Elab.async false
set_option linter.all false
set_option maxRecDepth 100000
set_option maxHeartbeats 4000000
/-! GV19: functions. -/
namespace GV
open PySem L2
/-! ### what is pure does not look at the ids -/
section
variable {K : PySem.W.Frag} {cl : Nat → Option Addr} {W W' : Wd} {H : Hp} {h : MH}
mutual
theorem Rep.pure (e : ∀ a, W.F a → W'.F a) : ∀ {v : V} {d : D} {n : Nat}, Rep K W H v d → d.okN n = true → Rep K W' H v d
  | _, _, _, .non, _ => .non
  | _, _, _, .bl b, _ => .bl b
  | _, _, _, .int i, _ => .int i
  | _, _, _, .str x, _ => .str x
  | _, _, 0, .tup _ _, h => by simp [D.okN] at h
  | _, _, n + 1, .tup q r, h => .tup q (RepL.pure (n := n) e r (by simpa [D.okN] using h))
  | _, _, 0, .lst _ _ _, h => by simp [D.okN] at h
  | _, _, n + 1, .lst q f r, h => .lst q (e _ f) (RepL.pure (n := n) e r (by simpa [D.okN] using h))
  | _, _, n, .obj _, h => by simp [D.okN] at h
theorem RepL.pure (e : ∀ a, W.F a → W'.F a) : ∀ {vs : List V} {ds : List D} {n : Nat}, RepL K W H vs ds → (∀ d ∈ ds, d.okN n = true) → RepL K W' H vs ds
  | _, _, _, .nil, _ => .nil
  | _, _, n, .cons a b, h => .cons (Rep.pure e a (h _ (by simp))) (RepL.pure (n := n) e b fun d hd => h d (by simp [hd]))
end
def Wd.cut (W : Wd) (n : Nat) : Wd := { W with k := fun q => if q.1 < n then W.k q else none }
theorem cut_fp {n : Nat} {a : Addr} (z : (W.cut n).fp a) : W.fp a := by
  obtain ⟨q, e⟩ := z
  unfold Wd.cut at e
  simp only at e
  split at e
  · exact ⟨q, e⟩
  · cases e
theorem cut_ok {n : Nat} (w : WOk K cl W h H) (hp : (h.take n).all MO.pure = true) : WOk K cl (W.cut n) (h.take n) H := by
  refine ⟨fun q q' a h1 h2 => ?_, fun a f z => w.dis a f (cut_fp z), fun a z => w.cov a (cut_fp z), w.frz, fun i o q => ?_, fun q a e => ?_⟩
  · unfold Wd.cut at h1 h2
    simp only at h1 h2
    split at h1
    · split at h2
      · exact w.inj q q' a h1 h2
      · cases h2
    · cases h1
  · have hi : i < n := by
      have := (List.getElem?_eq_some_iff.mp q).1
      simp at this
      omega
    have hpo : o.pure = true := List.all_eq_true.mp hp o (List.mem_of_getElem? q)
    rw [List.getElem?_take_of_lt hi] at q
    have m := w.obj i o q
    have kk : ∀ f, (W.cut n).k (i, f) = W.k (i, f) := fun f => by unfold Wd.cut; simp [hi]
    cases o with
    | lst xs =>
      obtain ⟨a, vs, e1, e2, e3⟩ := m
      exact ⟨a, vs, by rw [kk]; exact e1, e2, RepL.pure (W := W) (W' := W.cut n) (fun _ f => f) e3 (List.all_eq_true.mp hpo)⟩
    | ins c fs =>
      obtain ⟨a, C, dx, gs, e1, e2, e3, e4⟩ := m
      refine ⟨a, C, dx, gs, by rw [kk]; exact e1, e2, e3, ?_⟩
      have hfs : ∀ p ∈ fs, p.2.pure = true := List.all_eq_true.mp hpo
      clear hpo q e3
      induction e4 with
      | nil => exact .nil
      | @cons pp qq l1 l2 z _ ih =>
        refine .cons ?_ (ih fun p hp => hfs p (by simp [hp]))
        have hz := hfs pp (by simp)
        obtain ⟨f, fd⟩ := pp
        cases fd with
        | v d => exact ⟨z.1, Rep.pure (W := W) (W' := W.cut n) (fun _ f => f) z.2 hz⟩
        | own m ys =>
          obtain ⟨z1, c, ws, z2, z3, z4, z5⟩ := z
          exact ⟨z1, c, ws, by rw [kk]; exact z2, z3, z4, RepL.pure (W := W) (W' := W.cut n) (fun _ f => f) z5 (List.all_eq_true.mp hz)⟩
  · unfold Wd.cut at e
    simp only at e
    split at e
    · rename_i hq
      have := w.bnd q a e
      simp
      omega
    · cases e
theorem cut_ext {W0 : Wd} {H0 : Hp} {h0 : MH} (w0 : WOk K cl W0 h0 H0) (x : Ext W0 H0 W H) : Ext W0 H0 (W.cut h0.length) H :=
  ⟨x.keep, x.there, fun a z => x.fpn a (cut_fp z), fun q a e => by
    unfold Wd.cut
    simp only
    rw [if_pos (w0.bnd q a e)]
    exact x.ids q a e, x.fF, x.fn⟩
theorem cut_rrel {H0 : Hp} {v : V} {r : R} {n : Nat} (q : RRel K W H0 H v r) (hp : r.pure = true) : RRel K (W.cut n) H0 H v r := by
  cases r with
  | v d => exact Rep.pure (W := W) (W' := W.cut n) (fun _ f => f) q hp
  | nl xs =>
    obtain ⟨p, vs, e1, e2, e3, e4, e5, e6⟩ := q
    exact ⟨p, vs, e1, e2, e3, RepL.pure (W := W) (W' := W.cut n) (fun _ f => f) e4 (List.all_eq_true.mp hp), e5, fun z => e6 (cut_fp z)⟩
  | bw xs => cases hp
end
/-! ### a call -/
structure Base where
  P : Program
  w : World
  K : PySem.W.Frag
  mg : Str → Option Value
  base : Heap
  cl : Nat → Option Addr
  xc : Nat → Value
  T : Tab
  Pt : Nat → Option FD
  gc : Nat → Option D
  srt : List D → Option (List D)
  wf : Nat
  wh : Nat → Option D
noncomputable def Base.at (B : Base) (n : Nat) : Stat where
  P := B.P
  w := B.w
  K := B.K
  mg := B.mg
  base := B.base
  G := ⟨evCall B.Pt B.gc B.srt B.wf B.wh n, B.gc, B.srt, B.wf, whAt B.wh n⟩
  cl := B.cl
  xc := B.xc
  T := B.T
theorem start_rel {K : PySem.W.Frag} {W : Wd} {H : Hp} {vs : List V} {args : List Sl} {n : Nat} {N : List Str} (q : Paired (AR K W H) vs args) (hN : N.length = n) : SRel K W H (fun _ => none) (startS n args) (L2.start N vs) := by
  have hl : vs.length = args.length := Paired.length q
  have get : ∀ (j : Nat) x, (startS n args)[j]? = some (some x) → ∃ v, (L2.start N vs)[j]? = some (some v) ∧ AR K W H v x := by
    intro j x e
    unfold startS at e
    by_cases hj : j < args.length
    · rw [List.getElem?_append_left (by simpa using hj)] at e
      simp only [List.getElem?_map, Option.map_eq_some_iff, Option.some.injEq] at e
      obtain ⟨y, e1, rfl⟩ := e
      have : ∀ {vs : List V} {args : List Sl} {j : Nat}, Paired (AR K W H) vs args → args[j]? = some y → ∃ v, vs[j]? = some v ∧ AR K W H v y := by
        intro vs args j q
        induction q generalizing j with
        | nil => intro e; simp at e
        | cons a b ih =>
          intro e
          cases j with
          | zero => simp at e; subst e; exact ⟨_, rfl, a⟩
          | succ j => simpa using ih (j := j) (by simpa using e)
      obtain ⟨v, e2, e3⟩ := this q e1
      refine ⟨v, ?_, e3⟩
      unfold L2.start
      rw [List.getElem?_append_left (by simp [hl, hj])]
      simp [e2]
    · rw [List.getElem?_append_right (by simpa using hj)] at e
      rw [List.getElem?_replicate] at e
      split at e
      · cases e
      · cases e
  refine ⟨fun j d e => ?_, fun j xs e => ?_, fun j xs e => ?_, fun i j a h1 => (by cases h1), fun j a h1 => (by cases h1), ?_⟩
  · obtain ⟨v, e1, e2⟩ := get j _ e
    exact ⟨v, e1, e2⟩
  · obtain ⟨v, e1, e2⟩ := get j _ e
    exact e2.elim
  · obtain ⟨v, e1, a, us, rfl, e2, e3, e4⟩ := get j _ e
    exact ⟨a, us, e1, e2, e3, e4, fun i z => by cases z⟩
  · unfold startS L2.start
    simp [hl, hN]
structure DefOk (B : Base) (f : Nat) (x : Str) (ad : Addr) (fd : FuncData) (params : Arguments) (body : List Stmt) (scope : Scope) (N ps : List Str) (d : FD) : Prop where
  F : FunD B.K x x params body scope [] [] ad fd
  sc : FnScope N ps scope
  b : Binds B.K fd ps []
  g : B.mg x = some (.ref ad)
  p : B.Pt f = some d
  dn : N.length = d.n
  dp : ps.length = d.p
  chk : chkB B.T N (fun _ => true) scope d.body body = true
theorem fn_zero {P : Program} {w : World} {K : PySem.W.Frag} {mg : Str → Option Value} {base : Heap} {CX : CXT} {k : Nat} {f : Addr} {fd : FuncData} {ps : List Str} {sp : Sp} (h : ∀ vs H Q E, ¬ sp vs H Q E) : FnOk P w K mg base CX k f fd ps sp :=
  ⟨fun vs H Q E z => (h vs H Q E z).elim, fun A outer s H args us vs Q E _ _ _ _ z => (h vs H Q E z).elim⟩
theorem fn_step {B : Base} {n f : Nat} {x : Str} {ad : Addr} {fd : FuncData} {params : Arguments} {body : List Stmt} {scope : Scope} {N ps : List Str} {d : FD} (D : DefOk B f x ad fd params body scope N ps d) (S : StatOk (B.at n) n) :
    FnOk B.P B.w B.K B.mg B.base (L2.CX B.P B.w) (n + 1) ad fd ps (spF (B.at (n + 1)) f) := by
  refine D.F.ok D.sc (fun vs H Q E z => ?_) fun cdv A outer s H vs Q E hr z => ?_
  · obtain ⟨W, h, args, w, q, p⟩ := z
    have e : (B.at (n + 1)).G.cf f args h = if args.length = d.p then finish h.length (evB (B.at n).G d.body (startS d.n args) h) else .no := by
      show evCall B.Pt B.gc B.srt B.wf B.wh (n + 1) f args h = _
      rw [evCall, D.p]
      rfl
    rw [e] at p
    split at p
    · rename_i hl
      have := Paired.length q
      rw [this, hl, D.dp]
    · exact p.elim
  · obtain ⟨W, h, args, w, q, p⟩ := z
    have e : (B.at (n + 1)).G.cf f args h = if args.length = d.p then finish h.length (evB (B.at n).G d.body (startS d.n args) h) else .no := by
      show evCall B.Pt B.gc B.srt B.wf B.wh (n + 1) f args h = _
      rw [evCall, D.p]
      rfl
    rw [e] at p
    split at p
    · have c : CtxS (B.at n) n (fun cls d _ H => E cls d H) (fun _ => true) scope N (cxOf (L2.CX B.P B.w) B.P B.w B.K B.mg B.base N x scope ad cdv A outer s H E) :=
        ⟨⟨rfl, rfl, rfl, rfl, rfl, rfl, rfl, rfl, D.sc.nd, rfl, hr, takes_of rfl rfl rfl rfl⟩, passes_of rfl, D.sc.kind, rfl, rfl⟩
      refine ⟨tBk (B.at n) W H (fun cls d _ H => E cls d H) d.body, snB S c d.body body D.chk, W, h, fun _ => none, startS d.n args, ⟨w, start_rel q D.dn, Ext.refl _ _, fun j a z => by cases z⟩, ?_⟩
      cases eb : evB (B.at n).G d.body (startS d.n args) h with
      | no => rw [eb] at p; exact p
      | ex c h' =>
        rw [eb] at p
        simp only [finish] at p
        split at p
        · exact fun W' H' σ' x' w' => p W' H' x' w'
        · exact p.elim
      | ok fl h' =>
        rw [eb] at p
        cases fl with
        | nx ss' =>
          simp only [finish] at p
          split at p
          · exact fun W' H' oA' σ' st y => p W' H' .non st.x st.w .non
          · split at p
            · rename_i hp
              exact fun W' H' oA' σ' st y => p _ H' .non (cut_ext w st.x) (cut_ok st.w hp) .non
            · exact p.elim
        | rt r =>
          simp only [finish] at p
          split at p
          · exact fun W' H' v x' w' rr => p W' H' v x' w' rr
          · split at p
            · rename_i hp
              simp only [Bool.and_eq_true] at hp
              exact fun W' H' v x' w' rr => p _ H' v (cut_ext w x') (cut_ok w' hp.2) (cut_rrel rr hp.1)
            · exact p.elim
    · exact p.elim
/-- all levels -/
structure BaseOk (B : Base) : Prop where
  free : ∀ x ∈ bnames, B.mg x = none
  cst : ∀ (c : Nat) x, B.T.gn[c]? = some x → ∃ v u, B.mg x = some u ∧ RelV v u ∧ ∀ d W H, B.gc c = some d → Rep B.K W H v d
  fns : ∀ (f : Nat) x, B.T.fn f = some x → ∃ ad fd params body scope N ps d, DefOk B f x ad fd params body scope N ps d
  exc : ∀ (c : Nat) x, B.T.cn.lookup c = some x → ∃ C, B.mg x = some (.ref C) ∧ B.xc c = .ref C ∧ PySem.W.excIn B.K C He.veBase "ValueError.__new__" = true ∧ PySem.W.keepIn B.K (.ref C) = true ∧ PySem.W.subIn B.K (.ref C) (.type "BaseException") = some true ∧ PySem.W.typeIn B.K (.ref C) = some (.type "type")
  tr : ∀ x, B.T.wh = some x → ∃ Bc ad fd params body scope, B.mg B.T.be = some (.ref Bc) ∧ B.mg x = some (.ref ad) ∧ FunD B.K x x params body scope [] [] ad fd ∧ Binds B.K fd ["e"] [] ∧ FnScope ["e", "own"] ["e"] scope ∧ whB scope body = true ∧ B.mg "ValueError" = none ∧
    ∀ c d, B.wh c = some d → c < 21 ∧ d = .tup [.str "raised", .int (c : Nat)] ∧ ∃ C, B.xc c = .ref C ∧ PySem.W.exmOne B.K (.ref C) (.ref Bc) = some true ∧ ClsOk B.K B.mg C c
theorem tr_at {B : Base} (O : BaseOk B) (n : Nat) : ∀ x, (B.at n).T.wh = some x → ∃ Bc ad fd, (B.at n).mg (B.at n).T.be = some (.ref Bc) ∧ (B.at n).mg x = some (.ref ad) ∧ PySem.W.keepIn (B.at n).K (.ref ad) = true ∧ Binds (B.at n).K fd ["e"] [] ∧
    ∀ c d, (B.at n).G.wh c = some d → d = .tup [.str "raised", .int (c : Nat)] ∧ ∃ C, (B.at n).xc c = .ref C ∧ PySem.W.exmOne (B.at n).K (.ref C) (.ref Bc) = some true ∧ FnW (B.at n).P (B.at n).w (B.at n).K (B.at n).mg (B.at n).base (L2.CX (B.at n).P (B.at n).w) n ad fd C (rWh c) := fun x hx => by
  obtain ⟨Bc, ad, fd, params, body, scope, h1, h2, h3, h4, h5, h6, h7, h8⟩ := O.tr x hx
  refine ⟨Bc, ad, fd, h1, h2, h3.kp, h4, fun c d e => ?_⟩
  have e' : whAt B.wh n c = some d := e
  cases n with
  | zero => cases e'
  | succ m =>
    obtain ⟨g1, g2, C, g3, g4, g5⟩ := h8 c d e'
    exact ⟨g2, C, g3, g4, fn_wh g1 h3 h5 h6 g5 (O.free "isinstance" (by decide +kernel)) h7⟩
theorem stat_ok {B : Base} (O : BaseOk B) : ∀ n, StatOk (B.at n) n
  | 0 => ⟨O.free, O.cst, fun f x e => by
    obtain ⟨ad, fd, params, body, scope, N, ps, d, D⟩ := O.fns f x e
    exact ⟨ad, fd, ps, D.g, D.F.kp, D.b, fn_zero fun vs H Q E z => by
      obtain ⟨W, h, args, w, q, p⟩ := z
      exact p⟩, O.exc, tr_at O 0⟩
  | n + 1 => ⟨O.free, O.cst, fun f x e => by
    obtain ⟨ad, fd, params, body, scope, N, ps, d, D⟩ := O.fns f x e
    exact ⟨ad, fd, ps, D.g, D.F.kp, D.b, fn_step D (stat_ok O n)⟩, O.exc, tr_at O (n + 1)⟩
end GV
set_option Elab.async false
set_option linter.all false
set_option maxRecDepth 100000
set_option maxHeartbeats 4000000
/-! GV20: a law's defs, constants, head. -/
namespace GV
open PySem L2
/-! ### binding of plain parameters -/
theorem fm_congr {α β : Type} {f g : α → Option β} : ∀ {l : List α}, (∀ a ∈ l, f a = g a) → l.filterMap f = l.filterMap g
  | [], _ => rfl
  | a :: l, h => by
    rw [List.filterMap_cons, List.filterMap_cons, h a (by simp), fm_congr fun b hb => h b (by simp [hb])]
theorem lookup_zip {β : Type} : ∀ {ps : List Str} {us : List β}, ps.Nodup → us.length = ps.length → ps.filterMap (fun n => ((ps.zip us).lookup n).map (n, ·)) = ps.zip us
  | [], [], _, _ => rfl
  | p :: ps, u :: us, hn, hl => by
    have hn' := List.nodup_cons.mp hn
    have e : ∀ n ∈ ps, (((p :: ps).zip (u :: us)).lookup n).map (n, ·) = ((ps.zip us).lookup n).map (n, ·) := fun n hm => by
      have : (n == p) = false := by
        cases q : n == p with
        | false => rfl
        | true => exact absurd (eq_of_beq q ▸ hm) hn'.1
      simp [List.zip_cons_cons, List.lookup_cons, this]
    rw [List.filterMap_cons]
    have e0 : (((p :: ps).zip (u :: us)).lookup p).map (p, ·) = some (p, u) := by simp [List.lookup_cons]
    rw [e0]
    simp only [List.zip_cons_cons]
    congr 1
    refine Eq.trans ?_ (lookup_zip (ps := ps) (us := us) hn'.2 (by simpa using hl))
    exact fm_congr e
  | [], _ :: _, _, hl => by simp at hl
  | _ :: _, [], _, hl => by simp at hl
theorem lookup_some {β : Type} : ∀ {ps : List Str} {us : List β}, us.length = ps.length → ∀ n ∈ ps, ((ps.zip us).lookup n).isNone = false
  | [], _, _, n, h => by cases h
  | p :: ps, [], hl, _, _ => by simp at hl
  | p :: ps, u :: us, hl, n, h => by
    simp only [List.zip_cons_cons, List.lookup_cons]
    cases q : n == p with
    | true => rfl
    | false =>
      rcases List.mem_cons.mp h with e | e
      · simp [e] at q
      · exact lookup_some (by simpa using hl) n e
def plainB (p : Arguments) (ps : List Str) : Bool := p.posonlyargs.isEmpty && p.vararg.isNone && p.kwonlyargs.isEmpty && p.kwarg.isNone && decide (p.args.map (·.arg) = ps)
theorem bind_plain {fd : FuncData} {us : List Value} {ps : List Str} (h : plainB fd.params ps = true) (hd : fd.defaults = .none) (hn : ps.Nodup) (hl : us.length = ps.length) : bindArgs fd ⟨us, []⟩ = pure (ps.zip us) := by
  unfold plainB at h
  simp only [Bool.and_eq_true, List.isEmpty_iff, Option.isNone_iff_eq_none, decide_eq_true_eq] at h
  obtain ⟨⟨⟨⟨h1, h2⟩, h3⟩, h4⟩, h5⟩ := h
  have e1 : (ps.filter fun n => ((ps.zip us).lookup n).isNone) = [] := by
    rw [List.filter_eq_nil_iff]
    intro n hm
    rw [lookup_some hl n hm]
    simp
  unfold bindArgs
  simp only [h1, h2, h3, h4, h5, hd, seqItems?, notAStandIn, List.map_nil, List.nil_append, List.append_nil, List.forIn_nil, List.forIn'_nil, pure_bind, Option.getD_none, Array.toList_empty, hl, gt_iff_lt, Nat.lt_irrefl, decide_false, Bool.false_and, Bool.false_eq_true, if_false, List.length_nil, List.drop_nil, Nat.sub_zero, List.take_length, e1, List.isEmpty_nil, Bool.not_true, List.drop_length, List.zip_nil_right, Nat.zero_sub, lookup_zip hn hl]

/-! ### one def -/
structure DI where
  x : Str
  st : Stmt
  N : List Str
  p : Nat
  body : List S
def DI.ps (d : DI) : List Str := d.N.take d.p
def DI.fd (d : DI) : FD := ⟨d.N.length, d.p, d.body⟩
def DI.dd (d : DI) : He.DefD := ⟨(d.x, none), d.x, d.x, defArgs d.st, defBody d.st, defScope d.st, [], []⟩
def scB (N P : List Str) (sc : Scope) : Bool :=
  decide (sc.kind = .function) && (!sc.isCoroutine && (!sc.isGenerator && (decide N.Nodup && ((P.all fun x => decide (sc.names.lookup x = some .local) || decide (sc.names.lookup x = some .cell)) && sc.names.all fun y => !decide (y.2 = .free)))))
theorem scB_ok {N : List Str} {p : Nat} {sc : Scope} (h : scB N (N.take p) sc = true) : FnScope N (N.take p) sc := by
  unfold scB at h
  simp only [Bool.and_eq_true, decide_eq_true_eq, Bool.not_eq_true', List.all_eq_true, Bool.or_eq_true, decide_eq_false_iff_not] at h
  obtain ⟨h1, h2, h3, h4, h5, h6⟩ := h
  refine ⟨h1, h2, h3, h4, ?_, h5, fun y hy => h6 y hy⟩
  rw [List.length_take]
  by_cases hp : p ≤ N.length
  · rw [Nat.min_eq_left hp]
  · rw [Nat.min_eq_right (by omega), List.take_length, List.take_of_length_le (by omega)]
def DI.ok (T : Tab) (d : DI) : Bool := scB d.N (d.N.take d.p) (defScope d.st) && (plainB (defArgs d.st) (d.N.take d.p) && (decide (d.p ≤ d.N.length) && chkB T d.N (fun _ => true) (defScope d.st) d.body (defBody d.st)))
/-! ### constants -/
def dvOf : D → He.Dv
  | .int i => .int i
  | .str x => .str x
  | _ => .non
def flatB : D → Bool
  | .int _ => true
  | .str _ => true
  | _ => false
def cB (K : PySem.W.Frag) (x : Str) : D → Bool
  | .int i => (He.Fa.int x i).ok K
  | .str z => (He.Fa.str x z).ok K
  | .tup ds => (He.Fa.glo x).ok K && (ds.all flatB && He.tupB K x (ds.map dvOf))
  | _ => false
theorem repL_flat {K : PySem.W.Frag} {W : Wd} {H : Hp} : ∀ {ds : List D}, ds.all flatB = true → RepL K W H ((ds.map dvOf).map (He.Dv.v K)) ds
  | [], _ => .nil
  | d :: ds, h => by
    simp only [List.all_cons, Bool.and_eq_true] at h
    refine .cons ?_ (repL_flat h.2)
    have h1 := h.1
    cases d with
    | int i => exact .int i
    | str x => exact .str x
    | _ => cases h1
theorem cB_ok {K : PySem.W.Frag} {h : Heap} {mg : Str → Option Value} (X : K.In h) (G : h.Ns mainGlobals mg) {x : Str} {d : D} (c : cB K x d = true) : ∃ v u, mg x = some u ∧ RelV v u ∧ ∀ W H, Rep K W H v d := by
  cases d with
  | int i => obtain ⟨t, e⟩ := He.int_ok X G c; exact ⟨.int i, _, e, ⟨t, rfl⟩, fun _ _ => .int i⟩
  | str z => obtain ⟨t, e⟩ := He.str_ok X G c; exact ⟨.str z, _, e, ⟨t, rfl⟩, fun _ _ => .str z⟩
  | tup ds =>
    simp only [cB, Bool.and_eq_true] at c
    obtain ⟨c1, c2, c3⟩ := c
    exact ⟨.ref (He.ga K x), _, He.glo_ok X G c1, rfl, fun W H => .tup (He.tupB_ok c3 H) (repL_flat c2)⟩
  | _ => cases c
/-! ### the head's Hook -/
def lstO (o : Obj) : Bool := match o.cls with
  | .type c => decide (c = "list")
  | _ => false
def noLst (K : PySem.W.Frag) : Bool := K.all fun p => !lstO p.2
theorem noLst_ok {K : PySem.W.Frag} (h : noLst K = true) {a : Addr} {o : Obj} (e : K.lookup a = some o) : o.cls ≠ .type "list" := by
  have : ∀ (K : PySem.W.Frag), noLst K = true → K.lookup a = some o → lstO o = false := by
    intro K
    induction K with
    | nil => intro _ e; cases e
    | cons p K ih =>
      intro h e
      simp only [noLst, List.all_cons, Bool.and_eq_true, Bool.not_eq_true'] at h
      have e' : (match a == p.1 with | true => some p.2 | false => K.lookup a) = some o := e
      cases q : (a == p.1) with
      | true =>
        rw [q] at e'
        have e2 : some p.2 = some o := e'
        cases e2
        exact h.1
      | false =>
        rw [q] at e'
        exact ih h.2 e'
  have z := this K h e
  intro q
  unfold lstO at z
  rw [q] at z
  simp at z
structure HI where
  ds : List (Nat × DI)
  cs : List (Str × D)
  xs : List (Nat × Str)
  wh : Option DI
def beN : Str := "BoardError"
def HI.T (I : HI) : Tab := ⟨fun f => (I.ds.lookup f).map (·.x), I.cs.map (·.1), I.xs, I.wh.map (·.x), beN⟩
def HI.fa (I : HI) : List He.Fa := I.ds.map (fun d => .glo d.2.x) ++ (bnames.map He.Fa.free ++ ((I.xs.map fun x => .glo x.2) ++ ((I.xs.map fun x => .exc x.2) ++ (match I.wh with
  | none => []
  | some d => [.glo d.x, .glo beN, .free "ValueError"] ++ (I.xs.map fun x => .exm x.2 beN true)))))
def HI.fn (I : HI) : List He.DefD := (I.ds.map fun d => d.2.dd) ++ (I.wh.map fun d => d.dd).toList
abbrev AlG : Type := Bool × He.AlD
/-- what isinstance asks of the classes -/
def excB (K : PySem.W.Frag) (D : Addr) : Bool :=
  He.eqO (PySem.W.findIn K (.ref D) "__getattribute__") (some (some (.builtin "BaseException.__getattribute__"))) && (He.eqO (PySem.W.findIn K (.ref D) "__getattr__") (some none) &&
  (decide (PySem.W.subIn K (.ref D) (.type "BaseException") = some true) && (PySem.W.hasDictIn K D && (He.eqO (PySem.W.findIn K (.ref D) "__class__") (some (some (.builtin "object.__class__"))) &&
  (He.eqO (PySem.W.specialIn K (.builtin "object.__class__") "__get__") (some (some (.builtin "getset_descriptor.__get__"))) && (decide (PySem.W.takesIn K (.builtin "object.__class__") = some true) && decide (PySem.W.mroIn K D (.type "object") = some true)))))))
theorem excB_ok {K : PySem.W.Frag} {D : Addr} (h : excB K D = true) : ExcC K D := by
  unfold excB at h
  simp only [Bool.and_eq_true, decide_eq_true_eq] at h
  obtain ⟨h1, h2, h3, h4, h5, h6, h7, h8⟩ := h
  exact ⟨He.eqO_ok h1, He.eqO_ok h2, h3, h4, He.eqO_ok h5, He.eqO_ok h6, h7, h8⟩
def HI.clsB (I : HI) (K : PySem.W.Frag) : Bool := match I.wh with
  | none => true
  | some _ => I.xs.all fun x => decide (x.1 < 21) && (excB K (He.ga K x.2) && (wNames.all (fun y => decide (y ∈ I.xs.map (·.2)) && decide (PySem.W.kitOne K (.ref (He.ga K x.2)) (.ref (He.ga K y)) = some (bvOf x.1 y))) && decide (PySem.W.kitOne K (.ref (He.ga K x.2)) (.type "ValueError") = some true)))
def HI.obK (I : HI) (K : PySem.W.Frag) : AlG := (noLst K && (I.cs.all (fun c => cB K c.1 c.2) && I.clsB K), He.obsD I.fa I.fn K)
/-- the which-def itself -/
def HI.whOk (I : HI) : Bool := match I.wh with
  | none => true
  | some d => decide (d.N = (["e", "own"] : List Str)) && (decide (d.p = 1) && (scB d.N (d.N.take d.p) (defScope d.st) && (plainB (defArgs d.st) (d.N.take d.p) && whB (defScope d.st) (defBody d.st))))
def HI.whF (I : HI) (c : Nat) : Option D := if I.wh.isSome && (I.xs.lookup c).isSome then some (.tup [.str "raised", .int (c : Nat)]) else none
def HI.xc (I : HI) (K : PySem.W.Frag) (c : Nat) : Value := match I.xs.lookup c with
  | some x => .ref (He.ga K x)
  | none => .none
def HI.val (I : HI) : AlG := (true, He.valD I.fn)
def HI.obG (I : HI) (n : Nat) (g : Addr → Option Obj) : AlG := I.obK (He.frG g (He.asD g n))
def HI.hook (I : HI) (n : Nat) : PySem.W.Hook where
  α := AlG
  obs := fun s => I.obG n s.heap.get?
  val := fun _ => I.val
  says := fun _ h => ∃ K : PySem.W.Frag, K.In h ∧ I.obK K = I.val
  of := fun _ _ e => ⟨_, He.frG_in, e⟩
  keeps := fun _ _ _ ⟨K, hK, c⟩ k => ⟨K, PySem.W.Frag.In.keeps hK k, c⟩
def HI.ob (I : HI) (n : Nat) (s : PySem.W.SharedT) : AlG := I.obG n (HandSHeadRun.getT s)
theorem HI.ob_eq (I : HI) (n : Nat) (s : PySem.W.SharedT) : I.ob n s = (I.hook n).obs s.abs := by
  have e : HandSHeadRun.getT s = s.abs.heap.get? := funext (HandSHeadRun.getT_eq s)
  unfold HI.ob
  rw [e] <;> rfl
/-! ### the walk -/
noncomputable def HI.base (I : HI) (P : Program) (w : World) (K : PySem.W.Frag) (mg : Str → Option Value) (base : Heap) (cl : Nat → Option Addr) (srt : List D → Option (List D)) (wf : Nat) : Base :=
  ⟨P, w, K, mg, base, cl, I.xc K, I.T, fun f => (I.ds.lookup f).map DI.fd, fun c => (I.cs[c]?).map (·.2), srt, wf, I.whF⟩
theorem lookup_at {β : Type} {f : Nat} {d : β} : ∀ {l : List (Nat × β)}, l.lookup f = some d → ∃ j : Nat, l[j]? = some (f, d)
  | [], h => by cases h
  | (g, e) :: l, h => by
    rw [List.lookup_cons] at h
    cases q : f == g with
    | true =>
      rw [q] at h
      cases h
      exact ⟨0, by rw [eq_of_beq q]; rfl⟩
    | false =>
      rw [q] at h
      obtain ⟨j, e⟩ := lookup_at h
      exact ⟨j + 1, e⟩
theorem HI.defd {I : HI} {K : PySem.W.Frag} {h : Heap} {mg : Str → Option Value} (X : K.In h) (G : h.Ns mainGlobals mg) (e : I.obK K = I.val) {f : Nat} {d : DI} (hf : I.ds.lookup f = some d) :
    (∃ fd, FunD K d.x d.x (defArgs d.st) (defBody d.st) (defScope d.st) [] [] (He.ga K d.x) fd) ∧ mg d.x = some (.ref (He.ga K d.x)) := by
  have e2 : He.obsD I.fa I.fn K = He.valD I.fn := congrArg (fun z : AlG => z.2) e
  have s : He.SaysD I.fa I.fn K := e2
  obtain ⟨j, hj⟩ := lookup_at hf
  obtain ⟨fd, F⟩ := s.def_ j (d := d.dd) (by unfold HI.fn; rw [List.getElem?_append_left (by simpa using (List.getElem?_eq_some_iff.mp hj).1), List.getElem?_map, hj]; rfl)
  have hlt : j < I.ds.length := (List.getElem?_eq_some_iff.mp hj).1
  exact ⟨⟨fd, F⟩, He.glo_ok X G (s.fact j (f := .glo d.x) (by unfold HI.fa; rw [List.getElem?_append_left (by simpa using hlt), List.getElem?_map, hj]; rfl))⟩
theorem HI.free {I : HI} {K : PySem.W.Frag} {h : Heap} {mg : Str → Option Value} (X : K.In h) (G : h.Ns mainGlobals mg) (e : I.obK K = I.val) : ∀ x ∈ bnames, mg x = none := by
  have e2 : He.obsD I.fa I.fn K = He.valD I.fn := congrArg (fun z : AlG => z.2) e
  have e3 : ((I.fa.all fun f => f.ok K) && I.fn.all fun d => d.ok K) = true := congrArg (fun z : He.AlD => z.1) e2
  intro x hx
  refine He.free_ok X G (List.all_eq_true.mp (Bool.and_eq_true_iff.mp e3).1 _ ?_)
  unfold HI.fa
  exact List.mem_append_right _ (List.mem_append_left _ (List.mem_map_of_mem hx))
theorem HI.defOk {I : HI} {P : Program} {w : World} {K : PySem.W.Frag} {base : Heap} {mg : Str → Option Value} {cl : Nat → Option Addr} {srt : List D → Option (List D)} {wf : Nat} {f : Nat} {d : DI} {fd : FuncData}
    (q : I.ds.lookup f = some d) (F : FunD K d.x d.x (defArgs d.st) (defBody d.st) (defScope d.st) [] [] (He.ga K d.x) fd) (g : mg d.x = some (.ref (He.ga K d.x))) (k : d.ok I.T = true) :
    DefOk (I.base P w K mg base cl srt wf) f d.x (He.ga K d.x) fd (defArgs d.st) (defBody d.st) (defScope d.st) d.N (d.N.take d.p) d.fd := by
  unfold DI.ok at k
  simp only [Bool.and_eq_true, decide_eq_true_eq] at k
  obtain ⟨k1, k2, k3, k4⟩ := k
  have sc := scB_ok k1
  refine ⟨F, sc, F.bindsN fun kV doc pm an cdv ct us hl => bind_plain k2 rfl (sc.nd.sublist (List.take_sublist _ _)) hl, g, ?_, rfl, ?_, k4⟩
  · show (I.ds.lookup f).map DI.fd = some d.fd
    rw [q] <;> rfl
  · rw [List.length_take, Nat.min_eq_left k3] <;> rfl
theorem HI.facts {I : HI} {K : PySem.W.Frag} (e : I.obK K = I.val) {f : He.Fa} (hf : f ∈ I.fa) : f.ok K = true := by
  have e2 : He.obsD I.fa I.fn K = He.valD I.fn := congrArg (fun z : AlG => z.2) e
  have e3 : ((I.fa.all fun f => f.ok K) && I.fn.all fun d => d.ok K) = true := congrArg (fun z : He.AlD => z.1) e2
  exact List.all_eq_true.mp (Bool.and_eq_true_iff.mp e3).1 _ hf
theorem HI.excOk {I : HI} {K : PySem.W.Frag} {h : Heap} {mg : Str → Option Value} (X : K.In h) (G : h.Ns mainGlobals mg) (e : I.obK K = I.val) {c : Nat} {x : Str} (hx : I.xs.lookup c = some x) :
    mg x = some (.ref (He.ga K x)) ∧ PySem.W.excIn K (He.ga K x) He.veBase "ValueError.__new__" = true ∧ PySem.W.keepIn K (.ref (He.ga K x)) = true ∧ PySem.W.subIn K (.ref (He.ga K x)) (.type "BaseException") = some true ∧ PySem.W.typeIn K (.ref (He.ga K x)) = some (.type "type") := by
  obtain ⟨j, hj⟩ := lookup_at hx
  have m := List.mem_of_getElem? hj
  refine ⟨He.glo_ok X G (I.facts e ?_), He.exc_ok (I.facts e ?_)⟩
  · unfold HI.fa
    exact List.mem_append_right _ (List.mem_append_right _ (List.mem_append_left _ (List.mem_map.mpr ⟨(c, x), m, rfl⟩)))
  · unfold HI.fa
    exact List.mem_append_right _ (List.mem_append_right _ (List.mem_append_right _ (List.mem_append_left _ (List.mem_map.mpr ⟨(c, x), m, rfl⟩))))
theorem mem_lookup {β : Type} {l : List (Nat × β)} {y : β} (h : y ∈ l.map (·.2)) : ∃ c, (c, y) ∈ l := by
  obtain ⟨⟨c, z⟩, hm, e⟩ := List.mem_map.mp h
  have e' : z = y := e
  subst e'
  exact ⟨c, hm⟩
theorem HI.trOk {I : HI} {P : Program} {w : World} {K : PySem.W.Frag} {h base : Heap} {mg : Str → Option Value} {cl : Nat → Option Addr} {srt : List D → Option (List D)} {wf : Nat} (X : K.In h) (G : h.Ns mainGlobals mg) (e : I.obK K = I.val) (hw : I.whOk = true) {x : Str} (hx : (I.base P w K mg base cl srt wf).T.wh = some x) :
    ∃ Bc ad fd params body scope, (I.base P w K mg base cl srt wf).mg (I.base P w K mg base cl srt wf).T.be = some (.ref Bc) ∧ (I.base P w K mg base cl srt wf).mg x = some (.ref ad) ∧ FunD (I.base P w K mg base cl srt wf).K x x params body scope [] [] ad fd ∧ Binds (I.base P w K mg base cl srt wf).K fd ["e"] [] ∧ FnScope ["e", "own"] ["e"] scope ∧ whB scope body = true ∧ (I.base P w K mg base cl srt wf).mg "ValueError" = none ∧
    ∀ c d, (I.base P w K mg base cl srt wf).wh c = some d → c < 21 ∧ d = .tup [.str "raised", .int (c : Nat)] ∧ ∃ C, (I.base P w K mg base cl srt wf).xc c = .ref C ∧ PySem.W.exmOne (I.base P w K mg base cl srt wf).K (.ref C) (.ref Bc) = some true ∧ ClsOk (I.base P w K mg base cl srt wf).K (I.base P w K mg base cl srt wf).mg C c := by
  have hx' : I.wh.map (·.x) = some x := hx
  cases q : I.wh with
  | none => rw [q] at hx'; cases hx'
  | some d =>
    rw [q] at hx'
    cases hx'
    have fa1 : ∀ f ∈ ([.glo d.x, .glo beN, .free "ValueError"] ++ (I.xs.map fun x => .exm x.2 beN true) : List He.Fa), f.ok K = true := fun f hf => I.facts e (by
      unfold HI.fa
      rw [q]
      exact List.mem_append_right _ (List.mem_append_right _ (List.mem_append_right _ (List.mem_append_right _ hf))))
    have e2 : He.obsD I.fa I.fn K = He.valD I.fn := congrArg (fun z : AlG => z.2) e
    have s : He.SaysD I.fa I.fn K := e2
    obtain ⟨fd, F⟩ := s.def_ I.ds.length (d := d.dd) (by unfold HI.fn; rw [List.getElem?_append_right (by simp), q]; simp)
    unfold HI.whOk at hw
    rw [q] at hw
    simp only [Bool.and_eq_true, decide_eq_true_eq] at hw
    obtain ⟨w1, w2, w3, w4, w5⟩ := hw
    have sc := scB_ok w3
    have et : d.N.take d.p = (["e"] : List Str) := by rw [w1, w2]; rfl
    rw [et] at sc w4
    rw [w1] at sc
    have e1 : (noLst K && (I.cs.all (fun c => cB K c.1 c.2) && I.clsB K)) = true := congrArg (fun z : AlG => z.1) e
    have ec := (Bool.and_eq_true_iff.mp (Bool.and_eq_true_iff.mp e1).2).2
    unfold HI.clsB at ec
    rw [q] at ec
    have F' : FunD K d.x d.x (defArgs d.st) (defBody d.st) (defScope d.st) [] [] (He.ga K d.x) fd := F
    refine ⟨He.ga K beN, He.ga K d.x, fd, _, _, _, He.glo_ok X G (fa1 (.glo beN) (by simp)), He.glo_ok X G (fa1 (.glo d.x) (by simp)), F', F'.bindsN fun kV doc pm an cdv ct us hl => bind_plain w4 rfl (by decide +kernel) hl, sc, w5, He.free_ok X G (fa1 (.free "ValueError") (by simp)), fun c dd hc => ?_⟩
    have hc' : I.whF c = some dd := hc
    unfold HI.whF at hc'
    split at hc'
    · rename_i hh
      cases hc'
      simp only [Bool.and_eq_true] at hh
      obtain ⟨y, hy⟩ := Option.isSome_iff_exists.mp hh.2
      obtain ⟨j, hj⟩ := lookup_at hy
      have m := List.mem_of_getElem? hj
      have k := List.all_eq_true.mp ec (c, y) m
      simp only [Bool.and_eq_true, decide_eq_true_eq, List.all_eq_true] at k
      obtain ⟨k1, k2, k3, k4⟩ := k
      refine ⟨k1, rfl, He.ga K y, ?_, He.exm_ok (fa1 _ (List.mem_append_right _ (List.mem_map.mpr ⟨(c, y), m, rfl⟩))), excB_ok k2, fun z hz => ?_, k4⟩
      · show I.xc K c = _
        unfold HI.xc
        rw [hy]
      · obtain ⟨m1, m2⟩ := k3 z hz
        obtain ⟨c2, hm2⟩ := mem_lookup m1
        exact ⟨He.ga K z, He.glo_ok X G (I.facts e (by unfold HI.fa; exact List.mem_append_right _ (List.mem_append_right _ (List.mem_append_left _ (List.mem_map.mpr ⟨(c2, z), hm2, rfl⟩))))), m2⟩
    · cases hc'
theorem HI.ok {I : HI} {P : Program} {w : World} {K : PySem.W.Frag} {h base : Heap} {mg : Str → Option Value} {cl : Nat → Option Addr} {srt : List D → Option (List D)} {wf : Nat}
    (X : K.In h) (G : h.Ns mainGlobals mg) (e : I.obK K = I.val) (hd : (I.ds.all fun d => d.2.ok I.T) = true) (hw : I.whOk = true) : BaseOk (I.base P w K mg base cl srt wf) := by
  refine ⟨I.free X G e, fun c x hc => ?_, fun f x hf => ?_, fun c x hx => ?_, fun x hx => I.trOk X G e hw hx⟩
  · have e1 : (noLst K && (I.cs.all (fun c => cB K c.1 c.2) && I.clsB K)) = true := congrArg (fun z : AlG => z.1) e
    have hc' : (I.cs.map (·.1))[c]? = some x := hc
    rw [List.getElem?_map] at hc'
    cases q : I.cs[c]? with
    | none => rw [q] at hc'; cases hc'
    | some p =>
      rw [q] at hc'
      cases hc'
      obtain ⟨v, u, h1, h2, h3⟩ := cB_ok X G (List.all_eq_true.mp (Bool.and_eq_true_iff.mp (Bool.and_eq_true_iff.mp e1).2).1 p (List.mem_of_getElem? q))
      refine ⟨v, u, h1, h2, fun d W H hg => ?_⟩
      have hg' : (I.cs[c]?).map (·.2) = some d := hg
      rw [q] at hg'
      cases hg'
      exact h3 W H
  · have hf' : (I.ds.lookup f).map (·.x) = some x := hf
    cases q : I.ds.lookup f with
    | none => rw [q] at hf'; cases hf'
    | some d =>
      rw [q] at hf'
      cases hf'
      obtain ⟨⟨fd, F⟩, g⟩ := I.defd X G e q
      exact ⟨_, fd, _, _, _, _, _, _, HI.defOk q F g (by obtain ⟨j, hj⟩ := lookup_at q; exact List.all_eq_true.mp hd (f, d) (List.mem_of_getElem? hj))⟩
  · obtain ⟨h1, h2⟩ := I.excOk X G e hx
    have ex : (I.base P w K mg base cl srt wf).xc c = .ref (He.ga K x) := by
      show I.xc K c = _
      unfold HI.xc
      rw [show I.xs.lookup c = some x from hx]
    exact ⟨_, h1, ex, h2⟩
theorem law_sp {B : Base} {n f : Nat} {h' : MH} (nl : noLst B.K = true) {H : Hp} {a : Addr} {ns : List Int} (hS : SqL B.K H a (ns.map V.int)) (hc : evCall B.Pt B.gc B.srt B.wf B.wh n f [.v (.lst (ns.map D.int))] [] = .ok (.v (.bl true)) h') :
    spF (B.at n) f [.ref a] H (fun v _ => v = .bl true) fun _ _ _ => False := by
  have hr : Rd H a (.lst (ns.map V.int)) := by
    rcases hS with h | ⟨o, its, m, h1, h2, _⟩
    · exact h
    · exact absurd h2 (noLst_ok nl h1)
  have ha : H a ≠ none := by
    rcases hr with e | ⟨o, e⟩ <;> rw [e] <;> exact Option.some_ne_none _
  have rl : ∀ ns : List Int, RepL B.K ⟨fun _ => none, fun b => b = a⟩ H (ns.map V.int) (ns.map D.int) := fun ns => by
    induction ns with
    | nil => exact .nil
    | cons i ns ih => exact .cons (.int i) ih
  have wk : WOkA (B.at n) ⟨fun _ => none, fun b => b = a⟩ [] H :=
    { inj := fun q q' b h1 _ => by cases h1
      dis := fun b _ z => by obtain ⟨q, z⟩ := z; cases z
      cov := fun b z => by obtain ⟨q, z⟩ := z; cases z
      frz := fun b hb => by
        have hb' : b = a := hb
        rw [hb']; exact ha
      obj := fun i o q => by simp at q
      bnd := fun q b z => by cases z }
  refine ⟨⟨fun _ => none, fun b => b = a⟩, [], [.v (.lst (ns.map D.int))], wk, .cons ?_ .nil, ?_⟩
  · exact Rep.lst hr rfl (rl ns)
  · show PostF (B.at n) _ H _ _ (evCall B.Pt B.gc B.srt B.wf B.wh n f [.v (.lst (ns.map D.int))] [])
    rw [hc]
    intro W' H' v _ _ q
    have q' : Rep _ W' H' v (.bl true) := q
    cases q'
    rfl
/-- THE LAW, from the evaluator -/
theorem HI.walk {l : PySem.W.OpenLaw} {I : HI} {m n f : Nat} {q : Program} {loose : List Str} {XP : (Str → Option Value) → Heap → Prop} {d : DefRec} {x : Str} {dl : DI} {srt : List D → Option (List D)} {wf : Nat}
    (hn : l.most = some 63) (hdf : d.params.defaults = []) (hr : Room (n + 1) callerA) (hds : (I.ds.all fun d => d.2.ok I.T) = true) (hwo : I.whOk = true) (hf : I.ds.lookup f = some dl) (hx : dl.x = d.name) (hp : dl.N.take dl.p = [x])
    (hc : ∀ ns : List Int, ns.length ≤ 63 → ∃ h', evCall (fun f => (I.ds.lookup f).map DI.fd) (fun c => (I.cs[c]?).map (·.2)) srt wf I.whF (n + 1) f [.v (.lst (ns.map D.int))] [] = .ok (.v (.bl true)) h') :
    PySem.W.WalkO q loose XP (I.hook m).says l.row.toRowW d [] (fun f vs => PySem.call f vs) := by
  refine Att.attach_call hn hdf fun w s0 s1 mg mb fa o pm cd doc a vs ns G Y ho hd hcd hmg hobj hints hlen hg => ?_
  obtain ⟨K, KX, e⟩ := Y
  have e1 : (noLst K && (I.cs.all (fun c => cB K c.1 c.2) && I.clsB K)) = true := congrArg (fun z : AlG => z.1) e
  have nl := (Bool.and_eq_true_iff.mp e1).1
  let B : Heap → Base := fun base => I.base l.prog w K mg base (fun _ => none) srt wf
  have BO : ∀ base, BaseOk (B base) := fun base => I.ok KX G.T.g e hds hwo
  obtain ⟨⟨fd, F⟩, hgl⟩ := I.defd KX G.T.g e hf
  have efa : fa = He.ga K dl.x := by
    rw [hx] at hgl
    have := hmg.symm.trans hgl
    cases this
    rw [hx]
  subst efa
  obtain ⟨jl, hjl⟩ := lookup_at hf
  have k := List.all_eq_true.mp hds (f, dl) (List.mem_of_getElem? hjl)
  have kk : dl.ok I.T = true := k
  unfold DI.ok at k
  simp only [Bool.and_eq_true, decide_eq_true_eq] at k
  obtain ⟨k1, k2, k3, k4⟩ := k
  have sc := scB_ok k1
  have hb := FunD.bindsA (ps := dl.N.take dl.p) F fun kV doc pm an cdv ct us hl => bind_plain k2 rfl (sc.nd.sublist (List.take_sublist _ _)) hl
  have ft : ∀ base : Heap, FnOk l.prog w K mg base (L2.CX l.prog w) (n + 1) (He.ga K dl.x) fd [x] (spF ((B base).at (n + 1)) f) := fun base => by
    have D := HI.defOk (P := l.prog) (w := w) (base := base) (cl := fun _ => none) (srt := srt) (wf := wf) hf F hgl kk
    have S := fn_step D (stat_ok (BO base) n)
    rw [hp] at S
    exact S
  obtain ⟨h', hc'⟩ := hc ns hlen
  have X := law_call (CX := L2.CX l.prog w) (sp := spF ((B s1.heap).at (n + 1)) f) KX G.T.g G.T.b G.T.builtins G.T.nolimit hg hobj hints (Nat.le_trans hlen (by decide)) hr (fun base _ _ => ft base) (fun s u => by have := hb s [u]; rw [hp] at this; exact this rfl) (fun H _ hS => law_sp nl hS hc') fun H e s' z => by
    obtain ⟨_, _, _, _, _, _, _, _, _, _, _, _, z⟩ := z
    exact z
  exact X
theorem lookup_snd {β γ : Type} {g : β → γ} {f : Nat} : ∀ {l : List (Nat × β)}, (l.lookup f).map g = (l.map fun p => (p.1, g p.2)).lookup f
  | [] => rfl
  | (a, b) :: l => by
    simp only [List.map_cons, List.lookup_cons]
    cases f == a with
    | true => rfl
    | false => exact lookup_snd
theorem HI.pt {I : HI} {fds : List (Nat × FD)} (h : (I.ds.map fun p => (p.1, p.2.fd)) = fds) : (fun f => (I.ds.lookup f).map DI.fd) = fun f => fds.lookup f := by
  funext f
  rw [lookup_snd, h]
end GV
set_option Elab.async false
set_option linter.all false
set_option maxRecDepth 100000
set_option maxHeartbeats 4000000
/-! GV21: tools for evaluating. -/
namespace GV
open PySem L2
structure Pg where
  Pt : Nat → Option FD
  gc : Nat → Option D
  srt : List D → Option (List D)
  wf : Nat
  wh : Nat → Option D
@[irreducible] noncomputable def Pg.c (p : Pg) (n f : Nat) (args : List Sl) (h : MH) : O R := evCall p.Pt p.gc p.srt p.wf p.wh n f args h
theorem Pg.c_def (p : Pg) (n f : Nat) (args : List Sl) (h : MH) : p.c n f args h = evCall p.Pt p.gc p.srt p.wf p.wh n f args h := by unfold Pg.c; rfl
noncomputable def Pg.G (p : Pg) (n : Nat) : Cfg := ⟨p.c n, p.gc, p.srt, p.wf, whAt p.wh n⟩
@[simp] theorem Pg.G_cf (p : Pg) (n : Nat) : (p.G n).cf = p.c n := rfl
@[simp] theorem Pg.G_gc (p : Pg) (n : Nat) : (p.G n).gc = p.gc := rfl
@[simp] theorem Pg.G_wf (p : Pg) (n : Nat) : (p.G n).wf = p.wf := rfl
@[simp] theorem Pg.G_srt (p : Pg) (n : Nat) : (p.G n).srt = p.srt := rfl
theorem Pg.call {p : Pg} {f : Nat} {d : FD} (e : p.Pt f = some d) {n : Nat} {args : List Sl} {h : MH} (hl : args.length = d.p) : p.c (n + 1) f args h = finish h.length (evB (p.G n) d.body (startS d.n args) h) := by
  rw [Pg.c_def, evCall, e]
  simp only [hl, if_true]
  have : (⟨evCall p.Pt p.gc p.srt p.wf p.wh n, p.gc, p.srt, p.wf, whAt p.wh n⟩ : Cfg) = p.G n := by
    unfold Pg.G
    congr 1
    funext f args h
    rw [Pg.c_def]
  rw [this]
@[simp] theorem fin_rt (n : Nat) (r : R) (h : MH) (e : h.length = n) : finish n (.ok (.rt r) h) = .ok r h := by simp [finish, e]
@[simp] theorem fin_nx (n : Nat) (s : SS) (h : MH) (e : h.length = n) : finish n (.ok (.nx s) h) = .ok (.v .non) h := by simp [finish, e]
def O.wp {α : Type} (o : O α) (Q : α → MH → Prop) : Prop := match o with
  | .ok a h => Q a h
  | _ => False
section
variable {α β : Type} {o : O α} {Q Q' : α → MH → Prop} {h : MH}
@[simp] theorem O.wp_ok (a : α) : (O.ok a h).wp Q = Q a h := rfl
@[simp] theorem O.wp_no : (O.no : O α).wp Q = False := rfl
@[simp] theorem O.wp_ex (c : Nat) : (O.ex c h : O α).wp Q = False := rfl
@[simp] theorem O.wp_bind {k : α → MH → O β} {Q : β → MH → Prop} : (o.bind k).wp Q = o.wp fun a h => (k a h).wp Q := by cases o <;> rfl
theorem O.wp_iff : o.wp Q ↔ ∃ a h, o = .ok a h ∧ Q a h := by
  cases o with
  | ok a h => exact ⟨fun z => ⟨a, h, rfl, z⟩, fun ⟨_, _, e, z⟩ => by cases e; exact z⟩
  | ex c h => exact ⟨fun z => z.elim, fun ⟨_, _, e, _⟩ => by cases e⟩
  | no => exact ⟨fun z => z.elim, fun ⟨_, _, e, _⟩ => by cases e⟩
theorem O.wp_mono (z : o.wp Q) (m : ∀ a h, Q a h → Q' a h) : o.wp Q' := by
  cases o with
  | ok a h => exact m a h z
  | ex c h => exact z
  | no => exact z
theorem O.wp_eq {a : α} (e : o = .ok a h) (z : Q a h) : o.wp Q := by rw [e]; exact z
end
/-! ### loops, comprehensions -/
theorem evItems_map {f : D → MH → O (Option D)} {g : D → D} {h : MH} : ∀ {ds acc : List D}, (∀ d ∈ ds, f d h = .ok (some (g d)) h) → acc.length + ds.length ≤ 1000000 → evItems f ds acc h = .ok (acc ++ ds.map g) h
  | [], acc, _, _ => by simp [evItems]
  | d :: ds, acc, e, hl => by
    simp only [List.length_cons] at hl
    rw [evItems, e d (by simp)]
    simp only
    rw [if_pos (by unfold small; exact decide_eq_true (by omega)), evItems_map (fun d hd => e d (by simp [hd])) (by simp; omega)]
    simp
theorem evItems_filter {f : D → MH → O (Option D)} {g : D → Option D} {h : MH} : ∀ {ds acc : List D}, (∀ d ∈ ds, f d h = .ok (g d) h) → acc.length + ds.length ≤ 1000000 → evItems f ds acc h = .ok (acc ++ ds.filterMap g) h
  | [], acc, _, _ => by simp [evItems]
  | d :: ds, acc, e, hl => by
    simp only [List.length_cons] at hl
    rw [evItems, e d (by simp)]
    cases q : g d with
    | none =>
      simp only
      rw [evItems_filter (fun d hd => e d (by simp [hd])) (by omega)]
      simp [List.filterMap_cons, q]
    | some y =>
      simp only
      rw [if_pos (by unfold small; exact decide_eq_true (by omega)), evItems_filter (fun d hd => e d (by simp [hd])) (by simp; omega)]
      simp [List.filterMap_cons, q]
/-- a comprehension that changes the heap: J relates what is done, what is built, the heap -/
theorem evItems_inv {f : D → MH → O (Option D)} {J : List D → MH → Prop} {Q : List D → MH → Prop} : ∀ {ds acc : List D} {h : MH}, J acc h → (∀ d ∈ ds, ∀ acc h, J acc h → (f d h).wp fun r h' => ∃ y, r = some y ∧ J (acc ++ [y]) h') → acc.length + ds.length ≤ 1000000 →
    (∀ ys h', ys.length = ds.length → J (acc ++ ys) h' → Q (acc ++ ys) h') → (evItems f ds acc h).wp Q
  | [], acc, h, j, _, _, q => by have := q [] h rfl (by simpa using j); simpa [evItems] using this
  | d :: ds, acc, h, j, e, hl, q => by
    simp only [List.length_cons] at hl
    rw [evItems]
    obtain ⟨r, h1, e1, y, rfl, j1⟩ := O.wp_iff.mp (e d (by simp) acc h j)
    rw [e1]
    simp only
    rw [if_pos (by unfold small; exact decide_eq_true (by omega))]
    refine evItems_inv (J := J) j1 (fun d hd => e d (by simp [hd])) (by simp; omega) fun ys h' hy jy => ?_
    have := q (y :: ys) h' (by simp [hy]) (by simpa using jy)
    simpa using this
theorem evFor_inv {body : SS → MH → O Fl} {t : Tg} {Q : Fl → MH → Prop} (J : Nat → SS → MH → Prop) {ds : List D} {ss : SS} {h : MH} (j0 : J 0 ss h)
    (st : ∀ i d, ds[i]? = some d → ∀ ss h, J i ss h → ∃ ss1, asgT t d ss = some ss1 ∧ (body ss1 h).wp fun f h' => match f with
      | .nx ss2 => J (i + 1) ss2 h'
      | .rt r => Q (.rt r) h')
    (q : ∀ ss h, J ds.length ss h → Q (.nx ss) h) : (evFor body t ds ss h).wp Q := by
  induction ds generalizing J ss h with
  | nil => exact q ss h j0
  | cons d ds ih =>
    obtain ⟨ss1, e1, w⟩ := st 0 d rfl ss h j0
    obtain ⟨f, h1, e2, z⟩ := O.wp_iff.mp w
    rw [evFor, e1]
    simp only [O.of_some, O.bind_ok, e2]
    cases f with
    | rt r => exact z
    | nx ss2 => exact ih (fun i => J (i + 1)) z (fun i d hi => st (i + 1) d (by simpa using hi)) q
end GV
set_option Elab.async false
set_option linter.all false
set_option maxRecDepth 100000
set_option maxHeartbeats 4000000
/-! GV22: rules for evaluating, goal by goal. -/
namespace GV
open PySem L2
theorem O.eq_of {α : Type} {o : O α} {a : α} {h : MH} (q : o.wp fun b h' => b = a ∧ h' = h) : o = .ok a h := by
  obtain ⟨b, h', e, rfl, rfl⟩ := O.wp_iff.mp q
  exact e
def BinW (o : BOp) (x y : R) (Q : R → Prop) : Prop := ∃ z, binR o x y = some z ∧ Q z
def CmpW (o : COp) (x y : R) (Q : Bool → Prop) : Prop := ∃ z, cmpR o x y = some z ∧ Q z
def BlW (x : R) (Q : Bool → Prop) : Prop := ∃ t, blE x = some t ∧ Q t
def IfW (t : Bool) (a b : Prop) : Prop := (t = true → a) ∧ (t = false → b)
def BiW (srt : List D → Option (List D)) (f : Bi) (rs : List R) (h : MH) (Q : R → Prop) : Prop := ∃ r, biR srt f rs h = some r ∧ Q r
def ItW (k : IK) (rs : List R) (Q : List D → Prop) : Prop := ∃ ds, itemsR k rs = some ds ∧ Q ds
def FlW (Q : SS → MH → Prop) (E : R → MH → Prop) (f : Fl) (h : MH) : Prop := match f with
  | .nx ss => Q ss h
  | .rt r => E r h
def O.wpX {α : Type} (X : Nat → MH → Prop) (o : O α) (Q : α → MH → Prop) : Prop := match o with
  | .ok a h => Q a h
  | .ex c h => X c h
  | .no => False
abbrev NX : Nat → MH → Prop := fun _ _ => False
section
variable {α β : Type} {X X' : Nat → MH → Prop} {o : O α} {Q Q' : α → MH → Prop} {h : MH}
@[simp] theorem O.wpX_ok (a : α) : (O.ok a h).wpX X Q = Q a h := rfl
@[simp] theorem O.wpX_no : (O.no : O α).wpX X Q = False := rfl
@[simp] theorem O.wpX_ex (c : Nat) : (O.ex c h : O α).wpX X Q = X c h := rfl
@[simp] theorem O.wpX_bind {k : α → MH → O β} {Q : β → MH → Prop} : (o.bind k).wpX X Q = o.wpX X fun a h => (k a h).wpX X Q := by cases o <;> rfl
theorem O.wpX_mono (z : o.wpX X Q) (m : ∀ a h, Q a h → Q' a h) : o.wpX X Q' := by
  cases o with
  | ok a h => exact m a h z
  | ex c h => exact z
  | no => exact z
theorem O.wpX_of (z : o.wp Q) : o.wpX X Q := by
  cases o with
  | ok a h => exact z
  | ex c h => exact z.elim
  | no => exact z
theorem O.wp_nx (z : o.wpX (fun _ _ => False) Q) : o.wp Q := by
  cases o with
  | ok a h => exact z
  | ex c h => exact z.elim
  | no => exact z
theorem O.wpX_iff (z : o.wpX X Q) : (∃ a h, o = .ok a h ∧ Q a h) ∨ ∃ c h, o = .ex c h ∧ X c h := by
  cases o with
  | ok a h => exact .inl ⟨a, h, rfl, z⟩
  | ex c h => exact .inr ⟨c, h, rfl, z⟩
  | no => exact z.elim
theorem O.wpX_exc {c : Nat} (e : o = .ex c h) (z : X c h) : o.wpX X Q := by rw [e]; exact z
end
@[irreducible] def xE (G : Cfg) (X : Nat → MH → Prop) (e : E) (ss : SS) (h : MH) (Q : R → MH → Prop) : Prop := (evE G e ss h).wpX X Q
@[irreducible] def xL (G : Cfg) (X : Nat → MH → Prop) (e : List E) (ss : SS) (h : MH) (Q : List R → MH → Prop) : Prop := (evL G e ss h).wpX X Q
@[irreducible] def xO (G : Cfg) (X : Nat → MH → Prop) (e : Option E) (ss : SS) (h : MH) (Q : Option Int → MH → Prop) : Prop := (evO G e ss h).wpX X Q
@[irreducible] def xB (G : Cfg) (X : Nat → MH → Prop) (e : List S) (ss : SS) (h : MH) (Q : Fl → MH → Prop) : Prop := (evB G e ss h).wpX X Q
theorem xE_def (G : Cfg) (X : Nat → MH → Prop) (e : E) (ss : SS) (h : MH) (Q : R → MH → Prop) : xE G X e ss h Q = (evE G e ss h).wpX X Q := by unfold xE; rfl
theorem xL_def (G : Cfg) (X : Nat → MH → Prop) (e : List E) (ss : SS) (h : MH) (Q : List R → MH → Prop) : xL G X e ss h Q = (evL G e ss h).wpX X Q := by unfold xL; rfl
theorem xO_def (G : Cfg) (X : Nat → MH → Prop) (e : Option E) (ss : SS) (h : MH) (Q : Option Int → MH → Prop) : xO G X e ss h Q = (evO G e ss h).wpX X Q := by unfold xO; rfl
theorem xB_def (G : Cfg) (X : Nat → MH → Prop) (e : List S) (ss : SS) (h : MH) (Q : Fl → MH → Prop) : xB G X e ss h Q = (evB G e ss h).wpX X Q := by unfold xB; rfl
@[irreducible] def xF (G : Cfg) (X : Nat → MH → Prop) (b : List S) (t : Tg) (ds : List D) (ss : SS) (h : MH) (Q : Fl → MH → Prop) : Prop := (evFor (evB G b) t ds ss h).wpX X Q
theorem xF_def (G : Cfg) (X : Nat → MH → Prop) (b : List S) (t : Tg) (ds : List D) (ss : SS) (h : MH) (Q : Fl → MH → Prop) : xF G X b t ds ss h Q = (evFor (evB G b) t ds ss h).wpX X Q := by unfold xF; rfl
@[irreducible] def xC (G : Cfg) (X : Nat → MH → Prop) (ss : SS) (t : Tg) (own : List Nat) (ifs : List E) (e : E) (ds : List D) (h : MH) (Q : List D → MH → Prop) : Prop := (evItems (fun d h => match asgT t d (wipeS ss own) with
        | none => .no
        | some ss1 => (evT G ifs ss1 h).bind fun b h => match b with
          | true => (evE G e ss1 h).bind fun r h => O.of h (r.toD.map some)
          | false => .ok none h) ds [] h).wpX X Q
theorem xC_def (G : Cfg) (X : Nat → MH → Prop) (ss : SS) (t : Tg) (own : List Nat) (ifs : List E) (e : E) (ds : List D) (h : MH) (Q : List D → MH → Prop) : xC G X ss t own ifs e ds h Q = (evItems (fun d h => match asgT t d (wipeS ss own) with
        | none => .no
        | some ss1 => (evT G ifs ss1 h).bind fun b h => match b with
          | true => (evE G e ss1 h).bind fun r h => O.of h (r.toD.map some)
          | false => .ok none h) ds [] h).wpX X Q := by unfold xC; rfl
section
variable {G : Cfg} {X : Nat → MH → Prop} {ss : SS} {h : MH} {Q : R → MH → Prop}
theorem w_non (q : Q (.v .non) h) : xE G X .non ss h Q := by rw [xE_def, evE]; exact q
theorem w_bl {b : Bool} (q : Q (.v (.bl b)) h) : xE G X (.bl b) ss h Q := by rw [xE_def, evE]; exact q
theorem w_int {i : Int} (q : Q (.v (.int i)) h) : xE G X (.int i) ss h Q := by rw [xE_def, evE]; exact q
theorem w_str {x : Str} (q : Q (.v (.str x)) h) : xE G X (.str x) ss h Q := by rw [xE_def, evE]; exact q
theorem w_v {j : Nat} {r : R} (e : readV ss j = some r) (q : Q r h) : xE G X (.v j) ss h Q := by rw [xE_def, evE, e]; exact q
theorem w_g {c : Nat} {d : D} (e : G.gc c = some d) (q : Q (.v d) h) : xE G X (.g c) ss h Q := by rw [xE_def, evE, e]; exact q
theorem w_bin {o : BOp} {a b : E} (q : xE G X a ss h fun x h => xE G X b ss h fun y h => BinW o x y fun z => Q z h) : xE G X (.bin o a b) ss h Q := by
  simp only [xE_def, xL_def, xO_def, xB_def] at *
  rw [evE]
  simp only [O.wpX_bind]
  refine O.wpX_mono q fun x h q => O.wpX_mono q fun y h q => ?_
  obtain ⟨z, e, q⟩ := q
  rw [e]; exact q
theorem w_neg {a : E} (q : xE G X a ss h fun x h => ∃ i, x = .v (.int i) ∧ Q (.v (.int (-i))) h) : xE G X (.neg a) ss h Q := by
  simp only [xE_def, xL_def, xO_def, xB_def] at *
  rw [evE]
  simp only [O.wpX_bind]
  refine O.wpX_mono q fun x h q => ?_
  obtain ⟨i, rfl, q⟩ := q
  exact q
theorem w_cmp {o : COp} {a b : E} (q : xE G X a ss h fun x h => xE G X b ss h fun y h => CmpW o x y fun z => Q (.v (.bl z)) h) : xE G X (.cmp o a b) ss h Q := by
  simp only [xE_def, xL_def, xO_def, xB_def] at *
  rw [evE]
  simp only [O.wpX_bind]
  refine O.wpX_mono q fun x h q => O.wpX_mono q fun y h q => ?_
  obtain ⟨z, e, q⟩ := q
  rw [e]; exact q
theorem w_chn {o o' : COp} {a b c : E} (q : xE G X a ss h fun x h => xE G X b ss h fun y h => CmpW o x y fun t => IfW t (xE G X c ss h fun z h => CmpW o' y z fun t => Q (.v (.bl t)) h) (Q (.v (.bl false)) h)) : xE G X (.chn o o' a b c) ss h Q := by
  simp only [xE_def, xL_def, xO_def, xB_def] at *
  rw [evE]
  simp only [O.wpX_bind]
  refine O.wpX_mono q fun x h q => O.wpX_mono q fun y h q => ?_
  obtain ⟨t, e, q1, q2⟩ := q
  rw [e]
  cases t with
  | true =>
    simp only [O.of_some, O.wpX_ok, O.wpX_bind]
    refine O.wpX_mono (q1 rfl) fun z h q => ?_
    obtain ⟨t, e, q⟩ := q
    rw [e]; exact q
  | false => exact q2 rfl
theorem w_and {a b : E} (q : xE G X a ss h fun x h => BlW x fun t => IfW t (xE G X b ss h Q) (Q (.v (.bl false)) h)) : xE G X (.and a b) ss h Q := by
  simp only [xE_def, xL_def, xO_def, xB_def] at *
  rw [evE]
  simp only [O.wpX_bind]
  refine O.wpX_mono q fun x h q => ?_
  obtain ⟨t, e, q1, q2⟩ := q
  rw [e]
  cases t with
  | true => exact q1 rfl
  | false => exact q2 rfl
theorem w_or {a b : E} (q : xE G X a ss h fun x h => BlW x fun t => IfW t (Q (.v (.bl true)) h) (xE G X b ss h Q)) : xE G X (.or a b) ss h Q := by
  simp only [xE_def, xL_def, xO_def, xB_def] at *
  rw [evE]
  simp only [O.wpX_bind]
  refine O.wpX_mono q fun x h q => ?_
  obtain ⟨t, e, q1, q2⟩ := q
  rw [e]
  cases t with
  | true => exact q1 rfl
  | false => exact q2 rfl
theorem w_not {a : E} (q : xE G X a ss h fun x h => BlW x fun t => Q (.v (.bl (!t))) h) : xE G X (.not a) ss h Q := by
  simp only [xE_def, xL_def, xO_def, xB_def] at *
  rw [evE]
  simp only [O.wpX_bind]
  refine O.wpX_mono q fun x h q => ?_
  obtain ⟨t, e, q⟩ := q
  rw [e]; exact q
theorem w_ite {c a b : E} (q : xE G X c ss h fun x h => BlW x fun t => IfW t (xE G X a ss h Q) (xE G X b ss h Q)) : xE G X (.ite c a b) ss h Q := by
  simp only [xE_def, xL_def, xO_def, xB_def] at *
  rw [evE]
  simp only [O.wpX_bind]
  refine O.wpX_mono q fun x h q => ?_
  obtain ⟨t, e, q1, q2⟩ := q
  rw [e]
  cases t with
  | true => exact q1 rfl
  | false => exact q2 rfl
theorem w_tup {es : List E} (q : xL G X es ss h fun rs h => ∃ ds, toDs rs = some ds ∧ small ds.length = true ∧ Q (.v (.tup ds)) h) : xE G X (.tup es) ss h Q := by
  simp only [xE_def, xL_def, xO_def, xB_def] at *
  rw [evE]
  simp only [O.wpX_bind]
  refine O.wpX_mono q fun x h q => ?_
  obtain ⟨t, e, e2, q⟩ := q
  rw [e]
  simp only [Option.bind_some, e2, if_true]
  exact q
theorem w_lst {es : List E} (q : xL G X es ss h fun rs h => ∃ ds, toDs rs = some ds ∧ small ds.length = true ∧ Q (.nl ds) h) : xE G X (.lst es) ss h Q := by
  simp only [xE_def, xL_def, xO_def, xB_def] at *
  rw [evE]
  simp only [O.wpX_bind]
  refine O.wpX_mono q fun x h q => ?_
  obtain ⟨t, e, e2, q⟩ := q
  rw [e]
  simp only [Option.bind_some, e2, if_true]
  exact q
theorem w_ix {a i : E} (q : xE G X a ss h fun x h => xE G X i ss h fun y h => ∃ xs k d, x.rd.seq = some xs ∧ y = .v (.int k) ∧ atD xs k = some d ∧ Q (.v d) h) : xE G X (.ix a i) ss h Q := by
  simp only [xE_def, xL_def, xO_def, xB_def] at *
  rw [evE]
  simp only [O.wpX_bind]
  refine O.wpX_mono q fun x h q => O.wpX_mono q fun y h q => ?_
  obtain ⟨xs, k, d, e1, rfl, e2, q⟩ := q
  simp only [e1, Option.bind_some, e2]
  exact q
def SlW (x : R) (l u : Option Int) (Q : R → Prop) : Prop := match x.rd with
  | .lst xs => Q (.nl (cutD xs l u))
  | .tup xs => Q (.v (.tup (cutD xs l u)))
  | _ => False
theorem w_sl {a : E} {lo hi : Option E} (q : xE G X a ss h fun x h => xO G X lo ss h fun l h => xO G X hi ss h fun u h => SlW x l u fun r => Q r h) : xE G X (.sl a lo hi) ss h Q := by
  simp only [xE_def, xL_def, xO_def, xB_def] at *
  rw [evE]
  simp only [O.wpX_bind]
  refine O.wpX_mono q fun x h q => O.wpX_mono q fun l h q => O.wpX_mono q fun u h q => ?_
  unfold SlW at q
  generalize x.rd = y at q ⊢
  cases y <;> first | exact q | exact q.elim
theorem w_onone {Q : Option Int → MH → Prop} (q : Q none h) : xO G X none ss h Q := by rw [xO_def, evO]; exact q
theorem w_osome {e : E} {Q : Option Int → MH → Prop} (q : xE G X e ss h fun r h => ∃ i, r = .v (.int i) ∧ Q (some i) h) : xO G X (some e) ss h Q := by
  simp only [xE_def, xL_def, xO_def, xB_def] at *
  rw [evO]
  simp only [O.wpX_bind]
  refine O.wpX_mono q fun r h q => ?_
  obtain ⟨i, rfl, q⟩ := q
  exact q
theorem w_callX {f : Nat} {es : List E} (q : xL G X es ss h fun rs h => (G.cf f (rs.map R.arg) h).wpX X Q) : xE G X (.call f es) ss h Q := by
  simp only [xE_def, xL_def, xO_def, xB_def] at *
  rw [evE]
  simp only [O.wpX_bind]
  exact q
theorem w_call {f : Nat} {es : List E} (q : xL G X es ss h fun rs h => (G.cf f (rs.map R.arg) h).wp Q) : xE G X (.call f es) ss h Q := by
  simp only [xE_def, xL_def, xO_def, xB_def] at *
  rw [evE]
  simp only [O.wpX_bind]
  exact O.wpX_mono q fun rs h q => O.wpX_of q
theorem w_bi {f : Bi} {es : List E} (q : xL G X es ss h fun rs h => BiW G.srt f rs h fun r => Q r h) : xE G X (.bi f es) ss h Q := by
  simp only [xE_def, xL_def, xO_def, xB_def] at *
  rw [evE]
  simp only [O.wpX_bind]
  refine O.wpX_mono q fun rs h q => ?_
  obtain ⟨r, e, q⟩ := q
  rw [e]; exact q
theorem w_isi {a : E} {t : Ty} (q : xE G X a ss h fun x h => x.rd.noObj = true ∧ Q (.v (.bl (tyD t x.rd))) h) : xE G X (.isi a t) ss h Q := by
  simp only [xE_def, xL_def, xO_def, xB_def] at *
  rw [evE]
  simp only [O.wpX_bind]
  refine O.wpX_mono q fun x h q => ?_
  rw [if_pos q.1]; exact q.2
theorem w_comp {k : IK} {src : List E} {t : Tg} {own : List Nat} {ifs : List E} {e : E} (q : xL G X src ss h fun rs h => ItW k rs fun ds => xC G X ss t own ifs e ds h fun xs h => Q (.nl xs) h) : xE G X (.comp k src t own ifs e) ss h Q := by
  simp only [xE_def, xL_def, xC_def] at *
  rw [evE]
  simp only [O.wpX_bind]
  refine O.wpX_mono q fun rs h q => ?_
  obtain ⟨ds, e1, q⟩ := q
  rw [e1]
  exact q
theorem w_nil {Q : List R → MH → Prop} (q : Q [] h) : xL G X [] ss h Q := by rw [xL_def, evL]; exact q
theorem w_cons {e : E} {es : List E} {Q : List R → MH → Prop} (q : xE G X e ss h fun r h => xL G X es ss h fun rs h => Q (r :: rs) h) : xL G X (e :: es) ss h Q := by
  simp only [xE_def, xL_def, xO_def, xB_def] at *
  rw [evL]
  simp only [O.wpX_bind]
  exact q
/-- one turn of a comprehension without a test -/
theorem w_turn {t : Tg} {e : E} {d : D} {ss1 : SS} {Q : Option D → MH → Prop} (e1 : asgT t d ss = some ss1) (q : xE G NX e ss1 h fun r h => ∃ y, r.toD = some y ∧ Q (some y) h) :
    O.wp (match asgT t d ss with
        | none => .no
        | some ss1 => (evT G [] ss1 h).bind fun b h => match b with
          | true => (evE G e ss1 h).bind fun r h => O.of h (r.toD.map some)
          | false => .ok none h) Q := by
  simp only [xE_def, xL_def, xO_def, xB_def] at *
  rw [e1]
  simp only [evT, O.bind_ok, O.wp_bind]
  refine O.wp_mono (O.wp_nx q) fun r h q => ?_
  obtain ⟨y, e2, q⟩ := q
  rw [e2]; exact q
/-- .. with a test -/
theorem w_turnT {t : Tg} {e c : E} {d : D} {ss1 : SS} {Q : Option D → MH → Prop} (e1 : asgT t d ss = some ss1) (q : xE G NX c ss1 h fun x h => BlW x fun b => IfW b (xE G NX e ss1 h fun r h => ∃ y, r.toD = some y ∧ Q (some y) h) (Q none h)) :
    O.wp (match asgT t d ss with
        | none => .no
        | some ss1 => (evT G [c] ss1 h).bind fun b h => match b with
          | true => (evE G e ss1 h).bind fun r h => O.of h (r.toD.map some)
          | false => .ok none h) Q := by
  simp only [xE_def, xL_def, xO_def, xB_def] at *
  rw [e1]
  simp only [evT, O.wp_bind]
  refine O.wp_mono (O.wp_nx q) fun x h q => ?_
  obtain ⟨b, e2, q1, q2⟩ := q
  rw [e2]
  cases b with
  | true =>
    simp only [O.of_some, O.wp_ok, O.wp_bind]
    refine O.wp_mono (O.wp_nx (q1 rfl)) fun r h q => ?_
    obtain ⟨y, e3, q⟩ := q
    rw [e3]; exact q
  | false => exact q2 rfl
end
section
variable {G : Cfg} {X : Nat → MH → Prop} {ss : SS} {h : MH} {t : Tg} {own : List Nat} {e c : E} {ds : List D} {Q : List D → MH → Prop}
/-- a comprehension that leaves the heap alone -/
theorem c_pure (g : D → D) (hs : ∀ d ∈ ds, ∃ ss1, asgT t d (wipeS ss own) = some ss1 ∧ xE G NX e ss1 h fun r h' => r.toD = some (g d) ∧ h' = h) (hl : ds.length ≤ 1000000) (q : Q (ds.map g) h) : xC G X ss t own [] e ds h Q := by
  rw [xC_def, evItems_map (g := g) (fun d hd => ?_) (by simpa using hl)]
  · simpa using q
  · obtain ⟨ss1, e1, w⟩ := hs d hd
    refine O.eq_of (w_turn e1 ?_)
    simp only [xE_def] at *
    exact O.wpX_mono w fun r h' ⟨a, b⟩ => ⟨_, a, rfl, b⟩
theorem c_test (g : D → D) (f : D → Bool) (hs : ∀ d ∈ ds, ∃ ss1, asgT t d (wipeS ss own) = some ss1 ∧ xE G NX c ss1 h fun r h' => r = .v (.bl (f d)) ∧ h' = h ∧ (f d = true → xE G NX e ss1 h fun r h' => r.toD = some (g d) ∧ h' = h)) (hl : ds.length ≤ 1000000) (q : Q ((ds.filter f).map g) h) : xC G X ss t own [c] e ds h Q := by
  rw [xC_def, evItems_filter (g := fun d => if f d then some (g d) else none) (fun d hd => ?_) (by simpa using hl)]
  · have z : ∀ ds : List D, ds.filterMap (fun d => if f d then some (g d) else none) = (ds.filter f).map g := fun ds => by
      induction ds with
      | nil => rfl
      | cons d ds ih => by_cases z : f d = true <;> simp [List.filterMap_cons, List.filter_cons, z, ih]
    simpa [z] using q
  · obtain ⟨ss1, e1, w⟩ := hs d hd
    refine O.eq_of (w_turnT e1 ?_)
    simp only [xE_def] at *
    refine O.wpX_mono w fun r h' z => ?_
    obtain ⟨rfl, rfl, z⟩ := z
    refine ⟨f d, rfl, fun y => ?_, fun y => ?_⟩
    · refine O.wpX_mono (z y) fun r h' ⟨a, b⟩ => ⟨_, a, by simp [y], b⟩
    · simp [y]
theorem c_inv {J : List D → MH → Prop} (j0 : J [] h) (hs : ∀ d ∈ ds, ∀ acc h, acc.length < ds.length → J acc h → ∃ ss1, asgT t d (wipeS ss own) = some ss1 ∧ xE G NX e ss1 h fun r h' => ∃ y, r.toD = some y ∧ J (acc ++ [y]) h') (hl : ds.length ≤ 1000000) (q : ∀ ys h, ys.length = ds.length → J ys h → Q ys h) : xC G X ss t own [] e ds h Q := by
  rw [xC_def]
  have main : ∀ (l acc : List D) (h : MH), (∀ d ∈ l, d ∈ ds) → acc.length + l.length = ds.length → J acc h → O.wp (evItems (fun d h => match asgT t d (wipeS ss own) with
        | none => .no
        | some ss1 => (evT G [] ss1 h).bind fun b h => match b with
          | true => (evE G e ss1 h).bind fun r h => O.of h (r.toD.map some)
          | false => .ok none h) l acc h) Q := by
    intro l
    induction l with
    | nil => intro acc h _ ha j; exact q acc h (by simpa using ha) j
    | cons d l ih =>
      intro acc h hm ha j
      simp only [List.length_cons] at ha
      obtain ⟨ss1, e1, w⟩ := hs d (hm d (by simp)) acc h (by omega) j
      have w2 := w_turn (Q := fun r h' => ∃ y, r = some y ∧ J (acc ++ [y]) h') (t := t) (d := d) e1 (by
        simp only [xE_def] at *
        exact O.wpX_mono w fun r h' ⟨y, a, b⟩ => ⟨y, a, y, rfl, b⟩)
      obtain ⟨r, h1, e2, y, rfl, j1⟩ := O.wp_iff.mp w2
      rw [evItems, e2]
      simp only
      rw [if_pos (by unfold small; exact decide_eq_true (by omega))]
      exact ih (acc ++ [y]) h1 (fun d hd => hm d (by simp [hd])) (by simp; omega) j1
  exact O.wpX_of (main ds [] h (fun d hd => hd) (by simp) j0)
theorem c_invI {J : List D → MH → Prop} (j0 : J [] h) (hs : ∀ d acc h, ds[acc.length]? = some d → J acc h → ∃ ss1, asgT t d (wipeS ss own) = some ss1 ∧ xE G NX e ss1 h fun r h' => ∃ y, r.toD = some y ∧ J (acc ++ [y]) h') (hl : ds.length ≤ 1000000) (q : ∀ ys h, ys.length = ds.length → J ys h → Q ys h) : xC G X ss t own [] e ds h Q := by
  rw [xC_def]
  have main : ∀ (l acc : List D) (h : MH), ds.drop acc.length = l → acc.length + l.length = ds.length → J acc h → O.wp (evItems (fun d h => match asgT t d (wipeS ss own) with
        | none => .no
        | some ss1 => (evT G [] ss1 h).bind fun b h => match b with
          | true => (evE G e ss1 h).bind fun r h => O.of h (r.toD.map some)
          | false => .ok none h) l acc h) Q := by
    intro l
    induction l with
    | nil => intro acc h _ ha j; exact q acc h (by simpa using ha) j
    | cons d l ih =>
      intro acc h hm ha j
      simp only [List.length_cons] at ha
      have hd : ds[acc.length]? = some d := by
        have : (ds.drop acc.length)[0]? = some d := by rw [hm]; rfl
        simpa using this
      have hl2 : ds.drop (acc.length + 1) = l := by
        have : (ds.drop acc.length).drop 1 = l := by rw [hm]; rfl
        simpa [List.drop_drop, Nat.add_comm] using this
      obtain ⟨ss1, e1, w⟩ := hs d acc h hd j
      have w2 := w_turn (Q := fun r h' => ∃ y, r = some y ∧ J (acc ++ [y]) h') (t := t) (d := d) e1 (by
        simp only [xE_def] at *
        exact O.wpX_mono w fun r h' ⟨y, a, b⟩ => ⟨y, a, y, rfl, b⟩)
      obtain ⟨r, h1, e2, y, rfl, j1⟩ := O.wp_iff.mp w2
      rw [evItems, e2]
      simp only
      rw [if_pos (by unfold small; exact decide_eq_true (by omega))]
      exact ih (acc ++ [y]) h1 (by simpa using hl2) (by simp; omega) j1
  exact O.wpX_of (main ds [] h rfl (by simp) j0)
end
/-! ### operators -/
section
variable {Q : R → Prop} {C : Bool → Prop} {i j : Int}
theorem bw_add (q : Q (.v (.int (i + j)))) : BinW .add (.v (.int i)) (.v (.int j)) Q := ⟨_, rfl, q⟩
theorem bw_sub (q : Q (.v (.int (i - j)))) : BinW .sub (.v (.int i)) (.v (.int j)) Q := ⟨_, rfl, q⟩
theorem bw_mul (e : mulOk i j = true) (q : Q (.v (.int (i * j)))) : BinW .mul (.v (.int i)) (.v (.int j)) Q := ⟨_, by simp [binR, binI, e], q⟩
theorem bw_fdiv (e : divOk j = true) (q : Q (.v (.int (i / j)))) : BinW .fdiv (.v (.int i)) (.v (.int j)) Q := ⟨_, by simp [binR, binI, e], q⟩
theorem bw_mod (e : 0 < j) (q : Q (.v (.int (i % j)))) : BinW .mod (.v (.int i)) (.v (.int j)) Q := ⟨_, by simp [binR, binI, e], q⟩
theorem bw_pow (e : powOk i j = true) (q : Q (.v (.int (i ^ j.toNat)))) : BinW .pow (.v (.int i)) (.v (.int j)) Q := ⟨_, by simp [binR, binI, e], q⟩
theorem bw_tadd {xs ys : List D} (e : small (xs.length + ys.length) = true) (q : Q (.v (.tup (xs ++ ys)))) : BinW .add (.v (.tup xs)) (.v (.tup ys)) Q := ⟨_, by simp [binR, e], q⟩
theorem cw_lt (q : C (decide (i < j))) : CmpW .lt (.v (.int i)) (.v (.int j)) C := ⟨_, rfl, q⟩
theorem cw_le (q : C (decide (i ≤ j))) : CmpW .le (.v (.int i)) (.v (.int j)) C := ⟨_, rfl, q⟩
theorem cw_gt (q : C (decide (j < i))) : CmpW .gt (.v (.int i)) (.v (.int j)) C := ⟨_, rfl, q⟩
theorem cw_ge (q : C (decide (j ≤ i))) : CmpW .ge (.v (.int i)) (.v (.int j)) C := ⟨_, rfl, q⟩
theorem beq_dec (i j : Int) : (i == j) = decide (i = j) := by
  by_cases q : i = j <;> simp [q]
theorem cw_eqI (q : C (decide (i = j))) : CmpW .eq (.v (.int i)) (.v (.int j)) C := ⟨decide (i = j), by simp [cmpR, R.rd, D.okN, D.eqb, beq_dec], q⟩
theorem cw_neI (q : C (!decide (i = j))) : CmpW .ne (.v (.int i)) (.v (.int j)) C := ⟨!decide (i = j), by simp [cmpR, R.rd, D.okN, D.eqb, beq_dec], q⟩
theorem cw_eq {x y : R} (e1 : x.rd.okN 60 = true) (e2 : y.rd.okN 60 = true) (q : C (D.eqb x.rd y.rd)) : CmpW .eq x y C := ⟨_, by simp only [cmpR, e1, e2, Bool.and_self, if_true], q⟩
theorem cw_ne {x y : R} (e1 : x.rd.okN 60 = true) (e2 : y.rd.okN 60 = true) (q : C (!D.eqb x.rd y.rd)) : CmpW .ne x y C := ⟨_, by simp only [cmpR, e1, e2, Bool.and_self, if_true], q⟩
theorem sl_t {xs : List D} {l u : Option Int} (q : Q (.v (.tup (cutD xs l u)))) : SlW (.v (.tup xs)) l u Q := q
theorem sl_l {xs : List D} {l u : Option Int} (q : Q (.nl (cutD xs l u))) : SlW (.v (.lst xs)) l u Q := q
theorem sl_n {xs : List D} {l u : Option Int} (q : Q (.nl (cutD xs l u))) : SlW (.nl xs) l u Q := q
theorem sl_b {xs : List D} {l u : Option Int} (q : Q (.nl (cutD xs l u))) : SlW (.bw xs) l u Q := q
theorem bl_w {b : Bool} (q : C b) : BlW (.v (.bl b)) C := ⟨b, rfl, q⟩
theorem if_t {a b : Prop} (q : a) : IfW true a b := ⟨fun _ => q, fun e => by cases e⟩
theorem if_s {t : Bool} {a b : Prop} (x : t = true → a) (y : t = false → b) : IfW t a b := ⟨x, y⟩
theorem if_f {a b : Prop} (q : b) : IfW false a b := ⟨fun e => (by cases e), fun _ => q⟩
end
theorem fl_rt {Q : SS → MH → Prop} {E : R → MH → Prop} {r : R} {h : MH} (q : E r h) : FlW Q E (.rt r) h := q
theorem fl_nx {Q : SS → MH → Prop} {E : R → MH → Prop} {ss : SS} {h : MH} (q : Q ss h) : FlW Q E (.nx ss) h := q
/-! ### blocks -/
section
variable {G : Cfg} {X : Nat → MH → Prop} {ss : SS} {h : MH} {r : List S} {Q : Fl → MH → Prop}
theorem b_nil (q : Q (.nx ss) h) : xB G X [] ss h Q := by rw [xB_def, evB]; exact q
theorem b_step {s : S} (q : (evS G s ss h).wpX X fun f h => match f with
    | .nx ss' => xB G X r ss' h Q
    | .rt x => Q (.rt x) h) : xB G X (s :: r) ss h Q := by
  simp only [xE_def, xL_def, xO_def, xB_def] at *
  rw [evB]
  simp only [O.wpX_bind]
  refine O.wpX_mono q fun f h q => ?_
  cases f <;> exact q
theorem b_asg {t : Tg} {e : E} (q : xE G X e ss h fun x h => ∃ d ss', x.toD = some d ∧ asgT t d ss = some ss' ∧ xB G X r ss' h Q) : xB G X (.asg t e :: r) ss h Q := by
  refine b_step ?_
  try simp only [xE_def, xL_def, xO_def, xB_def] at *
  rw [evS]
  simp only [O.wpX_bind]
  refine O.wpX_mono q fun x h q => ?_
  obtain ⟨d, ss', e1, e2, q⟩ := q
  simp only [e1, Option.bind_some, e2]
  exact q
theorem b_asgO {j : Nat} {e : E} (q : xE G X e ss h fun x h => ∃ xs ss', x = .nl xs ∧ setSl ss j (.own xs) = some ss' ∧ xB G X r ss' h Q) : xB G X (.asgO j e :: r) ss h Q := by
  refine b_step ?_
  try simp only [xE_def, xL_def, xO_def, xB_def] at *
  rw [evS]
  simp only [O.wpX_bind]
  refine O.wpX_mono q fun x h q => ?_
  obtain ⟨d, ss', rfl, e2, q⟩ := q
  simp only [e2]
  exact q
theorem b_asgR {j : Nat} {e : E} (q : xE G X e ss h fun x h => ∃ xs ss', x = .nl xs ∧ setSl ss j (.v (.obj h.length)) = some ss' ∧ xB G X r ss' (h ++ [.lst xs]) Q) : xB G X (.asgR j e :: r) ss h Q := by
  refine b_step ?_
  try simp only [xE_def, xL_def, xO_def, xB_def] at *
  rw [evS]
  simp only [O.wpX_bind]
  refine O.wpX_mono q fun x h q => ?_
  obtain ⟨d, ss', rfl, e2, q⟩ := q
  simp only [e2]
  exact q
theorem b_par {js : List Nat} {es : List E} (q : xL G X es ss h fun rs h => ∃ ds ss', toDs rs = some ds ∧ parS js ds ss = some ss' ∧ xB G X r ss' h Q) : xB G X (.par js es :: r) ss h Q := by
  refine b_step ?_
  try simp only [xE_def, xL_def, xO_def, xB_def] at *
  rw [evS]
  simp only [O.wpX_bind]
  refine O.wpX_mono q fun x h q => ?_
  obtain ⟨d, ss', e1, e2, q⟩ := q
  simp only [e1, Option.bind_some, e2]
  exact q
theorem b_appO {j : Nat} {e : E} {xs : List D} (e0 : ss[j]? = some (some (.own xs))) (q : xE G X e ss h fun x h => ∃ d ss', x.toD = some d ∧ small (xs.length + 1) = true ∧ setSl ss j (.own (xs ++ [d])) = some ss' ∧ xB G X r ss' h Q) : xB G X (.app j e :: r) ss h Q := by
  refine b_step ?_
  try simp only [xE_def, xL_def, xO_def, xB_def] at *
  rw [evS]
  have e1 : isLst ss j h = true := by unfold isLst; rw [e0]
  rw [e1]
  simp only [O.wpX_bind]
  refine O.wpX_mono q fun x h q => ?_
  obtain ⟨d, ss', e2, e3, e4, q⟩ := q
  simp only [e2, appTo, e0, List.length_singleton, e3, if_true, e4]
  exact q
theorem b_extO {j : Nat} {e : E} {xs : List D} (e0 : ss[j]? = some (some (.own xs))) (q : xE G X e ss h fun x h => ∃ ys ss', x = .nl ys ∧ small (xs.length + ys.length) = true ∧ setSl ss j (.own (xs ++ ys)) = some ss' ∧ xB G X r ss' h Q) : xB G X (.ext j e :: r) ss h Q := by
  refine b_step ?_
  try simp only [xE_def, xL_def, xO_def, xB_def] at *
  rw [evS]
  have e1 : isLst ss j h = true := by unfold isLst; rw [e0]
  rw [e1]
  simp only [O.wpX_bind]
  refine O.wpX_mono q fun x h q => ?_
  obtain ⟨d, ss', rfl, e3, e4, q⟩ := q
  simp only [appTo, e0, e3, if_true, e4]
  exact q
/-- a list by reference grows by a value that does not touch the heap -/
theorem b_appR {j : Nat} {e : E} {i : Nat} {xs : List D} (e0 : ss[j]? = some (some (.v (.obj i)))) (e1 : h[i]? = some (.lst xs)) (q : xE G X e ss h fun x h' => h' = h ∧ ∃ d, x.toD = some d ∧ small (xs.length + 1) = true ∧ xB G X r ss (h.set i (.lst (xs ++ [d]))) Q) : xB G X (.app j e :: r) ss h Q := by
  refine b_step ?_
  try simp only [xE_def, xL_def, xO_def, xB_def] at *
  rw [evS]
  have e2 : isLst ss j h = true := by unfold isLst; rw [e0]; simp only [e1]
  rw [e2]
  simp only [O.wpX_bind]
  refine O.wpX_mono q fun x h' q => ?_
  obtain ⟨rfl, d, e3, e4, q⟩ := q
  simp only [e3, appTo, e0, e1, List.length_singleton, e4, if_true]
  exact q
theorem b_expr {e : E} (q : xE G X e ss h fun _ h => xB G X r ss h Q) : xB G X (.expr e :: r) ss h Q := by
  refine b_step ?_
  try simp only [xE_def, xL_def, xO_def, xB_def] at *
  rw [evS]
  simp only [O.wpX_bind]
  exact q
theorem b_pass (q : xB G X r ss h Q) : xB G X (.pass :: r) ss h Q := by
  refine b_step ?_
  try simp only [xE_def, xL_def, xO_def, xB_def] at *
  rw [evS]
  exact q
theorem b_ret {e : E} (q : xE G X e ss h fun x h => ∃ y, retR x = some y ∧ Q (.rt y) h) : xB G X (.ret e :: r) ss h Q := by
  refine b_step ?_
  try simp only [xE_def, xL_def, xO_def, xB_def] at *
  rw [evS]
  simp only [O.wpX_bind]
  refine O.wpX_mono q fun x h q => ?_
  obtain ⟨y, e1, q⟩ := q
  rw [e1]; exact q
theorem b_retN (q : Q (.rt (.v .non)) h) : xB G X (.retN :: r) ss h Q := by
  refine b_step ?_
  try simp only [xE_def, xL_def, xO_def, xB_def] at *
  rw [evS]; exact q
theorem b_retO {j : Nat} {xs : List D} (e0 : ss[j]? = some (some (.own xs))) (q : Q (.rt (.nl xs)) h) : xB G X (.retO j :: r) ss h Q := by
  refine b_step ?_
  try simp only [xE_def, xL_def, xO_def, xB_def] at *
  rw [evS, e0]; exact q
theorem b_frz {j : Nat} {xs : List D} {ss' : SS} (e0 : ss[j]? = some (some (.own xs))) (e1 : setSl ss j (.v (.lst xs)) = some ss') (q : xB G X r ss' h Q) : xB G X (.frz j :: r) ss h Q := by
  refine b_step ?_
  try simp only [xE_def, xL_def, xO_def, xB_def] at *
  rw [evS, e0]
  simp only [e1]
  exact q
theorem b_ifs {c : E} {a b : List S} (q : xE G X c ss h fun x h => BlW x fun t => IfW t (xB G X a ss h (FlW (fun ss h => xB G X r ss h Q) fun x h => Q (.rt x) h)) (xB G X b ss h (FlW (fun ss h => xB G X r ss h Q) fun x h => Q (.rt x) h))) : xB G X (.ifs c a b :: r) ss h Q := by
  refine b_step ?_
  try simp only [xE_def, xL_def, xO_def, xB_def] at *
  rw [evS]
  simp only [O.wpX_bind]
  refine O.wpX_mono q fun x h q => ?_
  obtain ⟨t, e, q1, q2⟩ := q
  rw [e]
  cases t with
  | true =>
    simp only [O.of_some, O.wpX_ok]
    exact O.wpX_mono (q1 rfl) fun f h q => by cases f <;> exact q
  | false =>
    simp only [O.of_some, O.wpX_ok]
    exact O.wpX_mono (q2 rfl) fun f h q => by cases f <;> exact q
theorem b_for {k : IK} {src : List E} {t : Tg} {b : List S} (q : xL G X src ss h fun rs h => (toDs rs).isSome = true ∧ ItW k rs fun ds => xF G X b t ds ss h (FlW (fun ss h => xB G X r ss h Q) fun x h => Q (.rt x) h)) : xB G X (.for_ k src t b :: r) ss h Q := by
  refine b_step ?_
  try simp only [xE_def, xL_def, xO_def, xB_def, xF_def] at *
  rw [evS]
  simp only [O.wpX_bind]
  refine O.wpX_mono q fun rs h q => ?_
  obtain ⟨e0, ds, e1, q⟩ := q
  obtain ⟨z, e2⟩ := Option.isSome_iff_exists.mp e0
  rw [e1, e2]
  simp only [O.of_some, O.wpX_ok]
  exact O.wpX_mono q fun f h q => by cases f <;> exact q
end
theorem for_inv {G : Cfg} {X : Nat → MH → Prop} {b : List S} {t : Tg} {Q : SS → MH → Prop} {E : R → MH → Prop} (J : Nat → SS → MH → Prop) {ds : List D} {ss : SS} {h : MH} (j0 : J 0 ss h)
    (st : ∀ i d, ds[i]? = some d → ∀ ss h, J i ss h → ∃ ss1, asgT t d ss = some ss1 ∧ xB G X b ss1 h (FlW (J (i + 1)) E)) (q : ∀ ss h, J ds.length ss h → Q ss h) : xF G X b t ds ss h (FlW Q E) := by
  rw [xF_def]
  induction ds generalizing J ss h with
  | nil => exact q ss h j0
  | cons d ds ih =>
    obtain ⟨ss1, e1, w⟩ := st 0 d rfl ss h j0
    rw [xB_def] at w
    rw [evFor, e1]
    simp only [O.of_some, O.bind_ok, O.wpX_bind]
    refine O.wpX_mono w fun f h1 z => ?_
    cases f with
    | rt r => exact z
    | nx ss2 => exact ih (fun i => J (i + 1)) z (fun i d hi => st (i + 1) d (by simpa using hi)) q
theorem b_ss {G : Cfg} {X : Nat → MH → Prop} {r : List S} {ss ss' : SS} {h : MH} {Q : Fl → MH → Prop} (e : ss = ss') (q : xB G X r ss' h Q) : xB G X r ss h Q := e ▸ q
theorem f_ss {G : Cfg} {X : Nat → MH → Prop} {b : List S} {t : Tg} {ds ds' : List D} {ss ss' : SS} {h : MH} {Q : Fl → MH → Prop} (e : ss = ss') (e' : ds = ds') (q : xF G X b t ds' ss' h Q) : xF G X b t ds ss h Q := e ▸ e' ▸ q
theorem for_nil {G : Cfg} {X : Nat → MH → Prop} {b : List S} {t : Tg} {Q : SS → MH → Prop} {E : R → MH → Prop} {ss : SS} {h : MH} (q : Q ss h) : xF G X b t [] ss h (FlW Q E) := by rw [xF_def]; exact q
theorem for_cons {G : Cfg} {X : Nat → MH → Prop} {b : List S} {t : Tg} {Q : SS → MH → Prop} {E : R → MH → Prop} {d : D} {ds : List D} {ss ss1 : SS} {h : MH} (e : asgT t d ss = some ss1) (q : xB G X b ss1 h (FlW (fun ss h => xF G X b t ds ss h (FlW Q E)) E)) : xF G X b t (d :: ds) ss h (FlW Q E) := by
  simp only [xF_def] at *
  rw [evFor, e]
  simp only [O.of_some, O.bind_ok, O.wpX_bind]
  rw [xB_def] at q
  refine O.wpX_mono q fun f h z => ?_
  cases f <;> exact z
theorem Pg.call_wp {p : Pg} {f : Nat} {d : FD} (e : p.Pt f = some d) {n : Nat} {args : List Sl} {h : MH} {Q : R → MH → Prop} (hl : args.length = d.p)
    (q : xB (p.G n) NX d.body (startS d.n args) h (FlW (fun _ h' => h'.length = h.length ∧ Q (.v .non) h') fun r h' => h'.length = h.length ∧ Q r h')) : (p.c (n + 1) f args h).wp Q := by
  rw [Pg.call e hl]
  rw [xB_def] at q
  obtain ⟨fl, h', e1, q⟩ := O.wp_iff.mp (O.wp_nx q)
  rw [e1]
  cases fl with
  | nx s => rw [fin_nx _ _ _ q.1]; exact q.2
  | rt r => rw [fin_rt _ _ _ q.1]; exact q.2
/-- a call that ends with objects of its own -/
theorem Pg.call_wpL {p : Pg} {f : Nat} {d : FD} (e : p.Pt f = some d) {n : Nat} {args : List Sl} {h : MH} {Q : R → MH → Prop} (hl : args.length = d.p)
    (q : xB (p.G n) NX d.body (startS d.n args) h (FlW (fun _ _ => False) fun r h' => r.pure = true ∧ h.length < h'.length ∧ (h'.take h.length).all MO.pure = true ∧ Q r (h'.take h.length))) : (p.c (n + 1) f args h).wp Q := by
  rw [Pg.call e hl]
  rw [xB_def] at q
  obtain ⟨fl, h', e1, q⟩ := O.wp_iff.mp (O.wp_nx q)
  rw [e1]
  cases fl with
  | nx s => exact q.elim
  | rt r =>
    obtain ⟨q1, q2, q3, q4⟩ := q
    have z : finish h.length (.ok (.rt r) h') = .ok r (h'.take h.length) := by
      simp only [finish]
      rw [if_neg (by omega), q1, q3]
      rfl
    rw [z]
    exact q4
/-! ### exceptions -/
theorem b_raise {G : Cfg} {X : Nat → MH → Prop} {ss : SS} {h : MH} {r : List S} {Q : Fl → MH → Prop} {c : Nat} (q : X c h) : xB G X (.raise c :: r) ss h Q := by
  refine b_step ?_
  rw [evS]
  exact q
theorem b_tryW {G : Cfg} {X : Nat → MH → Prop} {ss : SS} {h : MH} {r : List S} {Q : Fl → MH → Prop} {e : E} {i : Nat} (hi : i < ss.length) (q : xE G (fun c h => ∃ d, G.wh c = some d ∧ Q (.rt (.v d)) h) e ss h fun x h => ∃ y, retR x = some y ∧ Q (.rt y) h) : xB G X (.tryW e i :: r) ss h Q := by
  refine b_step ?_
  rw [xE_def] at q
  rw [evS, if_pos hi]
  rcases O.wpX_iff q with ⟨a, h1, e1, y, e2, q⟩ | ⟨c, h1, e1, d, e2, q⟩
  · rw [e1]
    simp only [e2]
    exact q
  · rw [e1]
    simp only [e2]
    exact q
theorem Pg.call_wpX {p : Pg} {f : Nat} {d : FD} (e : p.Pt f = some d) {n : Nat} {args : List Sl} {h : MH} {X : Nat → MH → Prop} {Q : R → MH → Prop} (hl : args.length = d.p)
    (q : xB (p.G n) (fun c h' => h'.length = h.length ∧ X c h') d.body (startS d.n args) h (FlW (fun _ h' => h'.length = h.length ∧ Q (.v .non) h') fun r h' => h'.length = h.length ∧ Q r h')) : (p.c (n + 1) f args h).wpX X Q := by
  rw [Pg.call e hl]
  rw [xB_def] at q
  rcases O.wpX_iff q with ⟨fl, h', e1, q⟩ | ⟨c, h', e1, q⟩
  · rw [e1]
    cases fl with
    | nx s => rw [fin_nx _ _ _ q.1]; exact q.2
    | rt r => rw [fin_rt _ _ _ q.1]; exact q.2
  · rw [e1]
    simp only [finish, q.1, if_true]
    exact q.2
/-- a call that raises -/
theorem Pg.call_ex {p : Pg} {f : Nat} {d : FD} (e : p.Pt f = some d) {n c : Nat} {args : List Sl} {h : MH} (hl : args.length = d.p) (q : xB (p.G n) (fun c' h' => c' = c ∧ h' = h) d.body (startS d.n args) h (fun _ _ => False)) : p.c (n + 1) f args h = .ex c h := by
  rw [Pg.call e hl]
  rw [xB_def] at q
  rcases O.wpX_iff q with ⟨fl, h', e1, q⟩ | ⟨c', h', e1, rfl, rfl⟩
  · exact q.elim
  · rw [e1]
    simp [finish]
end GV
set_option Elab.async false
set_option linter.all false
set_option maxRecDepth 100000
set_option maxHeartbeats 4000000
/-! GV23: more rules for evaluating. -/
namespace GV
open PySem L2
section
variable {G : Cfg} {X : Nat → MH → Prop} {ss : SS} {h : MH} {r : List S} {Q : Fl → MH → Prop}
theorem b_par2 {o o' : Bool} {i j : Nat} {a b : E} (q : xE G X a ss h fun x h => xE G X b ss h fun y h => ∃ ss1 ss', putS o i x ss = some ss1 ∧ putS o' j y ss1 = some ss' ∧ xB G X r ss' h Q) : xB G X (.par2 o o' i j a b :: r) ss h Q := by
  refine b_step ?_
  try simp only [xE_def, xB_def] at *
  rw [evS]
  simp only [O.wpX_bind]
  refine O.wpX_mono q fun x h q => O.wpX_mono q fun y h q => ?_
  obtain ⟨ss1, ss', e1, e2, q⟩ := q
  simp only [e1, Option.bind_some, e2]
  exact q
theorem b_setI {j : Nat} {i e : E} {xs : List D} (e0 : ss[j]? = some (some (.own xs))) (q : xE G X e ss h fun x h => ∃ d, x.toD = some d ∧ xE G X i ss h fun y h => ∃ k n ss', y = .v (.int k) ∧ idxN xs.length k = some n ∧ setSl ss j (.own (xs.set n d)) = some ss' ∧ xB G X r ss' h Q) : xB G X (.setI j i e :: r) ss h Q := by
  refine b_step ?_
  try simp only [xE_def, xB_def] at *
  rw [evS, e0]
  simp only [O.wpX_bind]
  refine O.wpX_mono q fun x h q => ?_
  obtain ⟨d, e1, q⟩ := q
  rw [e1]
  simp only [O.wpX_bind]
  refine O.wpX_mono q fun y h q => ?_
  obtain ⟨k, n, ss', rfl, e2, e3, q⟩ := q
  simp only [e2, e3]
  exact q
theorem b_appPop {j l : Nat} {e : E} {xs ys : List D} (e0 : ss[j]? = some (some (.own ys))) (e1 : ss[l]? = some (some (.own xs))) (hn : j ≠ l)
    (q : xE G X e ss h fun x h => ∃ (i : Int) (d : D) (ss1 ss' : SS), x = .v (.int i) ∧ 0 ≤ i ∧ i < xs.length ∧ i < 1000000 ∧ xs[i.toNat]? = some d ∧ small (ys.length + 1) = true ∧ setSl ss l (.own (xs.eraseIdx i.toNat)) = some ss1 ∧ setSl ss1 j (.own (ys ++ [d])) = some ss' ∧ xB G X r ss' h Q) : xB G X (.appPop j l e :: r) ss h Q := by
  refine b_step ?_
  try simp only [xE_def, xB_def] at *
  rw [evS, e0, e1]
  simp only [O.wpX_bind]
  refine O.wpX_mono q fun x h q => ?_
  obtain ⟨i, d, ss1, ss', rfl, h1, h2, h3, e2, e3, e4, e5, q⟩ := q
  simp only [popL, h1, h2, h3, and_self, if_true, e2, Option.map_some, hn, ne_eq, not_false_eq_true, e3, e4, Option.bind_some, e5]
  exact q
/-- J n: at most n more turns -/
theorem b_while {c : E} {b : List S} (J : Nat → SS → MH → Prop) (n : Nat) (hn : n < G.wf) (j0 : J n ss h)
    (st : ∀ m ss h, J m ss h → xE G X c ss h fun x h' => BlW x fun t => IfW t (∃ m', m = m' + 1 ∧ xB G X b ss h' (FlW (J m') fun x h => Q (.rt x) h)) (xB G X r ss h' Q)) : xB G X (.while_ c b :: r) ss h Q := by
  refine b_step ?_
  rw [evS]
  have main : ∀ (k n : Nat) (ss : SS) (h : MH), n < k → J n ss h → (evWhile (fun ss h => (evE G c ss h).bind fun r h => O.of h (blE r)) (evB G b) k ss h).wpX X fun f h => match f with
      | .nx ss' => xB G X r ss' h Q
      | .rt x => Q (.rt x) h := by
    intro k
    induction k with
    | zero => intro n ss h hk; omega
    | succ k ih =>
      intro n ss h hk j
      have s := st n ss h j
      rw [xE_def] at s
      rw [evWhile]
      simp only [O.wpX_bind]
      refine O.wpX_mono s fun x h' s => ?_
      obtain ⟨t, e, s1, s2⟩ := s
      rw [e]
      cases t with
      | true =>
        obtain ⟨m', rfl, s4⟩ := s1 rfl
        rw [xB_def] at s4
        simp only [O.of_some, O.wpX_ok, O.wpX_bind]
        refine O.wpX_mono s4 fun f h2 s3 => ?_
        cases f with
        | nx ss2 => exact ih m' ss2 h2 (by omega) s3
        | rt x => exact s3
      | false => exact s2 rfl
  exact main G.wf n ss h hn j0
end
section
variable {G : Cfg} {X : Nat → MH → Prop} {ss : SS} {h : MH} {Q : R → MH → Prop}
def RevW (x : R) (lo : Option Nat) (Q : R → Prop) : Prop := match x.rd with
  | .lst xs => Q (.nl (revD lo xs))
  | .tup xs => Q (.v (.tup (revD lo xs)))
  | _ => False
theorem w_rev {a : E} {lo : Option Nat} (q : xE G X a ss h fun x h => RevW x lo fun r => Q r h) : xE G X (.rev a lo) ss h Q := by
  simp only [xE_def] at *
  rw [evE]
  simp only [O.wpX_bind]
  refine O.wpX_mono q fun x h q => ?_
  unfold RevW at q
  generalize x.rd = y at q ⊢
  cases y <;> first | exact q | exact q.elim
end
section
variable {Q : R → Prop}
theorem rv_t {xs : List D} {lo : Option Nat} (q : Q (.v (.tup (revD lo xs)))) : RevW (.v (.tup xs)) lo Q := q
theorem rv_l {xs : List D} {lo : Option Nat} (q : Q (.nl (revD lo xs))) : RevW (.v (.lst xs)) lo Q := q
theorem rv_n {xs : List D} {lo : Option Nat} (q : Q (.nl (revD lo xs))) : RevW (.nl xs) lo Q := q
theorem rv_b {xs : List D} {lo : Option Nat} (q : Q (.nl (revD lo xs))) : RevW (.bw xs) lo Q := q
theorem bi_sort {srt : List D → Option (List D)} {x : R} {xs : List D} {h : MH} (e : x.rd = .lst xs) (hs : srtOk xs = true) (q : Q (.nl (xs.mergeSort (PySem.W.dataLe false D.py)))) : BiW srt .sorted [x] h Q := ⟨_, by simp [biR, e, srtD, hs], q⟩
end
theorem it_enum {Q : List D → Prop} {x : R} {xs : List D} (e : x.rd.seq = some xs) (q : Q (xs.zipIdx.map fun p => .tup [.int (p.2 : Nat), p.1])) : ItW .enum [x] Q := ⟨_, by simp [itemsR, e], q⟩
theorem it_zip {Q : List D → Prop} {x y : R} {xs ys : List D} (e : x.rd.seq = some xs) (e' : y.rd.seq = some ys) (q : Q ((xs.zip ys).map fun p => .tup [p.1, p.2])) : ItW .zip [x, y] Q := ⟨_, by simp [itemsR, e, e'], q⟩
theorem atD0 {a : D} {r : List D} : atD (a :: r) 0 = some a := L2.atI_nat (j := 0) rfl
theorem atD1 {a b : D} {r : List D} : atD (a :: b :: r) 1 = some b := L2.atI_nat (j := 1) rfl
theorem small_of {n : Nat} (h : n ≤ 1000000) : small n = true := decide_eq_true h
theorem b_augI {G : Cfg} {X : Nat → MH → Prop} {ss : SS} {h : MH} {r : List S} {Q : Fl → MH → Prop} {j : Nat} {i e : E} {xs : List D} (e0 : ss[j]? = some (some (.own xs)))
    (q : xE G X i ss h fun y h => ∃ k n x, y = .v (.int k) ∧ idxN xs.length k = some n ∧ atD xs k = some (.int x) ∧ xE G X e ss h fun z h => ∃ y ss', z = .v (.int y) ∧ setSl ss j (.own (xs.set n (.int (x + y)))) = some ss' ∧ xB G X r ss' h Q) : xB G X (.augI j .add i e :: r) ss h Q := by
  refine b_step ?_
  try simp only [xE_def, xB_def] at *
  rw [evS, e0]
  simp only [O.wpX_bind]
  refine O.wpX_mono q fun y h q => ?_
  obtain ⟨k, n, x, rfl, e2, e3, q⟩ := q
  simp only [e2, e3, O.wpX_bind]
  refine O.wpX_mono q fun z h q => ?_
  obtain ⟨y, ss', rfl, e4, q⟩ := q
  simp only [e4]
  exact q
end GV
set_option Elab.async false
set_option linter.all false
set_option maxRecDepth 100000
set_option maxHeartbeats 4000000
/-! GA1: boards. -/
namespace GV
open PySem L2
def b_is_integer : List S := [
  .ret (.and (.isi (.v 0) .int) (.and (.not (.isi (.v 0) .bool)) (.chn .le .le (.v 1) (.v 0) (.v 2))))]
def n_is_integer : List Str := ["value", "low", "high"]
def f_is_integer : FD := ⟨3, 3, b_is_integer⟩
def b_are_numbers : List S := [
  .ret (.and (.isi (.v 0) .tuple) (.and (.cmp .eq (.bi .len [(.v 0)]) (.v 1)) (.bi .all [(.comp .seq [(.v 0)] (.n 4) [4] [] (.call 1 [(.v 4), (.v 2), (.v 3)]))])))]
def n_are_numbers : List Str := ["value", "count", "low", "high", "one"]
def f_are_numbers : FD := ⟨5, 4, b_are_numbers⟩
def b_is_exchange : List S := [
  .ifs (.or (.not (.isi (.v 1) .tuple)) (.or (.cmp .ne (.bi .len [(.v 1)]) (.int 2)) (.not (.call 2 [(.ix (.v 1) (.int 0)), (.v 0), (.int 0), (.int 5)])))) [
    .ret (.bl false)] [],
  .ret (.and (.call 2 [(.ix (.v 1) (.int 1)), (.v 0), (.int 0), (.int 5)]) (.cmp .gt (.bi .sum [(.ix (.v 1) (.int 0))]) (.int 0)))]
def n_is_exchange : List Str := ["things", "value"]
def f_is_exchange : FD := ⟨2, 2, b_is_exchange⟩
def b_stands : List S := [
  .ifs (.or (.not (.isi (.v 0) .tuple)) (.or (.cmp .ne (.bi .len [(.v 0)]) (.int 2)) (.not (.call 1 [(.ix (.v 0) (.int 0)), (.int 2), (.int 4)])))) [
    .ret (.bl false)] [],
  .ifs (.or (.not (.isi (.ix (.v 0) (.int 1)) .tuple)) (.cmp .gt (.bi .len [(.ix (.v 0) (.int 1))]) (.int 6))) [
    .ret (.bl false)] [],
  .ret (.bi .all [(.comp .seq [(.ix (.v 0) (.int 1))] (.n 1) [1] [] (.call 3 [(.ix (.v 0) (.int 0)), (.v 1)]))])]
def n_stands : List Str := ["value", "one"]
def f_stands : FD := ⟨2, 1, b_stands⟩
def b_need_board : List S := [
  .ifs (.not (.call 4 [(.v 0)])) [
    .raise 0] []]
def n_need_board : List Str := ["board"]
def f_need_board : FD := ⟨1, 1, b_need_board⟩
def b_net_of : List S := [
  .ret (.bi .tuple [(.comp .zip [(.ix (.v 0) (.int 0)), (.ix (.v 0) (.int 1))] (.t [(.n 1), (.n 2)]) [1, 2] [] (.bin .sub (.v 2) (.v 1)))])]
def n_net_of : List Str := ["exchange", "takes", "gives"]
def f_net_of : FD := ⟨3, 1, b_net_of⟩
def b_all_nets : List S := [
  .ret (.comp .seq [(.ix (.v 0) (.int 1))] (.n 1) [1] [] (.call 14 [(.v 1)]))]
def n_all_nets : List Str := ["board", "one"]
def f_all_nets : FD := ⟨2, 1, b_all_nets⟩
def b_nets : List S := [
  .expr (.call 13 [(.v 0)]),
  .ret (.call 15 [(.v 0)])]
def n_nets : List Str := ["board"]
def f_nets : FD := ⟨1, 1, b_nets⟩
def isInt (lo hi : Int) : D → Bool
  | .int i => decide (lo ≤ i) && decide (i ≤ hi)
  | _ => false
theorem is_integer_eq {p : Pg} (h1 : p.Pt 1 = some f_is_integer) {n : Nat} {d : D} {lo hi : Int} {h : MH} (hd : d.noObj = true) : p.c (n + 1) 1 [.v d, .v (.int lo), .v (.int hi)] h = .ok (.v (.bl (isInt lo hi d))) h := by
  refine O.eq_of (Pg.call_wp h1 rfl ?_)
  unfold f_is_integer b_is_integer
  cases d
  case obj => cases hd
  all_goals
    (repeat' (first | refine w_v rfl ?_ | refine w_int ?_ | refine w_bl ?_ | refine w_non ?_ | refine w_str ?_ | refine w_cons ?_ | refine w_nil ?_ | refine w_bin ?_ | refine w_cmp ?_ | refine w_call ?_ | refine w_bi ?_ | refine w_isi ?_ | refine w_ix ?_ | refine w_and ?_ | refine w_or ?_ | refine w_not ?_ | refine w_chn ?_ | refine w_tup ?_ | refine w_lst ?_ | refine w_ite ?_ | refine w_neg ?_ | refine w_sl ?_ | refine sl_t ?_ | refine sl_n ?_ | refine sl_b ?_ | refine sl_l ?_ | refine w_rev ?_ | refine rv_t ?_ | refine rv_n ?_ | refine rv_l ?_ | refine rv_b ?_ | refine w_onone ?_ | refine w_osome ?_ | refine b_asg ?_ | refine b_ret ?_ | refine b_retN ?_ | refine b_expr ?_ | refine b_pass ?_ | refine b_ifs ?_ | refine b_for ?_ | refine b_asgO ?_ | refine b_asgR ?_ | refine bw_add ?_ | refine bw_sub ?_ | refine cw_lt ?_ | refine cw_le ?_ | refine cw_gt ?_ | refine cw_ge ?_ | refine cw_eqI ?_ | refine cw_neI ?_ | refine bl_w ?_ | refine if_t ?_ | refine if_f ?_ | refine if_s (fun _ => ?_) (fun _ => ?_) | refine w_comp ?_ | refine b_nil ?_ | refine b_par ?_ | refine b_par2 ?_ | refine b_appO rfl ?_ | refine b_extO rfl ?_ | refine fl_rt ?_ | refine fl_nx ?_ | refine And.intro (by assumption) ?_ | refine And.intro rfl ?_ | refine ⟨_, rfl, ?_⟩ | refine ⟨_, _, rfl, rfl, ?_⟩ | refine ⟨_, rfl, rfl, ?_⟩ | refine ⟨_, _, _, rfl, rfl, rfl, ?_⟩ | refine ⟨_, _, _, rfl, rfl, atD0, ?_⟩ | refine ⟨_, _, _, rfl, rfl, atD1, ?_⟩ | refine ⟨_, _, rfl, rfl, rfl, ?_⟩ | refine for_cons rfl ?_ | refine for_nil ?_ | dsimp only))
    all_goals try simp_all [isInt]
  all_goals try omega
theorem noObj_of {n : Nat} {d : D} (h : d.okN n = true) : d.noObj = true := by cases d <;> simp [D.okN, D.noObj] at h ⊢
theorem ok_tup {n : Nat} {xs : List D} (h : (D.tup xs).okN n = true) : ∃ m, n = m + 1 ∧ ∀ x ∈ xs, x.okN m = true := by
  cases n with
  | zero => simp [D.okN] at h
  | succ m => exact ⟨m, rfl, by simpa [D.okN] using h⟩
theorem ok_lst {n : Nat} {xs : List D} (h : (D.lst xs).okN n = true) : ∃ m, n = m + 1 ∧ ∀ x ∈ xs, x.okN m = true := by
  cases n with
  | zero => simp [D.okN] at h
  | succ m => exact ⟨m, rfl, by simpa [D.okN] using h⟩
theorem bls_map {f : D → Bool} : ∀ {xs : List D}, bls? (xs.map fun d => .bl (f d)) = some (xs.map f)
  | [] => rfl
  | x :: xs => by simp [bls?, bls_map]
def areNum (c : Int) (lo hi : Int) : D → Bool
  | .tup xs => decide ((xs.length : Int) = c) && xs.all (isInt lo hi)
  | _ => false
theorem are_numbers_eq {p : Pg} (h1 : p.Pt 1 = some f_is_integer) (h2 : p.Pt 2 = some f_are_numbers) {n m : Nat} {d : D} {c lo hi : Int} {h : MH} (hd : d.okN m = true) (hc : c ≤ 1000000) : p.c (n + 2) 2 [.v d, .v (.int c), .v (.int lo), .v (.int hi)] h = .ok (.v (.bl (areNum c lo hi d))) h := by
  refine O.eq_of (Pg.call_wp h2 rfl ?_)
  unfold f_are_numbers b_are_numbers
  have hn := noObj_of hd
  cases d
  case obj => cases hn
  case tup xs =>
    obtain ⟨m, rfl, hx⟩ := ok_tup hd
    (repeat' (first | refine w_v rfl ?_ | refine w_int ?_ | refine w_bl ?_ | refine w_non ?_ | refine w_str ?_ | refine w_cons ?_ | refine w_nil ?_ | refine w_bin ?_ | refine w_cmp ?_ | refine w_call ?_ | refine w_bi ?_ | refine w_isi ?_ | refine w_ix ?_ | refine w_and ?_ | refine w_or ?_ | refine w_not ?_ | refine w_chn ?_ | refine w_tup ?_ | refine w_lst ?_ | refine w_ite ?_ | refine w_neg ?_ | refine w_sl ?_ | refine sl_t ?_ | refine sl_n ?_ | refine sl_b ?_ | refine sl_l ?_ | refine w_rev ?_ | refine rv_t ?_ | refine rv_n ?_ | refine rv_l ?_ | refine rv_b ?_ | refine w_onone ?_ | refine w_osome ?_ | refine b_asg ?_ | refine b_ret ?_ | refine b_retN ?_ | refine b_expr ?_ | refine b_pass ?_ | refine b_ifs ?_ | refine b_for ?_ | refine b_asgO ?_ | refine b_asgR ?_ | refine bw_add ?_ | refine bw_sub ?_ | refine cw_lt ?_ | refine cw_le ?_ | refine cw_gt ?_ | refine cw_ge ?_ | refine cw_eqI ?_ | refine cw_neI ?_ | refine bl_w ?_ | refine if_t ?_ | refine if_f ?_ | refine if_s (fun _ => ?_) (fun _ => ?_) | refine w_comp ?_ | refine b_nil ?_ | refine b_par ?_ | refine b_par2 ?_ | refine b_appO rfl ?_ | refine b_extO rfl ?_ | refine fl_rt ?_ | refine fl_nx ?_ | refine And.intro (by assumption) ?_ | refine And.intro rfl ?_ | refine ⟨_, rfl, ?_⟩ | refine ⟨_, _, rfl, rfl, ?_⟩ | refine ⟨_, rfl, rfl, ?_⟩ | refine ⟨_, _, _, rfl, rfl, rfl, ?_⟩ | refine ⟨_, _, _, rfl, rfl, atD0, ?_⟩ | refine ⟨_, _, _, rfl, rfl, atD1, ?_⟩ | refine ⟨_, _, rfl, rfl, rfl, ?_⟩ | refine for_cons rfl ?_ | refine for_nil ?_ | dsimp only))
    · rename_i q
      have q' : (xs.length : Int) = c := by simpa using q
      refine c_pure (fun d => .bl (isInt lo hi d)) (fun d hd => ⟨_, rfl, ?_⟩) (by omega) ?_
      · (repeat' (first | refine w_v rfl ?_ | refine w_int ?_ | refine w_bl ?_ | refine w_non ?_ | refine w_str ?_ | refine w_cons ?_ | refine w_nil ?_ | refine w_bin ?_ | refine w_cmp ?_ | refine w_call ?_ | refine w_bi ?_ | refine w_isi ?_ | refine w_ix ?_ | refine w_and ?_ | refine w_or ?_ | refine w_not ?_ | refine w_chn ?_ | refine w_tup ?_ | refine w_lst ?_ | refine w_ite ?_ | refine w_neg ?_ | refine w_sl ?_ | refine sl_t ?_ | refine sl_n ?_ | refine sl_b ?_ | refine sl_l ?_ | refine w_rev ?_ | refine rv_t ?_ | refine rv_n ?_ | refine rv_l ?_ | refine rv_b ?_ | refine w_onone ?_ | refine w_osome ?_ | refine b_asg ?_ | refine b_ret ?_ | refine b_retN ?_ | refine b_expr ?_ | refine b_pass ?_ | refine b_ifs ?_ | refine b_for ?_ | refine b_asgO ?_ | refine b_asgR ?_ | refine bw_add ?_ | refine bw_sub ?_ | refine cw_lt ?_ | refine cw_le ?_ | refine cw_gt ?_ | refine cw_ge ?_ | refine cw_eqI ?_ | refine cw_neI ?_ | refine bl_w ?_ | refine if_t ?_ | refine if_f ?_ | refine w_comp ?_ | refine b_nil ?_ | refine b_par ?_ | refine b_par2 ?_ | refine b_appO rfl ?_ | refine b_extO rfl ?_ | refine fl_rt ?_ | refine fl_nx ?_ | refine And.intro (by assumption) ?_ | refine And.intro rfl ?_ | refine ⟨_, rfl, ?_⟩ | refine ⟨_, _, rfl, rfl, ?_⟩ | refine ⟨_, rfl, rfl, ?_⟩ | refine ⟨_, _, _, rfl, rfl, rfl, ?_⟩ | refine ⟨_, _, _, rfl, rfl, atD0, ?_⟩ | refine ⟨_, _, _, rfl, rfl, atD1, ?_⟩ | refine ⟨_, _, rfl, rfl, rfl, ?_⟩ | refine for_cons rfl ?_ | refine for_nil ?_ | dsimp only))
        refine O.wp_eq (is_integer_eq h1 (noObj_of (hx d hd))) ⟨rfl, rfl⟩
      · (repeat' (first | refine w_v rfl ?_ | refine w_int ?_ | refine w_bl ?_ | refine w_non ?_ | refine w_str ?_ | refine w_cons ?_ | refine w_nil ?_ | refine w_bin ?_ | refine w_cmp ?_ | refine w_call ?_ | refine w_bi ?_ | refine w_isi ?_ | refine w_ix ?_ | refine w_and ?_ | refine w_or ?_ | refine w_not ?_ | refine w_chn ?_ | refine w_tup ?_ | refine w_lst ?_ | refine w_ite ?_ | refine w_neg ?_ | refine w_sl ?_ | refine sl_t ?_ | refine sl_n ?_ | refine sl_b ?_ | refine sl_l ?_ | refine w_rev ?_ | refine rv_t ?_ | refine rv_n ?_ | refine rv_l ?_ | refine rv_b ?_ | refine w_onone ?_ | refine w_osome ?_ | refine b_asg ?_ | refine b_ret ?_ | refine b_retN ?_ | refine b_expr ?_ | refine b_pass ?_ | refine b_ifs ?_ | refine b_for ?_ | refine b_asgO ?_ | refine b_asgR ?_ | refine bw_add ?_ | refine bw_sub ?_ | refine cw_lt ?_ | refine cw_le ?_ | refine cw_gt ?_ | refine cw_ge ?_ | refine cw_eqI ?_ | refine cw_neI ?_ | refine bl_w ?_ | refine if_t ?_ | refine if_f ?_ | refine w_comp ?_ | refine b_nil ?_ | refine b_par ?_ | refine b_par2 ?_ | refine b_appO rfl ?_ | refine b_extO rfl ?_ | refine fl_rt ?_ | refine fl_nx ?_ | refine And.intro (by assumption) ?_ | refine And.intro rfl ?_ | refine ⟨_, rfl, ?_⟩ | refine ⟨_, _, rfl, rfl, ?_⟩ | refine ⟨_, rfl, rfl, ?_⟩ | refine ⟨_, _, _, rfl, rfl, rfl, ?_⟩ | refine ⟨_, _, _, rfl, rfl, atD0, ?_⟩ | refine ⟨_, _, _, rfl, rfl, atD1, ?_⟩ | refine ⟨_, _, rfl, rfl, rfl, ?_⟩ | refine for_cons rfl ?_ | refine for_nil ?_ | dsimp only))
        refine ⟨.v (.bl ((xs.map (isInt lo hi)).all id)), by simp [biR, R.rd, bls_map], ?_⟩
        (repeat' (first | refine w_v rfl ?_ | refine w_int ?_ | refine w_bl ?_ | refine w_non ?_ | refine w_str ?_ | refine w_cons ?_ | refine w_nil ?_ | refine w_bin ?_ | refine w_cmp ?_ | refine w_call ?_ | refine w_bi ?_ | refine w_isi ?_ | refine w_ix ?_ | refine w_and ?_ | refine w_or ?_ | refine w_not ?_ | refine w_chn ?_ | refine w_tup ?_ | refine w_lst ?_ | refine w_ite ?_ | refine w_neg ?_ | refine w_sl ?_ | refine sl_t ?_ | refine sl_n ?_ | refine sl_b ?_ | refine sl_l ?_ | refine w_rev ?_ | refine rv_t ?_ | refine rv_n ?_ | refine rv_l ?_ | refine rv_b ?_ | refine w_onone ?_ | refine w_osome ?_ | refine b_asg ?_ | refine b_ret ?_ | refine b_retN ?_ | refine b_expr ?_ | refine b_pass ?_ | refine b_ifs ?_ | refine b_for ?_ | refine b_asgO ?_ | refine b_asgR ?_ | refine bw_add ?_ | refine bw_sub ?_ | refine cw_lt ?_ | refine cw_le ?_ | refine cw_gt ?_ | refine cw_ge ?_ | refine cw_eqI ?_ | refine cw_neI ?_ | refine bl_w ?_ | refine if_t ?_ | refine if_f ?_ | refine w_comp ?_ | refine b_nil ?_ | refine b_par ?_ | refine b_par2 ?_ | refine b_appO rfl ?_ | refine b_extO rfl ?_ | refine fl_rt ?_ | refine fl_nx ?_ | refine And.intro (by assumption) ?_ | refine And.intro rfl ?_ | refine ⟨_, rfl, ?_⟩ | refine ⟨_, _, rfl, rfl, ?_⟩ | refine ⟨_, rfl, rfl, ?_⟩ | refine ⟨_, _, _, rfl, rfl, rfl, ?_⟩ | refine ⟨_, _, _, rfl, rfl, atD0, ?_⟩ | refine ⟨_, _, _, rfl, rfl, atD1, ?_⟩ | refine ⟨_, _, rfl, rfl, rfl, ?_⟩ | refine for_cons rfl ?_ | refine for_nil ?_ | dsimp only))
        simp [areNum, q']
    · simp_all [areNum]
  all_goals
    (repeat' (first | refine w_v rfl ?_ | refine w_int ?_ | refine w_bl ?_ | refine w_non ?_ | refine w_str ?_ | refine w_cons ?_ | refine w_nil ?_ | refine w_bin ?_ | refine w_cmp ?_ | refine w_call ?_ | refine w_bi ?_ | refine w_isi ?_ | refine w_ix ?_ | refine w_and ?_ | refine w_or ?_ | refine w_not ?_ | refine w_chn ?_ | refine w_tup ?_ | refine w_lst ?_ | refine w_ite ?_ | refine w_neg ?_ | refine w_sl ?_ | refine sl_t ?_ | refine sl_n ?_ | refine sl_b ?_ | refine sl_l ?_ | refine w_rev ?_ | refine rv_t ?_ | refine rv_n ?_ | refine rv_l ?_ | refine rv_b ?_ | refine w_onone ?_ | refine w_osome ?_ | refine b_asg ?_ | refine b_ret ?_ | refine b_retN ?_ | refine b_expr ?_ | refine b_pass ?_ | refine b_ifs ?_ | refine b_for ?_ | refine b_asgO ?_ | refine b_asgR ?_ | refine bw_add ?_ | refine bw_sub ?_ | refine cw_lt ?_ | refine cw_le ?_ | refine cw_gt ?_ | refine cw_ge ?_ | refine cw_eqI ?_ | refine cw_neI ?_ | refine bl_w ?_ | refine if_t ?_ | refine if_f ?_ | refine if_s (fun _ => ?_) (fun _ => ?_) | refine w_comp ?_ | refine b_nil ?_ | refine b_par ?_ | refine b_par2 ?_ | refine b_appO rfl ?_ | refine b_extO rfl ?_ | refine fl_rt ?_ | refine fl_nx ?_ | refine And.intro (by assumption) ?_ | refine And.intro rfl ?_ | refine ⟨_, rfl, ?_⟩ | refine ⟨_, _, rfl, rfl, ?_⟩ | refine ⟨_, rfl, rfl, ?_⟩ | refine ⟨_, _, _, rfl, rfl, rfl, ?_⟩ | refine ⟨_, _, _, rfl, rfl, atD0, ?_⟩ | refine ⟨_, _, _, rfl, rfl, atD1, ?_⟩ | refine ⟨_, _, rfl, rfl, rfl, ?_⟩ | refine for_cons rfl ?_ | refine for_nil ?_ | dsimp only))
    all_goals simp_all [areNum]
theorem allInt {lo hi : Int} : ∀ {xs : List D}, xs.all (isInt lo hi) = true → ∃ ns : List Int, xs = ns.map .int ∧ ∀ i ∈ ns, lo ≤ i ∧ i ≤ hi
  | [], _ => ⟨[], rfl, by simp⟩
  | x :: xs, h => by
    simp only [List.all_cons, Bool.and_eq_true] at h
    obtain ⟨ns, rfl, q⟩ := allInt h.2
    have h1 := h.1
    cases x with
    | int i =>
      simp only [isInt, Bool.and_eq_true, decide_eq_true_eq] at h1
      exact ⟨i :: ns, rfl, by simpa using ⟨h1, q⟩⟩
    | _ => simp [isInt] at h1
theorem ints_map : ∀ {ns : List Int}, ints? (ns.map .int) = some ns
  | [] => rfl
  | n :: ns => by simp [ints?, ints_map]
theorem num_ints {c lo hi : Int} {d : D} (h : areNum c lo hi d = true) : ∃ ns : List Int, d = .tup (ns.map .int) ∧ (ns.length : Int) = c ∧ ∀ i ∈ ns, lo ≤ i ∧ i ≤ hi := by
  cases d with
  | tup xs =>
    simp only [areNum, Bool.and_eq_true, decide_eq_true_eq] at h
    obtain ⟨ns, rfl, q⟩ := allInt h.2
    exact ⟨ns, rfl, by simpa using h.1, q⟩
  | _ => simp [areNum] at h
def sumD : D → Int
  | .tup xs => ((ints? xs).getD []).sum
  | _ => 0
def isEx (t : Int) : D → Bool
  | .tup [a, b] => areNum t 0 5 a && (areNum t 0 5 b && decide (0 < sumD a))
  | _ => false
theorem len2 {α : Type} {xs : List α} (h : xs.length = 2) : ∃ a b, xs = [a, b] := by
  match xs, h with
  | [a, b], _ => exact ⟨a, b, rfl⟩
theorem isEx_len {t : Int} {xs : List D} (h : xs.length ≠ 2) : isEx t (.tup xs) = false := by
  unfold isEx
  split
  · rename_i e; cases e; simp at h
  · rfl
theorem is_exchange_eq {p : Pg} (h1 : p.Pt 1 = some f_is_integer) (h2 : p.Pt 2 = some f_are_numbers) (h3 : p.Pt 3 = some f_is_exchange) {n m : Nat} {d : D} {t : Int} {h : MH} (hd : d.okN m = true) (hc : t ≤ 1000000) : p.c (n + 3) 3 [.v (.int t), .v d] h = .ok (.v (.bl (isEx t d))) h := by
  refine O.eq_of (Pg.call_wp h3 rfl ?_)
  unfold f_is_exchange b_is_exchange
  have hn := noObj_of hd
  cases d
  case obj => cases hn
  case tup xs =>
    obtain ⟨m, rfl, hx⟩ := ok_tup hd
    by_cases hl : xs.length = 2
    · obtain ⟨a, b, rfl⟩ := len2 hl
      have ha : a.okN m = true := hx a (by simp)
      have hb : b.okN m = true := hx b (by simp)
      (repeat' (first | refine w_v rfl ?_ | refine w_int ?_ | refine w_bl ?_ | refine w_non ?_ | refine w_str ?_ | refine w_cons ?_ | refine w_nil ?_ | refine w_bin ?_ | refine w_cmp ?_ | refine w_call ?_ | refine w_bi ?_ | refine w_isi ?_ | refine w_ix ?_ | refine w_and ?_ | refine w_or ?_ | refine w_not ?_ | refine w_chn ?_ | refine w_tup ?_ | refine w_lst ?_ | refine w_ite ?_ | refine w_neg ?_ | refine w_sl ?_ | refine sl_t ?_ | refine sl_n ?_ | refine sl_b ?_ | refine sl_l ?_ | refine w_rev ?_ | refine rv_t ?_ | refine rv_n ?_ | refine rv_l ?_ | refine rv_b ?_ | refine w_onone ?_ | refine w_osome ?_ | refine b_asg ?_ | refine b_ret ?_ | refine b_retN ?_ | refine b_expr ?_ | refine b_pass ?_ | refine b_ifs ?_ | refine b_for ?_ | refine b_asgO ?_ | refine b_asgR ?_ | refine bw_add ?_ | refine bw_sub ?_ | refine cw_lt ?_ | refine cw_le ?_ | refine cw_gt ?_ | refine cw_ge ?_ | refine cw_eqI ?_ | refine cw_neI ?_ | refine bl_w ?_ | refine if_t ?_ | refine if_f ?_ | refine if_s (fun _ => ?_) (fun _ => ?_) | refine w_comp ?_ | refine b_nil ?_ | refine b_par ?_ | refine b_par2 ?_ | refine b_appO rfl ?_ | refine b_extO rfl ?_ | refine fl_rt ?_ | refine fl_nx ?_ | refine And.intro (by assumption) ?_ | refine And.intro rfl ?_ | refine ⟨_, rfl, ?_⟩ | refine ⟨_, _, rfl, rfl, ?_⟩ | refine ⟨_, rfl, rfl, ?_⟩ | refine ⟨_, _, _, rfl, rfl, rfl, ?_⟩ | refine ⟨_, _, _, rfl, rfl, atD0, ?_⟩ | refine ⟨_, _, _, rfl, rfl, atD1, ?_⟩ | refine ⟨_, _, rfl, rfl, rfl, ?_⟩ | refine for_cons rfl ?_ | refine for_nil ?_ | dsimp only))
      refine O.wp_eq (are_numbers_eq h1 h2 ha hc) ?_
      (repeat' (first | refine w_v rfl ?_ | refine w_int ?_ | refine w_bl ?_ | refine w_non ?_ | refine w_str ?_ | refine w_cons ?_ | refine w_nil ?_ | refine w_bin ?_ | refine w_cmp ?_ | refine w_call ?_ | refine w_bi ?_ | refine w_isi ?_ | refine w_ix ?_ | refine w_and ?_ | refine w_or ?_ | refine w_not ?_ | refine w_chn ?_ | refine w_tup ?_ | refine w_lst ?_ | refine w_ite ?_ | refine w_neg ?_ | refine w_sl ?_ | refine sl_t ?_ | refine sl_n ?_ | refine sl_b ?_ | refine sl_l ?_ | refine w_rev ?_ | refine rv_t ?_ | refine rv_n ?_ | refine rv_l ?_ | refine rv_b ?_ | refine w_onone ?_ | refine w_osome ?_ | refine b_asg ?_ | refine b_ret ?_ | refine b_retN ?_ | refine b_expr ?_ | refine b_pass ?_ | refine b_ifs ?_ | refine b_for ?_ | refine b_asgO ?_ | refine b_asgR ?_ | refine bw_add ?_ | refine bw_sub ?_ | refine cw_lt ?_ | refine cw_le ?_ | refine cw_gt ?_ | refine cw_ge ?_ | refine cw_eqI ?_ | refine cw_neI ?_ | refine bl_w ?_ | refine if_t ?_ | refine if_f ?_ | refine if_s (fun _ => ?_) (fun _ => ?_) | refine w_comp ?_ | refine b_nil ?_ | refine b_par ?_ | refine b_par2 ?_ | refine b_appO rfl ?_ | refine b_extO rfl ?_ | refine fl_rt ?_ | refine fl_nx ?_ | refine And.intro (by assumption) ?_ | refine And.intro rfl ?_ | refine ⟨_, rfl, ?_⟩ | refine ⟨_, _, rfl, rfl, ?_⟩ | refine ⟨_, rfl, rfl, ?_⟩ | refine ⟨_, _, _, rfl, rfl, rfl, ?_⟩ | refine ⟨_, _, _, rfl, rfl, atD0, ?_⟩ | refine ⟨_, _, _, rfl, rfl, atD1, ?_⟩ | refine ⟨_, _, rfl, rfl, rfl, ?_⟩ | refine for_cons rfl ?_ | refine for_nil ?_ | dsimp only))
      · rename_i q
        simp_all [isEx]
      · rename_i q
        refine O.wp_eq (are_numbers_eq h1 h2 hb hc) ?_
        have q' : areNum t 0 5 a = true := by simpa using q
        obtain ⟨ns, rfl, _⟩ := num_ints q'
        (repeat' (first | refine w_v rfl ?_ | refine w_int ?_ | refine w_bl ?_ | refine w_non ?_ | refine w_str ?_ | refine w_cons ?_ | refine w_nil ?_ | refine w_bin ?_ | refine w_cmp ?_ | refine w_call ?_ | refine w_bi ?_ | refine w_isi ?_ | refine w_ix ?_ | refine w_and ?_ | refine w_or ?_ | refine w_not ?_ | refine w_chn ?_ | refine w_tup ?_ | refine w_lst ?_ | refine w_ite ?_ | refine w_neg ?_ | refine w_sl ?_ | refine sl_t ?_ | refine sl_n ?_ | refine sl_b ?_ | refine sl_l ?_ | refine w_rev ?_ | refine rv_t ?_ | refine rv_n ?_ | refine rv_l ?_ | refine rv_b ?_ | refine w_onone ?_ | refine w_osome ?_ | refine b_asg ?_ | refine b_ret ?_ | refine b_retN ?_ | refine b_expr ?_ | refine b_pass ?_ | refine b_ifs ?_ | refine b_for ?_ | refine b_asgO ?_ | refine b_asgR ?_ | refine bw_add ?_ | refine bw_sub ?_ | refine cw_lt ?_ | refine cw_le ?_ | refine cw_gt ?_ | refine cw_ge ?_ | refine cw_eqI ?_ | refine cw_neI ?_ | refine bl_w ?_ | refine if_t ?_ | refine if_f ?_ | refine if_s (fun _ => ?_) (fun _ => ?_) | refine w_comp ?_ | refine b_nil ?_ | refine b_par ?_ | refine b_par2 ?_ | refine b_appO rfl ?_ | refine b_extO rfl ?_ | refine fl_rt ?_ | refine fl_nx ?_ | refine And.intro (by assumption) ?_ | refine And.intro rfl ?_ | refine ⟨_, rfl, ?_⟩ | refine ⟨_, _, rfl, rfl, ?_⟩ | refine ⟨_, rfl, rfl, ?_⟩ | refine ⟨_, _, _, rfl, rfl, rfl, ?_⟩ | refine ⟨_, _, _, rfl, rfl, atD0, ?_⟩ | refine ⟨_, _, _, rfl, rfl, atD1, ?_⟩ | refine ⟨_, _, rfl, rfl, rfl, ?_⟩ | refine for_cons rfl ?_ | refine for_nil ?_ | dsimp only))
        · refine ⟨.v (.int ns.sum), by simp [biR, R.rd, D.seq, ints_map], ?_⟩
          (repeat' (first | refine w_v rfl ?_ | refine w_int ?_ | refine w_bl ?_ | refine w_non ?_ | refine w_str ?_ | refine w_cons ?_ | refine w_nil ?_ | refine w_bin ?_ | refine w_cmp ?_ | refine w_call ?_ | refine w_bi ?_ | refine w_isi ?_ | refine w_ix ?_ | refine w_and ?_ | refine w_or ?_ | refine w_not ?_ | refine w_chn ?_ | refine w_tup ?_ | refine w_lst ?_ | refine w_ite ?_ | refine w_neg ?_ | refine w_sl ?_ | refine sl_t ?_ | refine sl_n ?_ | refine sl_b ?_ | refine sl_l ?_ | refine w_rev ?_ | refine rv_t ?_ | refine rv_n ?_ | refine rv_l ?_ | refine rv_b ?_ | refine w_onone ?_ | refine w_osome ?_ | refine b_asg ?_ | refine b_ret ?_ | refine b_retN ?_ | refine b_expr ?_ | refine b_pass ?_ | refine b_ifs ?_ | refine b_for ?_ | refine b_asgO ?_ | refine b_asgR ?_ | refine bw_add ?_ | refine bw_sub ?_ | refine cw_lt ?_ | refine cw_le ?_ | refine cw_gt ?_ | refine cw_ge ?_ | refine cw_eqI ?_ | refine cw_neI ?_ | refine bl_w ?_ | refine if_t ?_ | refine if_f ?_ | refine w_comp ?_ | refine b_nil ?_ | refine b_par ?_ | refine b_par2 ?_ | refine b_appO rfl ?_ | refine b_extO rfl ?_ | refine fl_rt ?_ | refine fl_nx ?_ | refine And.intro (by assumption) ?_ | refine And.intro rfl ?_ | refine ⟨_, rfl, ?_⟩ | refine ⟨_, _, rfl, rfl, ?_⟩ | refine ⟨_, rfl, rfl, ?_⟩ | refine ⟨_, _, _, rfl, rfl, rfl, ?_⟩ | refine ⟨_, _, _, rfl, rfl, atD0, ?_⟩ | refine ⟨_, _, _, rfl, rfl, atD1, ?_⟩ | refine ⟨_, _, rfl, rfl, rfl, ?_⟩ | refine for_cons rfl ?_ | refine for_nil ?_ | dsimp only))
          simp_all [isEx, sumD, ints_map]
        · simp_all [isEx]
    · have e := isEx_len (t := t) hl
      (repeat' (first | refine w_v rfl ?_ | refine w_int ?_ | refine w_bl ?_ | refine w_non ?_ | refine w_str ?_ | refine w_cons ?_ | refine w_nil ?_ | refine w_bin ?_ | refine w_cmp ?_ | refine w_call ?_ | refine w_bi ?_ | refine w_isi ?_ | refine w_ix ?_ | refine w_and ?_ | refine w_or ?_ | refine w_not ?_ | refine w_chn ?_ | refine w_tup ?_ | refine w_lst ?_ | refine w_ite ?_ | refine w_neg ?_ | refine w_sl ?_ | refine sl_t ?_ | refine sl_n ?_ | refine sl_b ?_ | refine sl_l ?_ | refine w_rev ?_ | refine rv_t ?_ | refine rv_n ?_ | refine rv_l ?_ | refine rv_b ?_ | refine w_onone ?_ | refine w_osome ?_ | refine b_asg ?_ | refine b_ret ?_ | refine b_retN ?_ | refine b_expr ?_ | refine b_pass ?_ | refine b_ifs ?_ | refine b_for ?_ | refine b_asgO ?_ | refine b_asgR ?_ | refine bw_add ?_ | refine bw_sub ?_ | refine cw_lt ?_ | refine cw_le ?_ | refine cw_gt ?_ | refine cw_ge ?_ | refine cw_eqI ?_ | refine cw_neI ?_ | refine bl_w ?_ | refine if_t ?_ | refine if_f ?_ | refine if_s (fun _ => ?_) (fun _ => ?_) | refine w_comp ?_ | refine b_nil ?_ | refine b_par ?_ | refine b_par2 ?_ | refine b_appO rfl ?_ | refine b_extO rfl ?_ | refine fl_rt ?_ | refine fl_nx ?_ | refine And.intro (by assumption) ?_ | refine And.intro rfl ?_ | refine ⟨_, rfl, ?_⟩ | refine ⟨_, _, rfl, rfl, ?_⟩ | refine ⟨_, rfl, rfl, ?_⟩ | refine ⟨_, _, _, rfl, rfl, rfl, ?_⟩ | refine ⟨_, _, _, rfl, rfl, atD0, ?_⟩ | refine ⟨_, _, _, rfl, rfl, atD1, ?_⟩ | refine ⟨_, _, rfl, rfl, rfl, ?_⟩ | refine for_cons rfl ?_ | refine for_nil ?_ | dsimp only))
      all_goals simp_all
      omega
  all_goals
    (repeat' (first | refine w_v rfl ?_ | refine w_int ?_ | refine w_bl ?_ | refine w_non ?_ | refine w_str ?_ | refine w_cons ?_ | refine w_nil ?_ | refine w_bin ?_ | refine w_cmp ?_ | refine w_call ?_ | refine w_bi ?_ | refine w_isi ?_ | refine w_ix ?_ | refine w_and ?_ | refine w_or ?_ | refine w_not ?_ | refine w_chn ?_ | refine w_tup ?_ | refine w_lst ?_ | refine w_ite ?_ | refine w_neg ?_ | refine w_sl ?_ | refine sl_t ?_ | refine sl_n ?_ | refine sl_b ?_ | refine sl_l ?_ | refine w_rev ?_ | refine rv_t ?_ | refine rv_n ?_ | refine rv_l ?_ | refine rv_b ?_ | refine w_onone ?_ | refine w_osome ?_ | refine b_asg ?_ | refine b_ret ?_ | refine b_retN ?_ | refine b_expr ?_ | refine b_pass ?_ | refine b_ifs ?_ | refine b_for ?_ | refine b_asgO ?_ | refine b_asgR ?_ | refine bw_add ?_ | refine bw_sub ?_ | refine cw_lt ?_ | refine cw_le ?_ | refine cw_gt ?_ | refine cw_ge ?_ | refine cw_eqI ?_ | refine cw_neI ?_ | refine bl_w ?_ | refine if_t ?_ | refine if_f ?_ | refine if_s (fun _ => ?_) (fun _ => ?_) | refine w_comp ?_ | refine b_nil ?_ | refine b_par ?_ | refine b_par2 ?_ | refine b_appO rfl ?_ | refine b_extO rfl ?_ | refine fl_rt ?_ | refine fl_nx ?_ | refine And.intro (by assumption) ?_ | refine And.intro rfl ?_ | refine ⟨_, rfl, ?_⟩ | refine ⟨_, _, rfl, rfl, ?_⟩ | refine ⟨_, rfl, rfl, ?_⟩ | refine ⟨_, _, _, rfl, rfl, rfl, ?_⟩ | refine ⟨_, _, _, rfl, rfl, atD0, ?_⟩ | refine ⟨_, _, _, rfl, rfl, atD1, ?_⟩ | refine ⟨_, _, rfl, rfl, rfl, ?_⟩ | refine for_cons rfl ?_ | refine for_nil ?_ | dsimp only))
    all_goals simp_all [isEx]
/-! ### boards -/
def tupI (ns : List Int) : D := .tup (ns.map .int)
abbrev Ex : Type := List Int × List Int
def exD (e : Ex) : D := .tup [tupI e.1, tupI e.2]
def bD (t : Int) (es : List Ex) : D := .tup [.int t, .tup (es.map exD)]
def standsD : D → Bool
  | .tup [.int t, .tup es] => decide (2 ≤ t) && decide (t ≤ 4) && decide (es.length ≤ 6) && es.all (isEx t)
  | _ => false
theorem standsD_len {xs : List D} (h : xs.length ≠ 2) : standsD (.tup xs) = false := by
  unfold standsD
  split
  · rename_i e; cases e; simp at h
  · rfl
theorem stands_eq {p : Pg} (h1 : p.Pt 1 = some f_is_integer) (h2 : p.Pt 2 = some f_are_numbers) (h3 : p.Pt 3 = some f_is_exchange) (h4 : p.Pt 4 = some f_stands) {n m : Nat} {d : D} {h : MH} (hd : d.okN m = true) : p.c (n + 4) 4 [.v d] h = .ok (.v (.bl (standsD d))) h := by
  refine O.eq_of (Pg.call_wp h4 rfl ?_)
  unfold f_stands b_stands
  have hn := noObj_of hd
  cases d
  case obj => cases hn
  case tup xs =>
    obtain ⟨m, rfl, hx⟩ := ok_tup hd
    by_cases hl : xs.length = 2
    · obtain ⟨a, b, rfl⟩ := len2 hl
      have ha : a.okN m = true := hx a (by simp)
      have hb : b.okN m = true := hx b (by simp)
      have hna := noObj_of ha
      have hnb := noObj_of hb
      (repeat' (first | refine w_v rfl ?_ | refine w_int ?_ | refine w_bl ?_ | refine w_non ?_ | refine w_str ?_ | refine w_cons ?_ | refine w_nil ?_ | refine w_bin ?_ | refine w_cmp ?_ | refine w_call ?_ | refine w_bi ?_ | refine w_isi ?_ | refine w_ix ?_ | refine w_and ?_ | refine w_or ?_ | refine w_not ?_ | refine w_chn ?_ | refine w_tup ?_ | refine w_lst ?_ | refine w_ite ?_ | refine w_neg ?_ | refine w_sl ?_ | refine sl_t ?_ | refine sl_n ?_ | refine sl_b ?_ | refine sl_l ?_ | refine w_rev ?_ | refine rv_t ?_ | refine rv_n ?_ | refine rv_l ?_ | refine rv_b ?_ | refine w_onone ?_ | refine w_osome ?_ | refine b_asg ?_ | refine b_ret ?_ | refine b_retN ?_ | refine b_expr ?_ | refine b_pass ?_ | refine b_ifs ?_ | refine b_for ?_ | refine b_asgO ?_ | refine b_asgR ?_ | refine bw_add ?_ | refine bw_sub ?_ | refine cw_lt ?_ | refine cw_le ?_ | refine cw_gt ?_ | refine cw_ge ?_ | refine cw_eqI ?_ | refine cw_neI ?_ | refine bl_w ?_ | refine if_t ?_ | refine if_f ?_ | refine if_s (fun _ => ?_) (fun _ => ?_) | refine w_comp ?_ | refine b_nil ?_ | refine b_par ?_ | refine b_par2 ?_ | refine b_appO rfl ?_ | refine b_extO rfl ?_ | refine fl_rt ?_ | refine fl_nx ?_ | refine And.intro (by assumption) ?_ | refine And.intro rfl ?_ | refine ⟨_, rfl, ?_⟩ | refine ⟨_, _, rfl, rfl, ?_⟩ | refine ⟨_, rfl, rfl, ?_⟩ | refine ⟨_, _, _, rfl, rfl, rfl, ?_⟩ | refine ⟨_, _, _, rfl, rfl, atD0, ?_⟩ | refine ⟨_, _, _, rfl, rfl, atD1, ?_⟩ | refine ⟨_, _, rfl, rfl, rfl, ?_⟩ | refine for_cons rfl ?_ | refine for_nil ?_ | dsimp only))
      refine O.wp_eq (is_integer_eq h1 hna) ?_
      cases a
      case obj => cases hna
      case int t =>
        cases b
        case obj => cases hnb
        case tup es =>
          obtain ⟨m, rfl, hy⟩ := ok_tup hb
          (repeat' (first | refine w_v rfl ?_ | refine w_int ?_ | refine w_bl ?_ | refine w_non ?_ | refine w_str ?_ | refine w_cons ?_ | refine w_nil ?_ | refine w_bin ?_ | refine w_cmp ?_ | refine w_call ?_ | refine w_bi ?_ | refine w_isi ?_ | refine w_ix ?_ | refine w_and ?_ | refine w_or ?_ | refine w_not ?_ | refine w_chn ?_ | refine w_tup ?_ | refine w_lst ?_ | refine w_ite ?_ | refine w_neg ?_ | refine w_sl ?_ | refine sl_t ?_ | refine sl_n ?_ | refine sl_b ?_ | refine sl_l ?_ | refine w_rev ?_ | refine rv_t ?_ | refine rv_n ?_ | refine rv_l ?_ | refine rv_b ?_ | refine w_onone ?_ | refine w_osome ?_ | refine b_asg ?_ | refine b_ret ?_ | refine b_retN ?_ | refine b_expr ?_ | refine b_pass ?_ | refine b_ifs ?_ | refine b_for ?_ | refine b_asgO ?_ | refine b_asgR ?_ | refine bw_add ?_ | refine bw_sub ?_ | refine cw_lt ?_ | refine cw_le ?_ | refine cw_gt ?_ | refine cw_ge ?_ | refine cw_eqI ?_ | refine cw_neI ?_ | refine bl_w ?_ | refine if_t ?_ | refine if_f ?_ | refine if_s (fun _ => ?_) (fun _ => ?_) | refine w_comp ?_ | refine b_nil ?_ | refine b_par ?_ | refine b_par2 ?_ | refine b_appO rfl ?_ | refine b_extO rfl ?_ | refine fl_rt ?_ | refine fl_nx ?_ | refine And.intro (by assumption) ?_ | refine And.intro rfl ?_ | refine ⟨_, rfl, ?_⟩ | refine ⟨_, _, rfl, rfl, ?_⟩ | refine ⟨_, rfl, rfl, ?_⟩ | refine ⟨_, _, _, rfl, rfl, rfl, ?_⟩ | refine ⟨_, _, _, rfl, rfl, atD0, ?_⟩ | refine ⟨_, _, _, rfl, rfl, atD1, ?_⟩ | refine ⟨_, _, rfl, rfl, rfl, ?_⟩ | refine for_cons rfl ?_ | refine for_nil ?_ | dsimp only))
          · rename_i q
            have q' : isInt 2 4 (.int t) = false := by simpa using q
            simp only [isInt] at q'
            simp [standsD, q']
          · rename_i q q2
            have q' : (6 : Int) < es.length := by simpa using q2
            have : ¬ es.length ≤ 6 := by omega
            simp [standsD, this]
          · rename_i q q2
            have q' : ¬ (6 : Int) < es.length := by simpa using q2
            have q3 : isInt 2 4 (.int t) = true := by simpa using q
            have q4 := q3
            simp only [isInt, Bool.and_eq_true, decide_eq_true_eq] at q4
            refine c_pure (fun d => .bl (isEx t d)) (fun d hd => ⟨_, rfl, ?_⟩) (by omega) ?_
            · (repeat' (first | refine w_v rfl ?_ | refine w_int ?_ | refine w_bl ?_ | refine w_non ?_ | refine w_str ?_ | refine w_cons ?_ | refine w_nil ?_ | refine w_bin ?_ | refine w_cmp ?_ | refine w_call ?_ | refine w_bi ?_ | refine w_isi ?_ | refine w_ix ?_ | refine w_and ?_ | refine w_or ?_ | refine w_not ?_ | refine w_chn ?_ | refine w_tup ?_ | refine w_lst ?_ | refine w_ite ?_ | refine w_neg ?_ | refine w_sl ?_ | refine sl_t ?_ | refine sl_n ?_ | refine sl_b ?_ | refine sl_l ?_ | refine w_rev ?_ | refine rv_t ?_ | refine rv_n ?_ | refine rv_l ?_ | refine rv_b ?_ | refine w_onone ?_ | refine w_osome ?_ | refine b_asg ?_ | refine b_ret ?_ | refine b_retN ?_ | refine b_expr ?_ | refine b_pass ?_ | refine b_ifs ?_ | refine b_for ?_ | refine b_asgO ?_ | refine b_asgR ?_ | refine bw_add ?_ | refine bw_sub ?_ | refine cw_lt ?_ | refine cw_le ?_ | refine cw_gt ?_ | refine cw_ge ?_ | refine cw_eqI ?_ | refine cw_neI ?_ | refine bl_w ?_ | refine if_t ?_ | refine if_f ?_ | refine w_comp ?_ | refine b_nil ?_ | refine b_par ?_ | refine b_par2 ?_ | refine b_appO rfl ?_ | refine b_extO rfl ?_ | refine fl_rt ?_ | refine fl_nx ?_ | refine And.intro (by assumption) ?_ | refine And.intro rfl ?_ | refine ⟨_, rfl, ?_⟩ | refine ⟨_, _, rfl, rfl, ?_⟩ | refine ⟨_, rfl, rfl, ?_⟩ | refine ⟨_, _, _, rfl, rfl, rfl, ?_⟩ | refine ⟨_, _, _, rfl, rfl, atD0, ?_⟩ | refine ⟨_, _, _, rfl, rfl, atD1, ?_⟩ | refine ⟨_, _, rfl, rfl, rfl, ?_⟩ | refine for_cons rfl ?_ | refine for_nil ?_ | dsimp only))
              exact O.wp_eq (is_exchange_eq h1 h2 h3 (hy d hd) (by omega)) ⟨rfl, rfl⟩
            · (repeat' (first | refine w_v rfl ?_ | refine w_int ?_ | refine w_bl ?_ | refine w_non ?_ | refine w_str ?_ | refine w_cons ?_ | refine w_nil ?_ | refine w_bin ?_ | refine w_cmp ?_ | refine w_call ?_ | refine w_bi ?_ | refine w_isi ?_ | refine w_ix ?_ | refine w_and ?_ | refine w_or ?_ | refine w_not ?_ | refine w_chn ?_ | refine w_tup ?_ | refine w_lst ?_ | refine w_ite ?_ | refine w_neg ?_ | refine w_sl ?_ | refine sl_t ?_ | refine sl_n ?_ | refine sl_b ?_ | refine sl_l ?_ | refine w_rev ?_ | refine rv_t ?_ | refine rv_n ?_ | refine rv_l ?_ | refine rv_b ?_ | refine w_onone ?_ | refine w_osome ?_ | refine b_asg ?_ | refine b_ret ?_ | refine b_retN ?_ | refine b_expr ?_ | refine b_pass ?_ | refine b_ifs ?_ | refine b_for ?_ | refine b_asgO ?_ | refine b_asgR ?_ | refine bw_add ?_ | refine bw_sub ?_ | refine cw_lt ?_ | refine cw_le ?_ | refine cw_gt ?_ | refine cw_ge ?_ | refine cw_eqI ?_ | refine cw_neI ?_ | refine bl_w ?_ | refine if_t ?_ | refine if_f ?_ | refine w_comp ?_ | refine b_nil ?_ | refine b_par ?_ | refine b_par2 ?_ | refine b_appO rfl ?_ | refine b_extO rfl ?_ | refine fl_rt ?_ | refine fl_nx ?_ | refine And.intro (by assumption) ?_ | refine And.intro rfl ?_ | refine ⟨_, rfl, ?_⟩ | refine ⟨_, _, rfl, rfl, ?_⟩ | refine ⟨_, rfl, rfl, ?_⟩ | refine ⟨_, _, _, rfl, rfl, rfl, ?_⟩ | refine ⟨_, _, _, rfl, rfl, atD0, ?_⟩ | refine ⟨_, _, _, rfl, rfl, atD1, ?_⟩ | refine ⟨_, _, rfl, rfl, rfl, ?_⟩ | refine for_cons rfl ?_ | refine for_nil ?_ | dsimp only))
              refine ⟨.v (.bl ((es.map (isEx t)).all id)), by simp [biR, R.rd, bls_map], ?_⟩
              (repeat' (first | refine w_v rfl ?_ | refine w_int ?_ | refine w_bl ?_ | refine w_non ?_ | refine w_str ?_ | refine w_cons ?_ | refine w_nil ?_ | refine w_bin ?_ | refine w_cmp ?_ | refine w_call ?_ | refine w_bi ?_ | refine w_isi ?_ | refine w_ix ?_ | refine w_and ?_ | refine w_or ?_ | refine w_not ?_ | refine w_chn ?_ | refine w_tup ?_ | refine w_lst ?_ | refine w_ite ?_ | refine w_neg ?_ | refine w_sl ?_ | refine sl_t ?_ | refine sl_n ?_ | refine sl_b ?_ | refine sl_l ?_ | refine w_rev ?_ | refine rv_t ?_ | refine rv_n ?_ | refine rv_l ?_ | refine rv_b ?_ | refine w_onone ?_ | refine w_osome ?_ | refine b_asg ?_ | refine b_ret ?_ | refine b_retN ?_ | refine b_expr ?_ | refine b_pass ?_ | refine b_ifs ?_ | refine b_for ?_ | refine b_asgO ?_ | refine b_asgR ?_ | refine bw_add ?_ | refine bw_sub ?_ | refine cw_lt ?_ | refine cw_le ?_ | refine cw_gt ?_ | refine cw_ge ?_ | refine cw_eqI ?_ | refine cw_neI ?_ | refine bl_w ?_ | refine if_t ?_ | refine if_f ?_ | refine w_comp ?_ | refine b_nil ?_ | refine b_par ?_ | refine b_par2 ?_ | refine b_appO rfl ?_ | refine b_extO rfl ?_ | refine fl_rt ?_ | refine fl_nx ?_ | refine And.intro (by assumption) ?_ | refine And.intro rfl ?_ | refine ⟨_, rfl, ?_⟩ | refine ⟨_, _, rfl, rfl, ?_⟩ | refine ⟨_, rfl, rfl, ?_⟩ | refine ⟨_, _, _, rfl, rfl, rfl, ?_⟩ | refine ⟨_, _, _, rfl, rfl, atD0, ?_⟩ | refine ⟨_, _, _, rfl, rfl, atD1, ?_⟩ | refine ⟨_, _, rfl, rfl, rfl, ?_⟩ | refine for_cons rfl ?_ | refine for_nil ?_ | dsimp only))
              have : es.length ≤ 6 := by omega
              simp [standsD, q4, this]
        all_goals
          (repeat' (first | refine w_v rfl ?_ | refine w_int ?_ | refine w_bl ?_ | refine w_non ?_ | refine w_str ?_ | refine w_cons ?_ | refine w_nil ?_ | refine w_bin ?_ | refine w_cmp ?_ | refine w_call ?_ | refine w_bi ?_ | refine w_isi ?_ | refine w_ix ?_ | refine w_and ?_ | refine w_or ?_ | refine w_not ?_ | refine w_chn ?_ | refine w_tup ?_ | refine w_lst ?_ | refine w_ite ?_ | refine w_neg ?_ | refine w_sl ?_ | refine sl_t ?_ | refine sl_n ?_ | refine sl_b ?_ | refine sl_l ?_ | refine w_rev ?_ | refine rv_t ?_ | refine rv_n ?_ | refine rv_l ?_ | refine rv_b ?_ | refine w_onone ?_ | refine w_osome ?_ | refine b_asg ?_ | refine b_ret ?_ | refine b_retN ?_ | refine b_expr ?_ | refine b_pass ?_ | refine b_ifs ?_ | refine b_for ?_ | refine b_asgO ?_ | refine b_asgR ?_ | refine bw_add ?_ | refine bw_sub ?_ | refine cw_lt ?_ | refine cw_le ?_ | refine cw_gt ?_ | refine cw_ge ?_ | refine cw_eqI ?_ | refine cw_neI ?_ | refine bl_w ?_ | refine if_t ?_ | refine if_f ?_ | refine if_s (fun _ => ?_) (fun _ => ?_) | refine w_comp ?_ | refine b_nil ?_ | refine b_par ?_ | refine b_par2 ?_ | refine b_appO rfl ?_ | refine b_extO rfl ?_ | refine fl_rt ?_ | refine fl_nx ?_ | refine And.intro (by assumption) ?_ | refine And.intro rfl ?_ | refine ⟨_, rfl, ?_⟩ | refine ⟨_, _, rfl, rfl, ?_⟩ | refine ⟨_, rfl, rfl, ?_⟩ | refine ⟨_, _, _, rfl, rfl, rfl, ?_⟩ | refine ⟨_, _, _, rfl, rfl, atD0, ?_⟩ | refine ⟨_, _, _, rfl, rfl, atD1, ?_⟩ | refine ⟨_, _, rfl, rfl, rfl, ?_⟩ | refine for_cons rfl ?_ | refine for_nil ?_ | dsimp only))
          all_goals simp_all [standsD]
      all_goals
        (repeat' (first | refine w_v rfl ?_ | refine w_int ?_ | refine w_bl ?_ | refine w_non ?_ | refine w_str ?_ | refine w_cons ?_ | refine w_nil ?_ | refine w_bin ?_ | refine w_cmp ?_ | refine w_call ?_ | refine w_bi ?_ | refine w_isi ?_ | refine w_ix ?_ | refine w_and ?_ | refine w_or ?_ | refine w_not ?_ | refine w_chn ?_ | refine w_tup ?_ | refine w_lst ?_ | refine w_ite ?_ | refine w_neg ?_ | refine w_sl ?_ | refine sl_t ?_ | refine sl_n ?_ | refine sl_b ?_ | refine sl_l ?_ | refine w_rev ?_ | refine rv_t ?_ | refine rv_n ?_ | refine rv_l ?_ | refine rv_b ?_ | refine w_onone ?_ | refine w_osome ?_ | refine b_asg ?_ | refine b_ret ?_ | refine b_retN ?_ | refine b_expr ?_ | refine b_pass ?_ | refine b_ifs ?_ | refine b_for ?_ | refine b_asgO ?_ | refine b_asgR ?_ | refine bw_add ?_ | refine bw_sub ?_ | refine cw_lt ?_ | refine cw_le ?_ | refine cw_gt ?_ | refine cw_ge ?_ | refine cw_eqI ?_ | refine cw_neI ?_ | refine bl_w ?_ | refine if_t ?_ | refine if_f ?_ | refine if_s (fun _ => ?_) (fun _ => ?_) | refine w_comp ?_ | refine b_nil ?_ | refine b_par ?_ | refine b_par2 ?_ | refine b_appO rfl ?_ | refine b_extO rfl ?_ | refine fl_rt ?_ | refine fl_nx ?_ | refine And.intro (by assumption) ?_ | refine And.intro rfl ?_ | refine ⟨_, rfl, ?_⟩ | refine ⟨_, _, rfl, rfl, ?_⟩ | refine ⟨_, rfl, rfl, ?_⟩ | refine ⟨_, _, _, rfl, rfl, rfl, ?_⟩ | refine ⟨_, _, _, rfl, rfl, atD0, ?_⟩ | refine ⟨_, _, _, rfl, rfl, atD1, ?_⟩ | refine ⟨_, _, rfl, rfl, rfl, ?_⟩ | refine for_cons rfl ?_ | refine for_nil ?_ | dsimp only))
        all_goals simp_all [standsD, isInt]
    · have e := standsD_len hl
      (repeat' (first | refine w_v rfl ?_ | refine w_int ?_ | refine w_bl ?_ | refine w_non ?_ | refine w_str ?_ | refine w_cons ?_ | refine w_nil ?_ | refine w_bin ?_ | refine w_cmp ?_ | refine w_call ?_ | refine w_bi ?_ | refine w_isi ?_ | refine w_ix ?_ | refine w_and ?_ | refine w_or ?_ | refine w_not ?_ | refine w_chn ?_ | refine w_tup ?_ | refine w_lst ?_ | refine w_ite ?_ | refine w_neg ?_ | refine w_sl ?_ | refine sl_t ?_ | refine sl_n ?_ | refine sl_b ?_ | refine sl_l ?_ | refine w_rev ?_ | refine rv_t ?_ | refine rv_n ?_ | refine rv_l ?_ | refine rv_b ?_ | refine w_onone ?_ | refine w_osome ?_ | refine b_asg ?_ | refine b_ret ?_ | refine b_retN ?_ | refine b_expr ?_ | refine b_pass ?_ | refine b_ifs ?_ | refine b_for ?_ | refine b_asgO ?_ | refine b_asgR ?_ | refine bw_add ?_ | refine bw_sub ?_ | refine cw_lt ?_ | refine cw_le ?_ | refine cw_gt ?_ | refine cw_ge ?_ | refine cw_eqI ?_ | refine cw_neI ?_ | refine bl_w ?_ | refine if_t ?_ | refine if_f ?_ | refine if_s (fun _ => ?_) (fun _ => ?_) | refine w_comp ?_ | refine b_nil ?_ | refine b_par ?_ | refine b_par2 ?_ | refine b_appO rfl ?_ | refine b_extO rfl ?_ | refine fl_rt ?_ | refine fl_nx ?_ | refine And.intro (by assumption) ?_ | refine And.intro rfl ?_ | refine ⟨_, rfl, ?_⟩ | refine ⟨_, _, rfl, rfl, ?_⟩ | refine ⟨_, rfl, rfl, ?_⟩ | refine ⟨_, _, _, rfl, rfl, rfl, ?_⟩ | refine ⟨_, _, _, rfl, rfl, atD0, ?_⟩ | refine ⟨_, _, _, rfl, rfl, atD1, ?_⟩ | refine ⟨_, _, rfl, rfl, rfl, ?_⟩ | refine for_cons rfl ?_ | refine for_nil ?_ | dsimp only))
      all_goals simp_all
      omega
  all_goals
    (repeat' (first | refine w_v rfl ?_ | refine w_int ?_ | refine w_bl ?_ | refine w_non ?_ | refine w_str ?_ | refine w_cons ?_ | refine w_nil ?_ | refine w_bin ?_ | refine w_cmp ?_ | refine w_call ?_ | refine w_bi ?_ | refine w_isi ?_ | refine w_ix ?_ | refine w_and ?_ | refine w_or ?_ | refine w_not ?_ | refine w_chn ?_ | refine w_tup ?_ | refine w_lst ?_ | refine w_ite ?_ | refine w_neg ?_ | refine w_sl ?_ | refine sl_t ?_ | refine sl_n ?_ | refine sl_b ?_ | refine sl_l ?_ | refine w_rev ?_ | refine rv_t ?_ | refine rv_n ?_ | refine rv_l ?_ | refine rv_b ?_ | refine w_onone ?_ | refine w_osome ?_ | refine b_asg ?_ | refine b_ret ?_ | refine b_retN ?_ | refine b_expr ?_ | refine b_pass ?_ | refine b_ifs ?_ | refine b_for ?_ | refine b_asgO ?_ | refine b_asgR ?_ | refine bw_add ?_ | refine bw_sub ?_ | refine cw_lt ?_ | refine cw_le ?_ | refine cw_gt ?_ | refine cw_ge ?_ | refine cw_eqI ?_ | refine cw_neI ?_ | refine bl_w ?_ | refine if_t ?_ | refine if_f ?_ | refine if_s (fun _ => ?_) (fun _ => ?_) | refine w_comp ?_ | refine b_nil ?_ | refine b_par ?_ | refine b_par2 ?_ | refine b_appO rfl ?_ | refine b_extO rfl ?_ | refine fl_rt ?_ | refine fl_nx ?_ | refine And.intro (by assumption) ?_ | refine And.intro rfl ?_ | refine ⟨_, rfl, ?_⟩ | refine ⟨_, _, rfl, rfl, ?_⟩ | refine ⟨_, rfl, rfl, ?_⟩ | refine ⟨_, _, _, rfl, rfl, rfl, ?_⟩ | refine ⟨_, _, _, rfl, rfl, atD0, ?_⟩ | refine ⟨_, _, _, rfl, rfl, atD1, ?_⟩ | refine ⟨_, _, rfl, rfl, rfl, ?_⟩ | refine for_cons rfl ?_ | refine for_nil ?_ | dsimp only))
    all_goals simp_all [standsD]
structure EV (t : Int) (e : Ex) : Prop where
  l1 : (e.1.length : Int) = t
  l2 : (e.2.length : Int) = t
  b1 : ∀ i ∈ e.1, 0 ≤ i ∧ i ≤ 5
  b2 : ∀ i ∈ e.2, 0 ≤ i ∧ i ≤ 5
  s1 : 0 < e.1.sum
structure BV (t : Int) (es : List Ex) : Prop where
  t2 : 2 ≤ t
  t4 : t ≤ 4
  len : es.length ≤ 6
  ex : ∀ e ∈ es, EV t e
theorem ok_tupI {n : Nat} {ns : List Int} : (tupI ns).okN (n + 1) = true := by simp [tupI, D.okN]
theorem ok_exD {n : Nat} {e : Ex} : (exD e).okN (n + 2) = true := by simp [exD, D.okN, ok_tupI]
theorem ok_bD {n : Nat} {t : Int} {es : List Ex} : (bD t es).okN (n + 4) = true := by
  simp only [bD, D.okN, List.all_cons, List.all_nil, Bool.true_and, Bool.and_true, List.all_map, List.all_eq_true]
  intro e _
  exact ok_exD
theorem areNum_tupI {c lo hi : Int} {ns : List Int} (h1 : (ns.length : Int) = c) (h2 : ∀ i ∈ ns, lo ≤ i ∧ i ≤ hi) : areNum c lo hi (tupI ns) = true := by
  simp only [tupI, areNum, List.length_map, h1, decide_true, Bool.true_and, List.all_map, List.all_eq_true]
  intro i hi
  have := h2 i hi
  simp [isInt, this]
theorem isEx_exD {t : Int} {e : Ex} (v : EV t e) : isEx t (exD e) = true := by
  have a := areNum_tupI v.l1 v.b1
  have b := areNum_tupI v.l2 v.b2
  have c := v.s1
  simp only [exD, isEx, a, b, Bool.true_and, decide_eq_true_eq]
  simpa [tupI, sumD, ints_map] using c
theorem stands_bD {t : Int} {es : List Ex} (v : BV t es) : standsD (bD t es) = true := by
  have a := v.t2
  have b := v.t4
  have c := v.len
  simp only [bD, standsD, a, b, List.length_map, c, decide_true, Bool.true_and, List.all_map, List.all_eq_true]
  intro e he
  exact isEx_exD (v.ex e he)
theorem need_board_eq {p : Pg} (h1 : p.Pt 1 = some f_is_integer) (h2 : p.Pt 2 = some f_are_numbers) (h3 : p.Pt 3 = some f_is_exchange) (h4 : p.Pt 4 = some f_stands) (h13 : p.Pt 13 = some f_need_board) {n m : Nat} {d : D} {h : MH} (hd : d.okN m = true) (hs : standsD d = true) : p.c (n + 5) 13 [.v d] h = .ok (.v .non) h := by
  refine O.eq_of (Pg.call_wp h13 rfl ?_)
  unfold f_need_board b_need_board
  (repeat' (first | refine w_v rfl ?_ | refine w_int ?_ | refine w_bl ?_ | refine w_non ?_ | refine w_str ?_ | refine w_cons ?_ | refine w_nil ?_ | refine w_bin ?_ | refine w_cmp ?_ | refine w_call ?_ | refine w_bi ?_ | refine w_isi ?_ | refine w_ix ?_ | refine w_and ?_ | refine w_or ?_ | refine w_not ?_ | refine w_chn ?_ | refine w_tup ?_ | refine w_lst ?_ | refine w_ite ?_ | refine w_neg ?_ | refine w_sl ?_ | refine sl_t ?_ | refine sl_n ?_ | refine sl_b ?_ | refine sl_l ?_ | refine w_rev ?_ | refine rv_t ?_ | refine rv_n ?_ | refine rv_l ?_ | refine rv_b ?_ | refine w_onone ?_ | refine w_osome ?_ | refine b_asg ?_ | refine b_ret ?_ | refine b_retN ?_ | refine b_expr ?_ | refine b_pass ?_ | refine b_ifs ?_ | refine b_for ?_ | refine b_asgO ?_ | refine b_asgR ?_ | refine bw_add ?_ | refine bw_sub ?_ | refine cw_lt ?_ | refine cw_le ?_ | refine cw_gt ?_ | refine cw_ge ?_ | refine cw_eqI ?_ | refine cw_neI ?_ | refine bl_w ?_ | refine if_t ?_ | refine if_f ?_ | refine w_comp ?_ | refine b_nil ?_ | refine b_par ?_ | refine b_par2 ?_ | refine b_appO rfl ?_ | refine b_extO rfl ?_ | refine fl_rt ?_ | refine fl_nx ?_ | refine And.intro (by assumption) ?_ | refine And.intro rfl ?_ | refine ⟨_, rfl, ?_⟩ | refine ⟨_, _, rfl, rfl, ?_⟩ | refine ⟨_, rfl, rfl, ?_⟩ | refine ⟨_, _, _, rfl, rfl, rfl, ?_⟩ | refine ⟨_, _, _, rfl, rfl, atD0, ?_⟩ | refine ⟨_, _, _, rfl, rfl, atD1, ?_⟩ | refine ⟨_, _, rfl, rfl, rfl, ?_⟩ | refine for_cons rfl ?_ | refine for_nil ?_ | dsimp only))
  refine O.wp_eq (stands_eq h1 h2 h3 h4 hd) ?_
  rw [hs]
  (repeat' (first | refine w_v rfl ?_ | refine w_int ?_ | refine w_bl ?_ | refine w_non ?_ | refine w_str ?_ | refine w_cons ?_ | refine w_nil ?_ | refine w_bin ?_ | refine w_cmp ?_ | refine w_call ?_ | refine w_bi ?_ | refine w_isi ?_ | refine w_ix ?_ | refine w_and ?_ | refine w_or ?_ | refine w_not ?_ | refine w_chn ?_ | refine w_tup ?_ | refine w_lst ?_ | refine w_ite ?_ | refine w_neg ?_ | refine w_sl ?_ | refine sl_t ?_ | refine sl_n ?_ | refine sl_b ?_ | refine sl_l ?_ | refine w_rev ?_ | refine rv_t ?_ | refine rv_n ?_ | refine rv_l ?_ | refine rv_b ?_ | refine w_onone ?_ | refine w_osome ?_ | refine b_asg ?_ | refine b_ret ?_ | refine b_retN ?_ | refine b_expr ?_ | refine b_pass ?_ | refine b_ifs ?_ | refine b_for ?_ | refine b_asgO ?_ | refine b_asgR ?_ | refine bw_add ?_ | refine bw_sub ?_ | refine cw_lt ?_ | refine cw_le ?_ | refine cw_gt ?_ | refine cw_ge ?_ | refine cw_eqI ?_ | refine cw_neI ?_ | refine bl_w ?_ | refine if_t ?_ | refine if_f ?_ | refine w_comp ?_ | refine b_nil ?_ | refine b_par ?_ | refine b_par2 ?_ | refine b_appO rfl ?_ | refine b_extO rfl ?_ | refine fl_rt ?_ | refine fl_nx ?_ | refine And.intro (by assumption) ?_ | refine And.intro rfl ?_ | refine ⟨_, rfl, ?_⟩ | refine ⟨_, _, rfl, rfl, ?_⟩ | refine ⟨_, rfl, rfl, ?_⟩ | refine ⟨_, _, _, rfl, rfl, rfl, ?_⟩ | refine ⟨_, _, _, rfl, rfl, atD0, ?_⟩ | refine ⟨_, _, _, rfl, rfl, atD1, ?_⟩ | refine ⟨_, _, rfl, rfl, rfl, ?_⟩ | refine for_cons rfl ?_ | refine for_nil ?_ | dsimp only))
def netL (e : Ex) : List Int := List.zipWith (fun a b => b - a) e.1 e.2
def netD (e : Ex) : D := tupI (netL e)
theorem net_of_eq {p : Pg} (h14 : p.Pt 14 = some f_net_of) {n : Nat} {e : Ex} {h : MH} (hl : e.1.length ≤ 1000000) : p.c (n + 1) 14 [.v (exD e)] h = .ok (.v (netD e)) h := by
  refine O.eq_of (Pg.call_wp h14 rfl ?_)
  unfold f_net_of b_net_of exD tupI
  (repeat' (first | refine w_v rfl ?_ | refine w_int ?_ | refine w_bl ?_ | refine w_non ?_ | refine w_str ?_ | refine w_cons ?_ | refine w_nil ?_ | refine w_bin ?_ | refine w_cmp ?_ | refine w_call ?_ | refine w_bi ?_ | refine w_isi ?_ | refine w_ix ?_ | refine w_and ?_ | refine w_or ?_ | refine w_not ?_ | refine w_chn ?_ | refine w_tup ?_ | refine w_lst ?_ | refine w_ite ?_ | refine w_neg ?_ | refine w_sl ?_ | refine sl_t ?_ | refine sl_n ?_ | refine sl_b ?_ | refine sl_l ?_ | refine w_rev ?_ | refine rv_t ?_ | refine rv_n ?_ | refine rv_l ?_ | refine rv_b ?_ | refine w_onone ?_ | refine w_osome ?_ | refine b_asg ?_ | refine b_ret ?_ | refine b_retN ?_ | refine b_expr ?_ | refine b_pass ?_ | refine b_ifs ?_ | refine b_for ?_ | refine b_asgO ?_ | refine b_asgR ?_ | refine bw_add ?_ | refine bw_sub ?_ | refine cw_lt ?_ | refine cw_le ?_ | refine cw_gt ?_ | refine cw_ge ?_ | refine cw_eqI ?_ | refine cw_neI ?_ | refine bl_w ?_ | refine if_t ?_ | refine if_f ?_ | refine w_comp ?_ | refine b_nil ?_ | refine b_par ?_ | refine b_par2 ?_ | refine b_appO rfl ?_ | refine b_extO rfl ?_ | refine fl_rt ?_ | refine fl_nx ?_ | refine And.intro (by assumption) ?_ | refine And.intro rfl ?_ | refine ⟨_, rfl, ?_⟩ | refine ⟨_, _, rfl, rfl, ?_⟩ | refine ⟨_, rfl, rfl, ?_⟩ | refine ⟨_, _, _, rfl, rfl, rfl, ?_⟩ | refine ⟨_, _, _, rfl, rfl, atD0, ?_⟩ | refine ⟨_, _, _, rfl, rfl, atD1, ?_⟩ | refine ⟨_, _, rfl, rfl, rfl, ?_⟩ | refine for_cons rfl ?_ | refine for_nil ?_ | dsimp only))
  refine c_pure (fun d => match d with | .tup [.int a, .int b] => .int (b - a) | _ => .non) (fun d hd => ?_) ?_ ?_
  · simp only [List.mem_map] at hd
    obtain ⟨⟨x, y⟩, hxy, rfl⟩ := hd
    have hx := (List.of_mem_zip hxy).1
    have hy := (List.of_mem_zip hxy).2
    simp only [List.mem_map] at hx hy
    obtain ⟨a, _, rfl⟩ := hx
    obtain ⟨b, _, rfl⟩ := hy
    refine ⟨_, rfl, ?_⟩
    (repeat' (first | refine w_v rfl ?_ | refine w_int ?_ | refine w_bl ?_ | refine w_non ?_ | refine w_str ?_ | refine w_cons ?_ | refine w_nil ?_ | refine w_bin ?_ | refine w_cmp ?_ | refine w_call ?_ | refine w_bi ?_ | refine w_isi ?_ | refine w_ix ?_ | refine w_and ?_ | refine w_or ?_ | refine w_not ?_ | refine w_chn ?_ | refine w_tup ?_ | refine w_lst ?_ | refine w_ite ?_ | refine w_neg ?_ | refine w_sl ?_ | refine sl_t ?_ | refine sl_n ?_ | refine sl_b ?_ | refine sl_l ?_ | refine w_rev ?_ | refine rv_t ?_ | refine rv_n ?_ | refine rv_l ?_ | refine rv_b ?_ | refine w_onone ?_ | refine w_osome ?_ | refine b_asg ?_ | refine b_ret ?_ | refine b_retN ?_ | refine b_expr ?_ | refine b_pass ?_ | refine b_ifs ?_ | refine b_for ?_ | refine b_asgO ?_ | refine b_asgR ?_ | refine bw_add ?_ | refine bw_sub ?_ | refine cw_lt ?_ | refine cw_le ?_ | refine cw_gt ?_ | refine cw_ge ?_ | refine cw_eqI ?_ | refine cw_neI ?_ | refine bl_w ?_ | refine if_t ?_ | refine if_f ?_ | refine w_comp ?_ | refine b_nil ?_ | refine b_par ?_ | refine b_par2 ?_ | refine b_appO rfl ?_ | refine b_extO rfl ?_ | refine fl_rt ?_ | refine fl_nx ?_ | refine And.intro (by assumption) ?_ | refine And.intro rfl ?_ | refine ⟨_, rfl, ?_⟩ | refine ⟨_, _, rfl, rfl, ?_⟩ | refine ⟨_, rfl, rfl, ?_⟩ | refine ⟨_, _, _, rfl, rfl, rfl, ?_⟩ | refine ⟨_, _, _, rfl, rfl, atD0, ?_⟩ | refine ⟨_, _, _, rfl, rfl, atD1, ?_⟩ | refine ⟨_, _, rfl, rfl, rfl, ?_⟩ | refine for_cons rfl ?_ | refine for_nil ?_ | dsimp only))
  · simp; omega
  · (repeat' (first | refine w_v rfl ?_ | refine w_int ?_ | refine w_bl ?_ | refine w_non ?_ | refine w_str ?_ | refine w_cons ?_ | refine w_nil ?_ | refine w_bin ?_ | refine w_cmp ?_ | refine w_call ?_ | refine w_bi ?_ | refine w_isi ?_ | refine w_ix ?_ | refine w_and ?_ | refine w_or ?_ | refine w_not ?_ | refine w_chn ?_ | refine w_tup ?_ | refine w_lst ?_ | refine w_ite ?_ | refine w_neg ?_ | refine w_sl ?_ | refine sl_t ?_ | refine sl_n ?_ | refine sl_b ?_ | refine sl_l ?_ | refine w_rev ?_ | refine rv_t ?_ | refine rv_n ?_ | refine rv_l ?_ | refine rv_b ?_ | refine w_onone ?_ | refine w_osome ?_ | refine b_asg ?_ | refine b_ret ?_ | refine b_retN ?_ | refine b_expr ?_ | refine b_pass ?_ | refine b_ifs ?_ | refine b_for ?_ | refine b_asgO ?_ | refine b_asgR ?_ | refine bw_add ?_ | refine bw_sub ?_ | refine cw_lt ?_ | refine cw_le ?_ | refine cw_gt ?_ | refine cw_ge ?_ | refine cw_eqI ?_ | refine cw_neI ?_ | refine bl_w ?_ | refine if_t ?_ | refine if_f ?_ | refine w_comp ?_ | refine b_nil ?_ | refine b_par ?_ | refine b_par2 ?_ | refine b_appO rfl ?_ | refine b_extO rfl ?_ | refine fl_rt ?_ | refine fl_nx ?_ | refine And.intro (by assumption) ?_ | refine And.intro rfl ?_ | refine ⟨_, rfl, ?_⟩ | refine ⟨_, _, rfl, rfl, ?_⟩ | refine ⟨_, rfl, rfl, ?_⟩ | refine ⟨_, _, _, rfl, rfl, rfl, ?_⟩ | refine ⟨_, _, _, rfl, rfl, atD0, ?_⟩ | refine ⟨_, _, _, rfl, rfl, atD1, ?_⟩ | refine ⟨_, _, rfl, rfl, rfl, ?_⟩ | refine for_cons rfl ?_ | refine for_nil ?_ | dsimp only))
    simp only [netD, tupI, netL]
    refine ⟨?_, trivial⟩
    congr 2
    generalize e.1 = xs, e.2 = ys
    induction xs generalizing ys with
    | nil => rfl
    | cons x xs ih => cases ys <;> simp_all
theorem all_nets_eq {p : Pg} (h14 : p.Pt 14 = some f_net_of) (h15 : p.Pt 15 = some f_all_nets) {n : Nat} {t : Int} {es : List Ex} {h : MH} (hl : es.length ≤ 1000000) (he : ∀ e ∈ es, e.1.length ≤ 1000000) : p.c (n + 2) 15 [.v (bD t es)] h = .ok (.nl (es.map netD)) h := by
  refine O.eq_of (Pg.call_wp h15 rfl ?_)
  unfold f_all_nets b_all_nets bD
  (repeat' (first | refine w_v rfl ?_ | refine w_int ?_ | refine w_bl ?_ | refine w_non ?_ | refine w_str ?_ | refine w_cons ?_ | refine w_nil ?_ | refine w_bin ?_ | refine w_cmp ?_ | refine w_call ?_ | refine w_bi ?_ | refine w_isi ?_ | refine w_ix ?_ | refine w_and ?_ | refine w_or ?_ | refine w_not ?_ | refine w_chn ?_ | refine w_tup ?_ | refine w_lst ?_ | refine w_ite ?_ | refine w_neg ?_ | refine w_sl ?_ | refine sl_t ?_ | refine sl_n ?_ | refine sl_b ?_ | refine sl_l ?_ | refine w_rev ?_ | refine rv_t ?_ | refine rv_n ?_ | refine rv_l ?_ | refine rv_b ?_ | refine w_onone ?_ | refine w_osome ?_ | refine b_asg ?_ | refine b_ret ?_ | refine b_retN ?_ | refine b_expr ?_ | refine b_pass ?_ | refine b_ifs ?_ | refine b_for ?_ | refine b_asgO ?_ | refine b_asgR ?_ | refine bw_add ?_ | refine bw_sub ?_ | refine cw_lt ?_ | refine cw_le ?_ | refine cw_gt ?_ | refine cw_ge ?_ | refine cw_eqI ?_ | refine cw_neI ?_ | refine bl_w ?_ | refine if_t ?_ | refine if_f ?_ | refine w_comp ?_ | refine b_nil ?_ | refine b_par ?_ | refine b_par2 ?_ | refine b_appO rfl ?_ | refine b_extO rfl ?_ | refine fl_rt ?_ | refine fl_nx ?_ | refine And.intro (by assumption) ?_ | refine And.intro rfl ?_ | refine ⟨_, rfl, ?_⟩ | refine ⟨_, _, rfl, rfl, ?_⟩ | refine ⟨_, rfl, rfl, ?_⟩ | refine ⟨_, _, _, rfl, rfl, rfl, ?_⟩ | refine ⟨_, _, _, rfl, rfl, atD0, ?_⟩ | refine ⟨_, _, _, rfl, rfl, atD1, ?_⟩ | refine ⟨_, _, rfl, rfl, rfl, ?_⟩ | refine for_cons rfl ?_ | refine for_nil ?_ | dsimp only))
  refine c_pure (fun d => match d with | .tup [.tup a, .tup b] => tupI (netL ((ints? a).getD [], (ints? b).getD [])) | _ => .non) (fun d hd => ?_) (by simpa using hl) ?_
  · simp only [List.mem_map] at hd
    obtain ⟨e, hm, rfl⟩ := hd
    refine ⟨_, rfl, ?_⟩
    (repeat' (first | refine w_v rfl ?_ | refine w_int ?_ | refine w_bl ?_ | refine w_non ?_ | refine w_str ?_ | refine w_cons ?_ | refine w_nil ?_ | refine w_bin ?_ | refine w_cmp ?_ | refine w_call ?_ | refine w_bi ?_ | refine w_isi ?_ | refine w_ix ?_ | refine w_and ?_ | refine w_or ?_ | refine w_not ?_ | refine w_chn ?_ | refine w_tup ?_ | refine w_lst ?_ | refine w_ite ?_ | refine w_neg ?_ | refine w_sl ?_ | refine sl_t ?_ | refine sl_n ?_ | refine sl_b ?_ | refine sl_l ?_ | refine w_rev ?_ | refine rv_t ?_ | refine rv_n ?_ | refine rv_l ?_ | refine rv_b ?_ | refine w_onone ?_ | refine w_osome ?_ | refine b_asg ?_ | refine b_ret ?_ | refine b_retN ?_ | refine b_expr ?_ | refine b_pass ?_ | refine b_ifs ?_ | refine b_for ?_ | refine b_asgO ?_ | refine b_asgR ?_ | refine bw_add ?_ | refine bw_sub ?_ | refine cw_lt ?_ | refine cw_le ?_ | refine cw_gt ?_ | refine cw_ge ?_ | refine cw_eqI ?_ | refine cw_neI ?_ | refine bl_w ?_ | refine if_t ?_ | refine if_f ?_ | refine w_comp ?_ | refine b_nil ?_ | refine b_par ?_ | refine b_par2 ?_ | refine b_appO rfl ?_ | refine b_extO rfl ?_ | refine fl_rt ?_ | refine fl_nx ?_ | refine And.intro (by assumption) ?_ | refine And.intro rfl ?_ | refine ⟨_, rfl, ?_⟩ | refine ⟨_, _, rfl, rfl, ?_⟩ | refine ⟨_, rfl, rfl, ?_⟩ | refine ⟨_, _, _, rfl, rfl, rfl, ?_⟩ | refine ⟨_, _, _, rfl, rfl, atD0, ?_⟩ | refine ⟨_, _, _, rfl, rfl, atD1, ?_⟩ | refine ⟨_, _, rfl, rfl, rfl, ?_⟩ | refine for_cons rfl ?_ | refine for_nil ?_ | dsimp only))
    refine O.wp_eq (net_of_eq h14 (he e hm)) ⟨?_, rfl⟩
    simp [R.toD, exD, tupI, ints_map, netD]
  · (repeat' (first | refine w_v rfl ?_ | refine w_int ?_ | refine w_bl ?_ | refine w_non ?_ | refine w_str ?_ | refine w_cons ?_ | refine w_nil ?_ | refine w_bin ?_ | refine w_cmp ?_ | refine w_call ?_ | refine w_bi ?_ | refine w_isi ?_ | refine w_ix ?_ | refine w_and ?_ | refine w_or ?_ | refine w_not ?_ | refine w_chn ?_ | refine w_tup ?_ | refine w_lst ?_ | refine w_ite ?_ | refine w_neg ?_ | refine w_sl ?_ | refine sl_t ?_ | refine sl_n ?_ | refine sl_b ?_ | refine sl_l ?_ | refine w_rev ?_ | refine rv_t ?_ | refine rv_n ?_ | refine rv_l ?_ | refine rv_b ?_ | refine w_onone ?_ | refine w_osome ?_ | refine b_asg ?_ | refine b_ret ?_ | refine b_retN ?_ | refine b_expr ?_ | refine b_pass ?_ | refine b_ifs ?_ | refine b_for ?_ | refine b_asgO ?_ | refine b_asgR ?_ | refine bw_add ?_ | refine bw_sub ?_ | refine cw_lt ?_ | refine cw_le ?_ | refine cw_gt ?_ | refine cw_ge ?_ | refine cw_eqI ?_ | refine cw_neI ?_ | refine bl_w ?_ | refine if_t ?_ | refine if_f ?_ | refine w_comp ?_ | refine b_nil ?_ | refine b_par ?_ | refine b_par2 ?_ | refine b_appO rfl ?_ | refine b_extO rfl ?_ | refine fl_rt ?_ | refine fl_nx ?_ | refine And.intro (by assumption) ?_ | refine And.intro rfl ?_ | refine ⟨_, rfl, ?_⟩ | refine ⟨_, _, rfl, rfl, ?_⟩ | refine ⟨_, rfl, rfl, ?_⟩ | refine ⟨_, _, _, rfl, rfl, rfl, ?_⟩ | refine ⟨_, _, _, rfl, rfl, atD0, ?_⟩ | refine ⟨_, _, _, rfl, rfl, atD1, ?_⟩ | refine ⟨_, _, rfl, rfl, rfl, ?_⟩ | refine for_cons rfl ?_ | refine for_nil ?_ | dsimp only))
    refine ⟨?_, rfl⟩
    congr 1
    simp only [List.map_map]
    refine List.map_congr_left fun e _ => ?_
    simp [exD, tupI, ints_map, netD]
theorem nets_eq {p : Pg} (h1 : p.Pt 1 = some f_is_integer) (h2 : p.Pt 2 = some f_are_numbers) (h3 : p.Pt 3 = some f_is_exchange) (h4 : p.Pt 4 = some f_stands) (h13 : p.Pt 13 = some f_need_board) (h14 : p.Pt 14 = some f_net_of) (h15 : p.Pt 15 = some f_all_nets) (h16 : p.Pt 16 = some f_nets)
    {n : Nat} {t : Int} {es : List Ex} {h : MH} (v : BV t es) : p.c (n + 6) 16 [.v (bD t es)] h = .ok (.nl (es.map netD)) h := by
  refine O.eq_of (Pg.call_wp h16 rfl ?_)
  unfold f_nets b_nets
  (repeat' (first | refine w_v rfl ?_ | refine w_int ?_ | refine w_bl ?_ | refine w_non ?_ | refine w_str ?_ | refine w_cons ?_ | refine w_nil ?_ | refine w_bin ?_ | refine w_cmp ?_ | refine w_call ?_ | refine w_bi ?_ | refine w_isi ?_ | refine w_ix ?_ | refine w_and ?_ | refine w_or ?_ | refine w_not ?_ | refine w_chn ?_ | refine w_tup ?_ | refine w_lst ?_ | refine w_ite ?_ | refine w_neg ?_ | refine w_sl ?_ | refine sl_t ?_ | refine sl_n ?_ | refine sl_b ?_ | refine sl_l ?_ | refine w_rev ?_ | refine rv_t ?_ | refine rv_n ?_ | refine rv_l ?_ | refine rv_b ?_ | refine w_onone ?_ | refine w_osome ?_ | refine b_asg ?_ | refine b_ret ?_ | refine b_retN ?_ | refine b_expr ?_ | refine b_pass ?_ | refine b_ifs ?_ | refine b_for ?_ | refine b_asgO ?_ | refine b_asgR ?_ | refine bw_add ?_ | refine bw_sub ?_ | refine cw_lt ?_ | refine cw_le ?_ | refine cw_gt ?_ | refine cw_ge ?_ | refine cw_eqI ?_ | refine cw_neI ?_ | refine bl_w ?_ | refine if_t ?_ | refine if_f ?_ | refine w_comp ?_ | refine b_nil ?_ | refine b_par ?_ | refine b_par2 ?_ | refine b_appO rfl ?_ | refine b_extO rfl ?_ | refine fl_rt ?_ | refine fl_nx ?_ | refine And.intro (by assumption) ?_ | refine And.intro rfl ?_ | refine ⟨_, rfl, ?_⟩ | refine ⟨_, _, rfl, rfl, ?_⟩ | refine ⟨_, rfl, rfl, ?_⟩ | refine ⟨_, _, _, rfl, rfl, rfl, ?_⟩ | refine ⟨_, _, _, rfl, rfl, atD0, ?_⟩ | refine ⟨_, _, _, rfl, rfl, atD1, ?_⟩ | refine ⟨_, _, rfl, rfl, rfl, ?_⟩ | refine for_cons rfl ?_ | refine for_nil ?_ | dsimp only))
  refine O.wp_eq (need_board_eq h1 h2 h3 h4 h13 (ok_bD (n := 0)) (stands_bD v)) ?_
  (repeat' (first | refine w_v rfl ?_ | refine w_int ?_ | refine w_bl ?_ | refine w_non ?_ | refine w_str ?_ | refine w_cons ?_ | refine w_nil ?_ | refine w_bin ?_ | refine w_cmp ?_ | refine w_call ?_ | refine w_bi ?_ | refine w_isi ?_ | refine w_ix ?_ | refine w_and ?_ | refine w_or ?_ | refine w_not ?_ | refine w_chn ?_ | refine w_tup ?_ | refine w_lst ?_ | refine w_ite ?_ | refine w_neg ?_ | refine w_sl ?_ | refine sl_t ?_ | refine sl_n ?_ | refine sl_b ?_ | refine sl_l ?_ | refine w_rev ?_ | refine rv_t ?_ | refine rv_n ?_ | refine rv_l ?_ | refine rv_b ?_ | refine w_onone ?_ | refine w_osome ?_ | refine b_asg ?_ | refine b_ret ?_ | refine b_retN ?_ | refine b_expr ?_ | refine b_pass ?_ | refine b_ifs ?_ | refine b_for ?_ | refine b_asgO ?_ | refine b_asgR ?_ | refine bw_add ?_ | refine bw_sub ?_ | refine cw_lt ?_ | refine cw_le ?_ | refine cw_gt ?_ | refine cw_ge ?_ | refine cw_eqI ?_ | refine cw_neI ?_ | refine bl_w ?_ | refine if_t ?_ | refine if_f ?_ | refine w_comp ?_ | refine b_nil ?_ | refine b_par ?_ | refine b_par2 ?_ | refine b_appO rfl ?_ | refine b_extO rfl ?_ | refine fl_rt ?_ | refine fl_nx ?_ | refine And.intro (by assumption) ?_ | refine And.intro rfl ?_ | refine ⟨_, rfl, ?_⟩ | refine ⟨_, _, rfl, rfl, ?_⟩ | refine ⟨_, rfl, rfl, ?_⟩ | refine ⟨_, _, _, rfl, rfl, rfl, ?_⟩ | refine ⟨_, _, _, rfl, rfl, atD0, ?_⟩ | refine ⟨_, _, _, rfl, rfl, atD1, ?_⟩ | refine ⟨_, _, rfl, rfl, rfl, ?_⟩ | refine for_cons rfl ?_ | refine for_nil ?_ | dsimp only))
  refine O.wp_eq (all_nets_eq h14 h15 (Nat.le_trans v.len (by decide)) fun e he => ?_) ?_
  · have := (v.ex e he).l1
    have := v.t4
    omega
  · (repeat' (first | refine w_v rfl ?_ | refine w_int ?_ | refine w_bl ?_ | refine w_non ?_ | refine w_str ?_ | refine w_cons ?_ | refine w_nil ?_ | refine w_bin ?_ | refine w_cmp ?_ | refine w_call ?_ | refine w_bi ?_ | refine w_isi ?_ | refine w_ix ?_ | refine w_and ?_ | refine w_or ?_ | refine w_not ?_ | refine w_chn ?_ | refine w_tup ?_ | refine w_lst ?_ | refine w_ite ?_ | refine w_neg ?_ | refine w_sl ?_ | refine sl_t ?_ | refine sl_n ?_ | refine sl_b ?_ | refine sl_l ?_ | refine w_rev ?_ | refine rv_t ?_ | refine rv_n ?_ | refine rv_l ?_ | refine rv_b ?_ | refine w_onone ?_ | refine w_osome ?_ | refine b_asg ?_ | refine b_ret ?_ | refine b_retN ?_ | refine b_expr ?_ | refine b_pass ?_ | refine b_ifs ?_ | refine b_for ?_ | refine b_asgO ?_ | refine b_asgR ?_ | refine bw_add ?_ | refine bw_sub ?_ | refine cw_lt ?_ | refine cw_le ?_ | refine cw_gt ?_ | refine cw_ge ?_ | refine cw_eqI ?_ | refine cw_neI ?_ | refine bl_w ?_ | refine if_t ?_ | refine if_f ?_ | refine w_comp ?_ | refine b_nil ?_ | refine b_par ?_ | refine b_par2 ?_ | refine b_appO rfl ?_ | refine b_extO rfl ?_ | refine fl_rt ?_ | refine fl_nx ?_ | refine And.intro (by assumption) ?_ | refine And.intro rfl ?_ | refine ⟨_, rfl, ?_⟩ | refine ⟨_, _, rfl, rfl, ?_⟩ | refine ⟨_, rfl, rfl, ?_⟩ | refine ⟨_, _, _, rfl, rfl, rfl, ?_⟩ | refine ⟨_, _, _, rfl, rfl, atD0, ?_⟩ | refine ⟨_, _, _, rfl, rfl, atD1, ?_⟩ | refine ⟨_, _, rfl, rfl, rfl, ?_⟩ | refine for_cons rfl ?_ | refine for_nil ?_ | dsimp only))
end GV
set_option Elab.async false
set_option linter.all false
set_option maxRecDepth 100000
set_option maxHeartbeats 4000000
/-! GA2: draws, random boards. -/
namespace GV
open PySem L2
def b_law_cell_at : List S := [
  .ifs (.cmp .lt (.v 1) (.bi .len [(.v 0)])) [
    .ret (.ix (.v 0) (.v 1))] [],
  .ifs (.cmp .eq (.v 0) (.lst [])) [
    .ret (.int 0)] [],
  .asg (.n 2) (.ix (.v 0) (.bin .mod (.v 1) (.bi .len [(.v 0)]))),
  .for_ .rng [(.bi .min [(.bin .fdiv (.v 1) (.bi .len [(.v 0)])), (.int 60)])] (.n 3) [
    .asg (.n 2) (.bin .fdiv (.v 2) (.int 1000003))],
  .ret (.bin .add (.bin .add (.bin .mul (.ix (.v 0) (.bin .mod (.v 1) (.bi .len [(.v 0)]))) (.int 31)) (.v 1)) (.bin .mul (.v 2) (.int 101)))]
def n_law_cell_at : List Str := ["script", "k", "spare", "again"]
def f_law_cell_at : FD := ⟨4, 2, b_law_cell_at⟩
def b_law_mixed : List S := [
  .asg (.n 3) (.bin .mod (.bin .add (.bin .add (.bin .mul (.call 6 [(.v 0), (.v 1)]) (.int 1103515245)) (.bin .mul (.int 7919) (.v 1))) (.int 12345)) (.int 2147483647)),
  .ret (.bin .mod (.bin .mod (.bin .mod (.bin .pow (.v 3) (.int 5)) (.int 2147483647)) (.int 999983)) (.v 2))]
def n_law_mixed : List Str := ["script", "k", "many", "spun"]
def f_law_mixed : FD := ⟨4, 3, b_law_mixed⟩
def b_law_draw : List S := [
  .app 1 (.int 0),
  .ret (.call 7 [(.v 0), (.bi .len [(.v 1)]), (.v 2)])]
def n_law_draw : List Str := ["script", "state", "many"]
def f_law_draw : FD := ⟨3, 3, b_law_draw⟩
def b_law_pick : List S := [
  .ret (.ix (.v 2) (.call 8 [(.v 0), (.v 1), (.bi .len [(.v 2)])]))]
def n_law_pick : List Str := ["script", "state", "some"]
def f_law_pick : FD := ⟨3, 3, b_law_pick⟩
def b_law_some_numbers : List S := [
  .ret (.bi .tuple [(.comp .rng [(.v 2)] (.n 4) [4] [] (.bi .max [(.int 0), (.bin .sub (.call 8 [(.v 0), (.v 1), (.bin .add (.v 3) (.int 3))]) (.int 2))]))])]
def n_law_some_numbers : List Str := ["script", "state", "things", "high", "again"]
def f_law_some_numbers : FD := ⟨5, 4, b_law_some_numbers⟩
def b_law_some_exchange : List S := [
  .asg (.n 3) (.call 10 [(.v 0), (.v 1), (.v 2), (.int 3)]),
  .ifs (.cmp .eq (.bi .sum [(.v 3)]) (.int 0)) [
    .asg (.n 4) (.call 8 [(.v 0), (.v 1), (.v 2)]),
    .asg (.n 3) (.bin .add (.bin .add (.sl (.v 3) none (some (.v 4))) (.tup [(.bin .add (.int 1) (.call 8 [(.v 0), (.v 1), (.int 3)]))])) (.sl (.v 3) (some (.bin .add (.v 4) (.int 1))) none))] [],
  .ret (.tup [(.v 3), (.call 10 [(.v 0), (.v 1), (.v 2), (.int 3)])])]
def n_law_some_exchange : List Str := ["script", "state", "things", "takes", "at"]
def f_law_some_exchange : FD := ⟨5, 3, b_law_some_exchange⟩
def b_law_some_board : List S := [
  .asg (.n 2) (.call 9 [(.v 0), (.v 1), (.tup [(.int 2), (.int 2), (.int 3), (.int 3), (.int 4)])]),
  .asgO 3 (.comp .rng [(.call 8 [(.v 0), (.v 1), (.int 5)])] (.n 6) [6] [] (.call 11 [(.v 0), (.v 1), (.v 2)])),
  .for_ .seq [(.sl (.bi .list [(.v 3)]) none (some (.int 2)))] (.t [(.n 4), (.n 5)]) [
    .ifs (.and (.cmp .eq (.call 8 [(.v 0), (.v 1), (.int 4)]) (.int 0)) (.cmp .gt (.bi .sum [(.v 5)]) (.int 0))) [
      .app 3 (.tup [(.v 5), (.v 4)])] []],
  .ret (.tup [(.v 2), (.bi .tuple [(.v 3)])])]
def n_law_some_board : List Str := ["script", "state", "things", "exchanges", "takes", "gives", "again"]
def f_law_some_board : FD := ⟨7, 2, b_law_some_board⟩
def b_law_nets : List S := [
  .asgO 1 (.lst []),
  .for_ .seq [(.ix (.v 0) (.int 1))] (.t [(.n 2), (.n 3)]) [
    .app 1 (.bi .tuple [(.comp .zip [(.v 2), (.v 3)] (.t [(.n 4), (.n 5)]) [4, 5] [] (.bin .sub (.v 5) (.v 4)))])],
  .retO 1]
def n_law_nets : List Str := ["board", "found", "takes", "gives", "a", "b"]
def f_law_nets : FD := ⟨6, 1, b_law_nets⟩
def scD (ns : List Int) : D := .lst (ns.map .int)
theorem atD_nat {xs : List D} {k : Int} (h0 : 0 ≤ k) (h1 : k < xs.length) : ∃ d, atD xs k = some d ∧ d ∈ xs := by
  obtain ⟨j, rfl⟩ := Int.eq_ofNat_of_zero_le h0
  have hj : j < xs.length := by omega
  exact ⟨xs[j], L2.atI_nat (List.getElem?_eq_getElem hj), List.getElem_mem hj⟩
theorem atD_int {ns : List Int} {k : Int} (h0 : 0 ≤ k) (h1 : k < ns.length) : ∃ i, atD (ns.map .int) k = some (.int i) := by
  obtain ⟨d, e, m⟩ := atD_nat (xs := ns.map .int) h0 (by simpa using h1)
  simp only [List.mem_map] at m
  obtain ⟨i, _, rfl⟩ := m
  exact ⟨i, e⟩
theorem ok_ints {n : Nat} {ns : List Int} : (D.lst (ns.map .int)).okN (n + 1) = true := by simp [D.okN]
theorem it_rng {Q : List D → Prop} {n : Int} (h0 : -(2 ^ 62) ≤ n) (h1 : n < 2 ^ 62) (q : Q (rngD 0 n)) : ItW .rng [.v (.int n)] Q := ⟨_, by simp only [itemsR]; rw [if_pos (decide_eq_true ⟨h0, h1⟩)], q⟩
theorem it_rng2 {Q : List D → Prop} {m n : Int} (g0 : -(2 ^ 62) ≤ m) (g1 : m < 2 ^ 62) (h0 : -(2 ^ 62) ≤ n) (h1 : n < 2 ^ 62) (q : Q (rngD m n)) : ItW .rng [.v (.int m), .v (.int n)] Q := ⟨_, by simp only [itemsR]; rw [if_pos (decide_eq_true ⟨⟨g0, g1⟩, h0, h1⟩)], q⟩
theorem mulOk_r {i j : Int} (h0 : -(2 ^ 64) < j) (h1 : j < 2 ^ 64) : mulOk i j = true := by
  unfold mulOk
  rw [Bool.or_eq_true]
  exact .inr (decide_eq_true ⟨h0, h1⟩)
theorem mulOk_l {i j : Int} (h0 : -(2 ^ 64) < i) (h1 : i < 2 ^ 64) : mulOk i j = true := by
  unfold mulOk
  rw [Bool.or_eq_true]
  exact .inl (decide_eq_true ⟨h0, h1⟩)
theorem divOk_of {j : Int} (h0 : 0 < j) (h1 : j < 2 ^ 64) : divOk j = true := by
  have h2 : (2 : Int) ^ 64 < 2 ^ 2000 := by decide +kernel
  unfold divOk
  exact decide_eq_true ⟨h0, Int.lt_trans h1 h2⟩
theorem rngD_mem {a b : Int} {d : D} (h : d ∈ rngD a b) : ∃ i : Int, d = .int i ∧ a ≤ i ∧ i < b := by
  simp only [rngD, List.mem_map, List.mem_range] at h
  obtain ⟨i, hi, rfl⟩ := h
  exact ⟨_, rfl, by omega, by omega⟩
theorem cell_at_wp {p : Pg} (h6 : p.Pt 6 = some f_law_cell_at) {n : Nat} {ns : List Int} {k : Int} {h : MH} (hk : 0 ≤ k) (hl : ns.length ≤ 1000) : (p.c (n + 1) 6 [.v (scD ns), .v (.int k)] h).wp fun r h' => (∃ i, r = .v (.int i)) ∧ h' = h := by
  refine Pg.call_wp h6 rfl ?_
  unfold f_law_cell_at b_law_cell_at scD
  (repeat' (first | refine w_v rfl ?_ | refine w_int ?_ | refine w_bl ?_ | refine w_non ?_ | refine w_str ?_ | refine w_cons ?_ | refine w_nil ?_ | refine w_bin ?_ | refine w_cmp ?_ | refine w_call ?_ | refine w_bi ?_ | refine w_isi ?_ | refine w_ix ?_ | refine w_and ?_ | refine w_or ?_ | refine w_not ?_ | refine w_chn ?_ | refine w_tup ?_ | refine w_lst ?_ | refine w_ite ?_ | refine w_neg ?_ | refine w_sl ?_ | refine sl_t ?_ | refine sl_n ?_ | refine sl_b ?_ | refine sl_l ?_ | refine w_rev ?_ | refine rv_t ?_ | refine rv_n ?_ | refine rv_l ?_ | refine rv_b ?_ | refine w_onone ?_ | refine w_osome ?_ | refine b_asg ?_ | refine b_ret ?_ | refine b_retN ?_ | refine b_expr ?_ | refine b_pass ?_ | refine b_ifs ?_ | refine b_for ?_ | refine b_asgO ?_ | refine b_asgR ?_ | refine bw_add ?_ | refine bw_sub ?_ | refine cw_lt ?_ | refine cw_le ?_ | refine cw_gt ?_ | refine cw_ge ?_ | refine cw_eqI ?_ | refine cw_neI ?_ | refine bl_w ?_ | refine if_t ?_ | refine if_f ?_ | refine if_s (fun _ => ?_) (fun _ => ?_) | refine w_comp ?_ | refine b_nil ?_ | refine b_par ?_ | refine b_par2 ?_ | refine b_appO rfl ?_ | refine b_extO rfl ?_ | refine fl_rt ?_ | refine fl_nx ?_ | refine And.intro (by assumption) ?_ | refine And.intro rfl ?_ | refine ⟨_, rfl, ?_⟩ | refine ⟨_, _, rfl, rfl, ?_⟩ | refine ⟨_, rfl, rfl, ?_⟩ | refine ⟨_, _, _, rfl, rfl, rfl, ?_⟩ | refine ⟨_, _, _, rfl, rfl, atD0, ?_⟩ | refine ⟨_, _, _, rfl, rfl, atD1, ?_⟩ | refine ⟨_, _, rfl, rfl, rfl, ?_⟩ | refine for_cons rfl ?_ | refine for_nil ?_ | dsimp only))
  · rename_i q
    simp only [List.length_map, decide_eq_true_eq] at q
    obtain ⟨i, e⟩ := atD_int hk q
    refine ⟨_, _, _, rfl, rfl, e, ?_⟩
    (repeat' (first | refine w_v rfl ?_ | refine w_int ?_ | refine w_bl ?_ | refine w_non ?_ | refine w_str ?_ | refine w_cons ?_ | refine w_nil ?_ | refine w_bin ?_ | refine w_cmp ?_ | refine w_call ?_ | refine w_bi ?_ | refine w_isi ?_ | refine w_ix ?_ | refine w_and ?_ | refine w_or ?_ | refine w_not ?_ | refine w_chn ?_ | refine w_tup ?_ | refine w_lst ?_ | refine w_ite ?_ | refine w_neg ?_ | refine w_sl ?_ | refine sl_t ?_ | refine sl_n ?_ | refine sl_b ?_ | refine sl_l ?_ | refine w_rev ?_ | refine rv_t ?_ | refine rv_n ?_ | refine rv_l ?_ | refine rv_b ?_ | refine w_onone ?_ | refine w_osome ?_ | refine b_asg ?_ | refine b_ret ?_ | refine b_retN ?_ | refine b_expr ?_ | refine b_pass ?_ | refine b_ifs ?_ | refine b_for ?_ | refine b_asgO ?_ | refine b_asgR ?_ | refine bw_add ?_ | refine bw_sub ?_ | refine cw_lt ?_ | refine cw_le ?_ | refine cw_gt ?_ | refine cw_ge ?_ | refine cw_eqI ?_ | refine cw_neI ?_ | refine bl_w ?_ | refine if_t ?_ | refine if_f ?_ | refine w_comp ?_ | refine b_nil ?_ | refine b_par ?_ | refine b_par2 ?_ | refine b_appO rfl ?_ | refine b_extO rfl ?_ | refine fl_rt ?_ | refine fl_nx ?_ | refine And.intro (by assumption) ?_ | refine And.intro rfl ?_ | refine ⟨_, rfl, ?_⟩ | refine ⟨_, _, rfl, rfl, ?_⟩ | refine ⟨_, rfl, rfl, ?_⟩ | refine ⟨_, _, _, rfl, rfl, rfl, ?_⟩ | refine ⟨_, _, _, rfl, rfl, atD0, ?_⟩ | refine ⟨_, _, _, rfl, rfl, atD1, ?_⟩ | refine ⟨_, _, rfl, rfl, rfl, ?_⟩ | refine for_cons rfl ?_ | refine for_nil ?_ | dsimp only))
    exact ⟨⟨_, rfl⟩, rfl⟩
  · rename_i q
    simp only [List.length_map, decide_eq_false_iff_not] at q
    refine cw_eq ok_ints rfl ?_
    cases ns with
    | nil =>
      (repeat' (first | refine w_v rfl ?_ | refine w_int ?_ | refine w_bl ?_ | refine w_non ?_ | refine w_str ?_ | refine w_cons ?_ | refine w_nil ?_ | refine w_bin ?_ | refine w_cmp ?_ | refine w_call ?_ | refine w_bi ?_ | refine w_isi ?_ | refine w_ix ?_ | refine w_and ?_ | refine w_or ?_ | refine w_not ?_ | refine w_chn ?_ | refine w_tup ?_ | refine w_lst ?_ | refine w_ite ?_ | refine w_neg ?_ | refine w_sl ?_ | refine sl_t ?_ | refine sl_n ?_ | refine sl_b ?_ | refine sl_l ?_ | refine w_rev ?_ | refine rv_t ?_ | refine rv_n ?_ | refine rv_l ?_ | refine rv_b ?_ | refine w_onone ?_ | refine w_osome ?_ | refine b_asg ?_ | refine b_ret ?_ | refine b_retN ?_ | refine b_expr ?_ | refine b_pass ?_ | refine b_ifs ?_ | refine b_for ?_ | refine b_asgO ?_ | refine b_asgR ?_ | refine bw_add ?_ | refine bw_sub ?_ | refine cw_lt ?_ | refine cw_le ?_ | refine cw_gt ?_ | refine cw_ge ?_ | refine cw_eqI ?_ | refine cw_neI ?_ | refine bl_w ?_ | refine if_t ?_ | refine if_f ?_ | refine if_s (fun _ => ?_) (fun _ => ?_) | refine w_comp ?_ | refine b_nil ?_ | refine b_par ?_ | refine b_par2 ?_ | refine b_appO rfl ?_ | refine b_extO rfl ?_ | refine fl_rt ?_ | refine fl_nx ?_ | refine And.intro (by assumption) ?_ | refine And.intro rfl ?_ | refine ⟨_, rfl, ?_⟩ | refine ⟨_, _, rfl, rfl, ?_⟩ | refine ⟨_, rfl, rfl, ?_⟩ | refine ⟨_, _, _, rfl, rfl, rfl, ?_⟩ | refine ⟨_, _, _, rfl, rfl, atD0, ?_⟩ | refine ⟨_, _, _, rfl, rfl, atD1, ?_⟩ | refine ⟨_, _, rfl, rfl, rfl, ?_⟩ | refine for_cons rfl ?_ | refine for_nil ?_ | dsimp only))
      all_goals exact ⟨⟨_, rfl⟩, rfl⟩
    | cons x xs =>
      have hp : (0 : Int) < ((x :: xs).length : Int) := by simp only [List.length_cons]; omega
      have hm0 := Int.emod_nonneg k (Int.ne_of_gt hp)
      have hm1 := Int.emod_lt_of_pos k hp
      obtain ⟨i, e⟩ := atD_int hm0 hm1
      generalize hns : (x :: xs : List Int) = ns at *
      have hb : D.eqb (.lst (ns.map .int)) (.lst []) = false := by rw [← hns]; rfl
      have hb' : D.eqb (R.v (.lst (ns.map .int))).rd (R.nl []).rd = false := hb
      rw [hb']
      have e' : atD (ns.map .int) (k % ((ns.map D.int).length : Nat)) = some (.int i) := by simpa using e
      have hp' : (0 : Int) < ((ns.map D.int).length : Nat) := by simpa using hp
      have hd : divOk ((ns.map D.int).length : Nat) = true := by
        exact divOk_of hp' (by simp; omega)
      (repeat' (first | refine w_v rfl ?_ | refine w_int ?_ | refine w_bl ?_ | refine w_non ?_ | refine w_str ?_ | refine w_cons ?_ | refine w_nil ?_ | refine w_bin ?_ | refine w_cmp ?_ | refine w_call ?_ | refine w_bi ?_ | refine w_isi ?_ | refine w_ix ?_ | refine w_and ?_ | refine w_or ?_ | refine w_not ?_ | refine w_chn ?_ | refine w_tup ?_ | refine w_lst ?_ | refine w_ite ?_ | refine w_neg ?_ | refine w_sl ?_ | refine sl_t ?_ | refine sl_n ?_ | refine sl_b ?_ | refine sl_l ?_ | refine w_rev ?_ | refine rv_t ?_ | refine rv_n ?_ | refine rv_l ?_ | refine rv_b ?_ | refine w_onone ?_ | refine w_osome ?_ | refine b_asg ?_ | refine b_ret ?_ | refine b_retN ?_ | refine b_expr ?_ | refine b_pass ?_ | refine b_ifs ?_ | refine b_for ?_ | refine b_asgO ?_ | refine b_asgR ?_ | refine bw_add ?_ | refine bw_sub ?_ | refine cw_lt ?_ | refine cw_le ?_ | refine cw_gt ?_ | refine cw_ge ?_ | refine cw_eqI ?_ | refine cw_neI ?_ | refine bl_w ?_ | refine if_t ?_ | refine if_f ?_ | refine w_comp ?_ | refine b_nil ?_ | refine b_par ?_ | refine b_par2 ?_ | refine b_appO rfl ?_ | refine b_extO rfl ?_ | refine fl_rt ?_ | refine fl_nx ?_ | refine And.intro (by assumption) ?_ | refine And.intro rfl ?_ | refine ⟨_, rfl, ?_⟩ | refine ⟨_, _, rfl, rfl, ?_⟩ | refine ⟨_, rfl, rfl, ?_⟩ | refine ⟨_, _, _, rfl, rfl, rfl, ?_⟩ | refine ⟨_, _, _, rfl, rfl, atD0, ?_⟩ | refine ⟨_, _, _, rfl, rfl, atD1, ?_⟩ | refine ⟨_, _, rfl, rfl, rfl, ?_⟩ | refine for_cons rfl ?_ | refine for_nil ?_ | dsimp only))
      refine bw_mod hp' ?_
      (repeat' (first | refine w_v rfl ?_ | refine w_int ?_ | refine w_bl ?_ | refine w_non ?_ | refine w_str ?_ | refine w_cons ?_ | refine w_nil ?_ | refine w_bin ?_ | refine w_cmp ?_ | refine w_call ?_ | refine w_bi ?_ | refine w_isi ?_ | refine w_ix ?_ | refine w_and ?_ | refine w_or ?_ | refine w_not ?_ | refine w_chn ?_ | refine w_tup ?_ | refine w_lst ?_ | refine w_ite ?_ | refine w_neg ?_ | refine w_sl ?_ | refine sl_t ?_ | refine sl_n ?_ | refine sl_b ?_ | refine sl_l ?_ | refine w_rev ?_ | refine rv_t ?_ | refine rv_n ?_ | refine rv_l ?_ | refine rv_b ?_ | refine w_onone ?_ | refine w_osome ?_ | refine b_asg ?_ | refine b_ret ?_ | refine b_retN ?_ | refine b_expr ?_ | refine b_pass ?_ | refine b_ifs ?_ | refine b_for ?_ | refine b_asgO ?_ | refine b_asgR ?_ | refine bw_add ?_ | refine bw_sub ?_ | refine cw_lt ?_ | refine cw_le ?_ | refine cw_gt ?_ | refine cw_ge ?_ | refine cw_eqI ?_ | refine cw_neI ?_ | refine bl_w ?_ | refine if_t ?_ | refine if_f ?_ | refine w_comp ?_ | refine b_nil ?_ | refine b_par ?_ | refine b_par2 ?_ | refine b_appO rfl ?_ | refine b_extO rfl ?_ | refine fl_rt ?_ | refine fl_nx ?_ | refine And.intro (by assumption) ?_ | refine And.intro rfl ?_ | refine ⟨_, rfl, ?_⟩ | refine ⟨_, _, rfl, rfl, ?_⟩ | refine ⟨_, rfl, rfl, ?_⟩ | refine ⟨_, _, _, rfl, rfl, rfl, ?_⟩ | refine ⟨_, _, _, rfl, rfl, atD0, ?_⟩ | refine ⟨_, _, _, rfl, rfl, atD1, ?_⟩ | refine ⟨_, _, rfl, rfl, rfl, ?_⟩ | refine for_cons rfl ?_ | refine for_nil ?_ | dsimp only))
      refine ⟨_, _, _, rfl, rfl, e', ?_⟩
      (repeat' (first | refine w_v rfl ?_ | refine w_int ?_ | refine w_bl ?_ | refine w_non ?_ | refine w_str ?_ | refine w_cons ?_ | refine w_nil ?_ | refine w_bin ?_ | refine w_cmp ?_ | refine w_call ?_ | refine w_bi ?_ | refine w_isi ?_ | refine w_ix ?_ | refine w_and ?_ | refine w_or ?_ | refine w_not ?_ | refine w_chn ?_ | refine w_tup ?_ | refine w_lst ?_ | refine w_ite ?_ | refine w_neg ?_ | refine w_sl ?_ | refine sl_t ?_ | refine sl_n ?_ | refine sl_b ?_ | refine sl_l ?_ | refine w_rev ?_ | refine rv_t ?_ | refine rv_n ?_ | refine rv_l ?_ | refine rv_b ?_ | refine w_onone ?_ | refine w_osome ?_ | refine b_asg ?_ | refine b_ret ?_ | refine b_retN ?_ | refine b_expr ?_ | refine b_pass ?_ | refine b_ifs ?_ | refine b_for ?_ | refine b_asgO ?_ | refine b_asgR ?_ | refine bw_add ?_ | refine bw_sub ?_ | refine cw_lt ?_ | refine cw_le ?_ | refine cw_gt ?_ | refine cw_ge ?_ | refine cw_eqI ?_ | refine cw_neI ?_ | refine bl_w ?_ | refine if_t ?_ | refine if_f ?_ | refine w_comp ?_ | refine b_nil ?_ | refine b_par ?_ | refine b_par2 ?_ | refine b_appO rfl ?_ | refine b_extO rfl ?_ | refine fl_rt ?_ | refine fl_nx ?_ | refine And.intro (by assumption) ?_ | refine And.intro rfl ?_ | refine ⟨_, rfl, ?_⟩ | refine ⟨_, _, rfl, rfl, ?_⟩ | refine ⟨_, rfl, rfl, ?_⟩ | refine ⟨_, _, _, rfl, rfl, rfl, ?_⟩ | refine ⟨_, _, _, rfl, rfl, atD0, ?_⟩ | refine ⟨_, _, _, rfl, rfl, atD1, ?_⟩ | refine ⟨_, _, rfl, rfl, rfl, ?_⟩ | refine for_cons rfl ?_ | refine for_nil ?_ | dsimp only))
      refine bw_fdiv hd ?_
      (repeat' (first | refine w_v rfl ?_ | refine w_int ?_ | refine w_bl ?_ | refine w_non ?_ | refine w_str ?_ | refine w_cons ?_ | refine w_nil ?_ | refine w_bin ?_ | refine w_cmp ?_ | refine w_call ?_ | refine w_bi ?_ | refine w_isi ?_ | refine w_ix ?_ | refine w_and ?_ | refine w_or ?_ | refine w_not ?_ | refine w_chn ?_ | refine w_tup ?_ | refine w_lst ?_ | refine w_ite ?_ | refine w_neg ?_ | refine w_sl ?_ | refine sl_t ?_ | refine sl_n ?_ | refine sl_b ?_ | refine sl_l ?_ | refine w_rev ?_ | refine rv_t ?_ | refine rv_n ?_ | refine rv_l ?_ | refine rv_b ?_ | refine w_onone ?_ | refine w_osome ?_ | refine b_asg ?_ | refine b_ret ?_ | refine b_retN ?_ | refine b_expr ?_ | refine b_pass ?_ | refine b_ifs ?_ | refine b_for ?_ | refine b_asgO ?_ | refine b_asgR ?_ | refine bw_add ?_ | refine bw_sub ?_ | refine cw_lt ?_ | refine cw_le ?_ | refine cw_gt ?_ | refine cw_ge ?_ | refine cw_eqI ?_ | refine cw_neI ?_ | refine bl_w ?_ | refine if_t ?_ | refine if_f ?_ | refine w_comp ?_ | refine b_nil ?_ | refine b_par ?_ | refine b_par2 ?_ | refine b_appO rfl ?_ | refine b_extO rfl ?_ | refine fl_rt ?_ | refine fl_nx ?_ | refine And.intro (by assumption) ?_ | refine And.intro rfl ?_ | refine ⟨_, rfl, ?_⟩ | refine ⟨_, _, rfl, rfl, ?_⟩ | refine ⟨_, rfl, rfl, ?_⟩ | refine ⟨_, _, _, rfl, rfl, rfl, ?_⟩ | refine ⟨_, _, _, rfl, rfl, atD0, ?_⟩ | refine ⟨_, _, _, rfl, rfl, atD1, ?_⟩ | refine ⟨_, _, rfl, rfl, rfl, ?_⟩ | refine for_cons rfl ?_ | refine for_nil ?_ | dsimp only))
      have hq : 0 ≤ k / ((ns.map D.int).length : Nat) := Int.ediv_nonneg hk (Int.le_of_lt hp')
      refine it_rng (by split <;> omega) (by split <;> omega) ?_
      refine for_inv (fun _ ss h' => (∃ s x3, ss = [some (.v (.lst (ns.map .int))), some (.v (.int k)), some (.v (.int s)), x3]) ∧ h' = h) ⟨⟨_, _, rfl⟩, rfl⟩ (fun j d hd ss h' J => ?_) fun ss h' J => ?_
      · obtain ⟨⟨s, x3, rfl⟩, rfl⟩ := J
        refine ⟨_, rfl, ?_⟩
        (repeat' (first | refine w_v rfl ?_ | refine w_int ?_ | refine w_bl ?_ | refine w_non ?_ | refine w_str ?_ | refine w_cons ?_ | refine w_nil ?_ | refine w_bin ?_ | refine w_cmp ?_ | refine w_call ?_ | refine w_bi ?_ | refine w_isi ?_ | refine w_ix ?_ | refine w_and ?_ | refine w_or ?_ | refine w_not ?_ | refine w_chn ?_ | refine w_tup ?_ | refine w_lst ?_ | refine w_ite ?_ | refine w_neg ?_ | refine w_sl ?_ | refine sl_t ?_ | refine sl_n ?_ | refine sl_b ?_ | refine sl_l ?_ | refine w_rev ?_ | refine rv_t ?_ | refine rv_n ?_ | refine rv_l ?_ | refine rv_b ?_ | refine w_onone ?_ | refine w_osome ?_ | refine b_asg ?_ | refine b_ret ?_ | refine b_retN ?_ | refine b_expr ?_ | refine b_pass ?_ | refine b_ifs ?_ | refine b_for ?_ | refine b_asgO ?_ | refine b_asgR ?_ | refine bw_add ?_ | refine bw_sub ?_ | refine cw_lt ?_ | refine cw_le ?_ | refine cw_gt ?_ | refine cw_ge ?_ | refine cw_eqI ?_ | refine cw_neI ?_ | refine bl_w ?_ | refine if_t ?_ | refine if_f ?_ | refine w_comp ?_ | refine b_nil ?_ | refine b_par ?_ | refine b_par2 ?_ | refine b_appO rfl ?_ | refine b_extO rfl ?_ | refine fl_rt ?_ | refine fl_nx ?_ | refine And.intro (by assumption) ?_ | refine And.intro rfl ?_ | refine ⟨_, rfl, ?_⟩ | refine ⟨_, _, rfl, rfl, ?_⟩ | refine ⟨_, rfl, rfl, ?_⟩ | refine ⟨_, _, _, rfl, rfl, rfl, ?_⟩ | refine ⟨_, _, _, rfl, rfl, atD0, ?_⟩ | refine ⟨_, _, _, rfl, rfl, atD1, ?_⟩ | refine ⟨_, _, rfl, rfl, rfl, ?_⟩ | refine for_cons rfl ?_ | refine for_nil ?_ | dsimp only))
        exact ⟨⟨_, _, rfl⟩, rfl⟩
      · obtain ⟨⟨s, x3, rfl⟩, rfl⟩ := J
        (repeat' (first | refine w_v rfl ?_ | refine w_int ?_ | refine w_bl ?_ | refine w_non ?_ | refine w_str ?_ | refine w_cons ?_ | refine w_nil ?_ | refine w_bin ?_ | refine w_cmp ?_ | refine w_call ?_ | refine w_bi ?_ | refine w_isi ?_ | refine w_ix ?_ | refine w_and ?_ | refine w_or ?_ | refine w_not ?_ | refine w_chn ?_ | refine w_tup ?_ | refine w_lst ?_ | refine w_ite ?_ | refine w_neg ?_ | refine w_sl ?_ | refine sl_t ?_ | refine sl_n ?_ | refine sl_b ?_ | refine sl_l ?_ | refine w_rev ?_ | refine rv_t ?_ | refine rv_n ?_ | refine rv_l ?_ | refine rv_b ?_ | refine w_onone ?_ | refine w_osome ?_ | refine b_asg ?_ | refine b_ret ?_ | refine b_retN ?_ | refine b_expr ?_ | refine b_pass ?_ | refine b_ifs ?_ | refine b_for ?_ | refine b_asgO ?_ | refine b_asgR ?_ | refine bw_add ?_ | refine bw_sub ?_ | refine cw_lt ?_ | refine cw_le ?_ | refine cw_gt ?_ | refine cw_ge ?_ | refine cw_eqI ?_ | refine cw_neI ?_ | refine bl_w ?_ | refine if_t ?_ | refine if_f ?_ | refine w_comp ?_ | refine b_nil ?_ | refine b_par ?_ | refine b_par2 ?_ | refine b_appO rfl ?_ | refine b_extO rfl ?_ | refine fl_rt ?_ | refine fl_nx ?_ | refine And.intro (by assumption) ?_ | refine And.intro rfl ?_ | refine ⟨_, rfl, ?_⟩ | refine ⟨_, _, rfl, rfl, ?_⟩ | refine ⟨_, rfl, rfl, ?_⟩ | refine ⟨_, _, _, rfl, rfl, rfl, ?_⟩ | refine ⟨_, _, _, rfl, rfl, atD0, ?_⟩ | refine ⟨_, _, _, rfl, rfl, atD1, ?_⟩ | refine ⟨_, _, rfl, rfl, rfl, ?_⟩ | refine for_cons rfl ?_ | refine for_nil ?_ | dsimp only))
        refine bw_mod hp' ?_
        (repeat' (first | refine w_v rfl ?_ | refine w_int ?_ | refine w_bl ?_ | refine w_non ?_ | refine w_str ?_ | refine w_cons ?_ | refine w_nil ?_ | refine w_bin ?_ | refine w_cmp ?_ | refine w_call ?_ | refine w_bi ?_ | refine w_isi ?_ | refine w_ix ?_ | refine w_and ?_ | refine w_or ?_ | refine w_not ?_ | refine w_chn ?_ | refine w_tup ?_ | refine w_lst ?_ | refine w_ite ?_ | refine w_neg ?_ | refine w_sl ?_ | refine sl_t ?_ | refine sl_n ?_ | refine sl_b ?_ | refine sl_l ?_ | refine w_rev ?_ | refine rv_t ?_ | refine rv_n ?_ | refine rv_l ?_ | refine rv_b ?_ | refine w_onone ?_ | refine w_osome ?_ | refine b_asg ?_ | refine b_ret ?_ | refine b_retN ?_ | refine b_expr ?_ | refine b_pass ?_ | refine b_ifs ?_ | refine b_for ?_ | refine b_asgO ?_ | refine b_asgR ?_ | refine bw_add ?_ | refine bw_sub ?_ | refine cw_lt ?_ | refine cw_le ?_ | refine cw_gt ?_ | refine cw_ge ?_ | refine cw_eqI ?_ | refine cw_neI ?_ | refine bl_w ?_ | refine if_t ?_ | refine if_f ?_ | refine w_comp ?_ | refine b_nil ?_ | refine b_par ?_ | refine b_par2 ?_ | refine b_appO rfl ?_ | refine b_extO rfl ?_ | refine fl_rt ?_ | refine fl_nx ?_ | refine And.intro (by assumption) ?_ | refine And.intro rfl ?_ | refine ⟨_, rfl, ?_⟩ | refine ⟨_, _, rfl, rfl, ?_⟩ | refine ⟨_, rfl, rfl, ?_⟩ | refine ⟨_, _, _, rfl, rfl, rfl, ?_⟩ | refine ⟨_, _, _, rfl, rfl, atD0, ?_⟩ | refine ⟨_, _, _, rfl, rfl, atD1, ?_⟩ | refine ⟨_, _, rfl, rfl, rfl, ?_⟩ | refine for_cons rfl ?_ | refine for_nil ?_ | dsimp only))
        refine ⟨_, _, _, rfl, rfl, e', ?_⟩
        (repeat' (first | refine w_v rfl ?_ | refine w_int ?_ | refine w_bl ?_ | refine w_non ?_ | refine w_str ?_ | refine w_cons ?_ | refine w_nil ?_ | refine w_bin ?_ | refine w_cmp ?_ | refine w_call ?_ | refine w_bi ?_ | refine w_isi ?_ | refine w_ix ?_ | refine w_and ?_ | refine w_or ?_ | refine w_not ?_ | refine w_chn ?_ | refine w_tup ?_ | refine w_lst ?_ | refine w_ite ?_ | refine w_neg ?_ | refine w_sl ?_ | refine sl_t ?_ | refine sl_n ?_ | refine sl_b ?_ | refine sl_l ?_ | refine w_rev ?_ | refine rv_t ?_ | refine rv_n ?_ | refine rv_l ?_ | refine rv_b ?_ | refine w_onone ?_ | refine w_osome ?_ | refine b_asg ?_ | refine b_ret ?_ | refine b_retN ?_ | refine b_expr ?_ | refine b_pass ?_ | refine b_ifs ?_ | refine b_for ?_ | refine b_asgO ?_ | refine b_asgR ?_ | refine bw_add ?_ | refine bw_sub ?_ | refine cw_lt ?_ | refine cw_le ?_ | refine cw_gt ?_ | refine cw_ge ?_ | refine cw_eqI ?_ | refine cw_neI ?_ | refine bl_w ?_ | refine if_t ?_ | refine if_f ?_ | refine w_comp ?_ | refine b_nil ?_ | refine b_par ?_ | refine b_par2 ?_ | refine b_appO rfl ?_ | refine b_extO rfl ?_ | refine fl_rt ?_ | refine fl_nx ?_ | refine And.intro (by assumption) ?_ | refine And.intro rfl ?_ | refine ⟨_, rfl, ?_⟩ | refine ⟨_, _, rfl, rfl, ?_⟩ | refine ⟨_, rfl, rfl, ?_⟩ | refine ⟨_, _, _, rfl, rfl, rfl, ?_⟩ | refine ⟨_, _, _, rfl, rfl, atD0, ?_⟩ | refine ⟨_, _, _, rfl, rfl, atD1, ?_⟩ | refine ⟨_, _, rfl, rfl, rfl, ?_⟩ | refine for_cons rfl ?_ | refine for_nil ?_ | dsimp only))
        refine bw_mul (mulOk_r (by decide) (by decide)) ?_
        (repeat' (first | refine w_v rfl ?_ | refine w_int ?_ | refine w_bl ?_ | refine w_non ?_ | refine w_str ?_ | refine w_cons ?_ | refine w_nil ?_ | refine w_bin ?_ | refine w_cmp ?_ | refine w_call ?_ | refine w_bi ?_ | refine w_isi ?_ | refine w_ix ?_ | refine w_and ?_ | refine w_or ?_ | refine w_not ?_ | refine w_chn ?_ | refine w_tup ?_ | refine w_lst ?_ | refine w_ite ?_ | refine w_neg ?_ | refine w_sl ?_ | refine sl_t ?_ | refine sl_n ?_ | refine sl_b ?_ | refine sl_l ?_ | refine w_rev ?_ | refine rv_t ?_ | refine rv_n ?_ | refine rv_l ?_ | refine rv_b ?_ | refine w_onone ?_ | refine w_osome ?_ | refine b_asg ?_ | refine b_ret ?_ | refine b_retN ?_ | refine b_expr ?_ | refine b_pass ?_ | refine b_ifs ?_ | refine b_for ?_ | refine b_asgO ?_ | refine b_asgR ?_ | refine bw_add ?_ | refine bw_sub ?_ | refine cw_lt ?_ | refine cw_le ?_ | refine cw_gt ?_ | refine cw_ge ?_ | refine cw_eqI ?_ | refine cw_neI ?_ | refine bl_w ?_ | refine if_t ?_ | refine if_f ?_ | refine w_comp ?_ | refine b_nil ?_ | refine b_par ?_ | refine b_par2 ?_ | refine b_appO rfl ?_ | refine b_extO rfl ?_ | refine fl_rt ?_ | refine fl_nx ?_ | refine And.intro (by assumption) ?_ | refine And.intro rfl ?_ | refine ⟨_, rfl, ?_⟩ | refine ⟨_, _, rfl, rfl, ?_⟩ | refine ⟨_, rfl, rfl, ?_⟩ | refine ⟨_, _, _, rfl, rfl, rfl, ?_⟩ | refine ⟨_, _, _, rfl, rfl, atD0, ?_⟩ | refine ⟨_, _, _, rfl, rfl, atD1, ?_⟩ | refine ⟨_, _, rfl, rfl, rfl, ?_⟩ | refine for_cons rfl ?_ | refine for_nil ?_ | dsimp only))
        refine bw_mul (mulOk_r (by decide) (by decide)) ?_
        (repeat' (first | refine w_v rfl ?_ | refine w_int ?_ | refine w_bl ?_ | refine w_non ?_ | refine w_str ?_ | refine w_cons ?_ | refine w_nil ?_ | refine w_bin ?_ | refine w_cmp ?_ | refine w_call ?_ | refine w_bi ?_ | refine w_isi ?_ | refine w_ix ?_ | refine w_and ?_ | refine w_or ?_ | refine w_not ?_ | refine w_chn ?_ | refine w_tup ?_ | refine w_lst ?_ | refine w_ite ?_ | refine w_neg ?_ | refine w_sl ?_ | refine sl_t ?_ | refine sl_n ?_ | refine sl_b ?_ | refine sl_l ?_ | refine w_rev ?_ | refine rv_t ?_ | refine rv_n ?_ | refine rv_l ?_ | refine rv_b ?_ | refine w_onone ?_ | refine w_osome ?_ | refine b_asg ?_ | refine b_ret ?_ | refine b_retN ?_ | refine b_expr ?_ | refine b_pass ?_ | refine b_ifs ?_ | refine b_for ?_ | refine b_asgO ?_ | refine b_asgR ?_ | refine bw_add ?_ | refine bw_sub ?_ | refine cw_lt ?_ | refine cw_le ?_ | refine cw_gt ?_ | refine cw_ge ?_ | refine cw_eqI ?_ | refine cw_neI ?_ | refine bl_w ?_ | refine if_t ?_ | refine if_f ?_ | refine w_comp ?_ | refine b_nil ?_ | refine b_par ?_ | refine b_par2 ?_ | refine b_appO rfl ?_ | refine b_extO rfl ?_ | refine fl_rt ?_ | refine fl_nx ?_ | refine And.intro (by assumption) ?_ | refine And.intro rfl ?_ | refine ⟨_, rfl, ?_⟩ | refine ⟨_, _, rfl, rfl, ?_⟩ | refine ⟨_, rfl, rfl, ?_⟩ | refine ⟨_, _, _, rfl, rfl, rfl, ?_⟩ | refine ⟨_, _, _, rfl, rfl, atD0, ?_⟩ | refine ⟨_, _, _, rfl, rfl, atD1, ?_⟩ | refine ⟨_, _, rfl, rfl, rfl, ?_⟩ | refine for_cons rfl ?_ | refine for_nil ?_ | dsimp only))
        exact ⟨⟨_, rfl⟩, rfl⟩
theorem mixed_wp {p : Pg} (h6 : p.Pt 6 = some f_law_cell_at) (h7 : p.Pt 7 = some f_law_mixed) {n : Nat} {ns : List Int} {k many : Int} {h : MH} (hk : 0 ≤ k) (hm : 0 < many) (hl : ns.length ≤ 1000) : (p.c (n + 2) 7 [.v (scD ns), .v (.int k), .v (.int many)] h).wp fun r h' => (∃ i, r = .v (.int i) ∧ 0 ≤ i ∧ i < many) ∧ h' = h := by
  refine Pg.call_wp h7 rfl ?_
  unfold f_law_mixed b_law_mixed
  (repeat' (first | refine w_v rfl ?_ | refine w_int ?_ | refine w_bl ?_ | refine w_non ?_ | refine w_str ?_ | refine w_cons ?_ | refine w_nil ?_ | refine w_bin ?_ | refine w_cmp ?_ | refine w_call ?_ | refine w_bi ?_ | refine w_isi ?_ | refine w_ix ?_ | refine w_and ?_ | refine w_or ?_ | refine w_not ?_ | refine w_chn ?_ | refine w_tup ?_ | refine w_lst ?_ | refine w_ite ?_ | refine w_neg ?_ | refine w_sl ?_ | refine sl_t ?_ | refine sl_n ?_ | refine sl_b ?_ | refine sl_l ?_ | refine w_rev ?_ | refine rv_t ?_ | refine rv_n ?_ | refine rv_l ?_ | refine rv_b ?_ | refine w_onone ?_ | refine w_osome ?_ | refine b_asg ?_ | refine b_ret ?_ | refine b_retN ?_ | refine b_expr ?_ | refine b_pass ?_ | refine b_ifs ?_ | refine b_for ?_ | refine b_asgO ?_ | refine b_asgR ?_ | refine bw_add ?_ | refine bw_sub ?_ | refine cw_lt ?_ | refine cw_le ?_ | refine cw_gt ?_ | refine cw_ge ?_ | refine cw_eqI ?_ | refine cw_neI ?_ | refine bl_w ?_ | refine if_t ?_ | refine if_f ?_ | refine w_comp ?_ | refine b_nil ?_ | refine b_par ?_ | refine b_par2 ?_ | refine b_appO rfl ?_ | refine b_extO rfl ?_ | refine fl_rt ?_ | refine fl_nx ?_ | refine And.intro (by assumption) ?_ | refine And.intro rfl ?_ | refine ⟨_, rfl, ?_⟩ | refine ⟨_, _, rfl, rfl, ?_⟩ | refine ⟨_, rfl, rfl, ?_⟩ | refine ⟨_, _, _, rfl, rfl, rfl, ?_⟩ | refine ⟨_, _, _, rfl, rfl, atD0, ?_⟩ | refine ⟨_, _, _, rfl, rfl, atD1, ?_⟩ | refine ⟨_, _, rfl, rfl, rfl, ?_⟩ | refine for_cons rfl ?_ | refine for_nil ?_ | dsimp only))
  refine O.wp_mono (cell_at_wp h6 hk hl) fun r h' z => ?_
  obtain ⟨⟨i, rfl⟩, rfl⟩ := z
  (repeat' (first | refine w_v rfl ?_ | refine w_int ?_ | refine w_bl ?_ | refine w_non ?_ | refine w_str ?_ | refine w_cons ?_ | refine w_nil ?_ | refine w_bin ?_ | refine w_cmp ?_ | refine w_call ?_ | refine w_bi ?_ | refine w_isi ?_ | refine w_ix ?_ | refine w_and ?_ | refine w_or ?_ | refine w_not ?_ | refine w_chn ?_ | refine w_tup ?_ | refine w_lst ?_ | refine w_ite ?_ | refine w_neg ?_ | refine w_sl ?_ | refine sl_t ?_ | refine sl_n ?_ | refine sl_b ?_ | refine sl_l ?_ | refine w_rev ?_ | refine rv_t ?_ | refine rv_n ?_ | refine rv_l ?_ | refine rv_b ?_ | refine w_onone ?_ | refine w_osome ?_ | refine b_asg ?_ | refine b_ret ?_ | refine b_retN ?_ | refine b_expr ?_ | refine b_pass ?_ | refine b_ifs ?_ | refine b_for ?_ | refine b_asgO ?_ | refine b_asgR ?_ | refine bw_add ?_ | refine bw_sub ?_ | refine cw_lt ?_ | refine cw_le ?_ | refine cw_gt ?_ | refine cw_ge ?_ | refine cw_eqI ?_ | refine cw_neI ?_ | refine bl_w ?_ | refine if_t ?_ | refine if_f ?_ | refine w_comp ?_ | refine b_nil ?_ | refine b_par ?_ | refine b_par2 ?_ | refine b_appO rfl ?_ | refine b_extO rfl ?_ | refine fl_rt ?_ | refine fl_nx ?_ | refine And.intro (by assumption) ?_ | refine And.intro rfl ?_ | refine ⟨_, rfl, ?_⟩ | refine ⟨_, _, rfl, rfl, ?_⟩ | refine ⟨_, rfl, rfl, ?_⟩ | refine ⟨_, _, _, rfl, rfl, rfl, ?_⟩ | refine ⟨_, _, _, rfl, rfl, atD0, ?_⟩ | refine ⟨_, _, _, rfl, rfl, atD1, ?_⟩ | refine ⟨_, _, rfl, rfl, rfl, ?_⟩ | refine for_cons rfl ?_ | refine for_nil ?_ | dsimp only))
  refine bw_mul (mulOk_r (by decide) (by decide)) ?_
  (repeat' (first | refine w_v rfl ?_ | refine w_int ?_ | refine w_bl ?_ | refine w_non ?_ | refine w_str ?_ | refine w_cons ?_ | refine w_nil ?_ | refine w_bin ?_ | refine w_cmp ?_ | refine w_call ?_ | refine w_bi ?_ | refine w_isi ?_ | refine w_ix ?_ | refine w_and ?_ | refine w_or ?_ | refine w_not ?_ | refine w_chn ?_ | refine w_tup ?_ | refine w_lst ?_ | refine w_ite ?_ | refine w_neg ?_ | refine w_sl ?_ | refine sl_t ?_ | refine sl_n ?_ | refine sl_b ?_ | refine sl_l ?_ | refine w_rev ?_ | refine rv_t ?_ | refine rv_n ?_ | refine rv_l ?_ | refine rv_b ?_ | refine w_onone ?_ | refine w_osome ?_ | refine b_asg ?_ | refine b_ret ?_ | refine b_retN ?_ | refine b_expr ?_ | refine b_pass ?_ | refine b_ifs ?_ | refine b_for ?_ | refine b_asgO ?_ | refine b_asgR ?_ | refine bw_add ?_ | refine bw_sub ?_ | refine cw_lt ?_ | refine cw_le ?_ | refine cw_gt ?_ | refine cw_ge ?_ | refine cw_eqI ?_ | refine cw_neI ?_ | refine bl_w ?_ | refine if_t ?_ | refine if_f ?_ | refine w_comp ?_ | refine b_nil ?_ | refine b_par ?_ | refine b_par2 ?_ | refine b_appO rfl ?_ | refine b_extO rfl ?_ | refine fl_rt ?_ | refine fl_nx ?_ | refine And.intro (by assumption) ?_ | refine And.intro rfl ?_ | refine ⟨_, rfl, ?_⟩ | refine ⟨_, _, rfl, rfl, ?_⟩ | refine ⟨_, rfl, rfl, ?_⟩ | refine ⟨_, _, _, rfl, rfl, rfl, ?_⟩ | refine ⟨_, _, _, rfl, rfl, atD0, ?_⟩ | refine ⟨_, _, _, rfl, rfl, atD1, ?_⟩ | refine ⟨_, _, rfl, rfl, rfl, ?_⟩ | refine for_cons rfl ?_ | refine for_nil ?_ | dsimp only))
  have g0 : 0 ≤ (i * 1103515245 + 7919 * k + 12345) % 2147483647 := Int.emod_nonneg _ (by decide)
  have g1 : (i * 1103515245 + 7919 * k + 12345) % 2147483647 < 2147483647 := Int.emod_lt_of_pos _ (by decide)
  generalize (i * 1103515245 + 7919 * k + 12345) % 2147483647 = s at *
  refine bw_pow ?_ ?_
  · unfold powOk
    refine decide_eq_true ⟨by decide, by decide, by omega⟩
  (repeat' (first | refine w_v rfl ?_ | refine w_int ?_ | refine w_bl ?_ | refine w_non ?_ | refine w_str ?_ | refine w_cons ?_ | refine w_nil ?_ | refine w_bin ?_ | refine w_cmp ?_ | refine w_call ?_ | refine w_bi ?_ | refine w_isi ?_ | refine w_ix ?_ | refine w_and ?_ | refine w_or ?_ | refine w_not ?_ | refine w_chn ?_ | refine w_tup ?_ | refine w_lst ?_ | refine w_ite ?_ | refine w_neg ?_ | refine w_sl ?_ | refine sl_t ?_ | refine sl_n ?_ | refine sl_b ?_ | refine sl_l ?_ | refine w_rev ?_ | refine rv_t ?_ | refine rv_n ?_ | refine rv_l ?_ | refine rv_b ?_ | refine w_onone ?_ | refine w_osome ?_ | refine b_asg ?_ | refine b_ret ?_ | refine b_retN ?_ | refine b_expr ?_ | refine b_pass ?_ | refine b_ifs ?_ | refine b_for ?_ | refine b_asgO ?_ | refine b_asgR ?_ | refine bw_add ?_ | refine bw_sub ?_ | refine cw_lt ?_ | refine cw_le ?_ | refine cw_gt ?_ | refine cw_ge ?_ | refine cw_eqI ?_ | refine cw_neI ?_ | refine bl_w ?_ | refine if_t ?_ | refine if_f ?_ | refine w_comp ?_ | refine b_nil ?_ | refine b_par ?_ | refine b_par2 ?_ | refine b_appO rfl ?_ | refine b_extO rfl ?_ | refine fl_rt ?_ | refine fl_nx ?_ | refine And.intro (by assumption) ?_ | refine And.intro rfl ?_ | refine ⟨_, rfl, ?_⟩ | refine ⟨_, _, rfl, rfl, ?_⟩ | refine ⟨_, rfl, rfl, ?_⟩ | refine ⟨_, _, _, rfl, rfl, rfl, ?_⟩ | refine ⟨_, _, _, rfl, rfl, atD0, ?_⟩ | refine ⟨_, _, _, rfl, rfl, atD1, ?_⟩ | refine ⟨_, _, rfl, rfl, rfl, ?_⟩ | refine for_cons rfl ?_ | refine for_nil ?_ | dsimp only))
  refine bw_mod hm ?_
  (repeat' (first | refine w_v rfl ?_ | refine w_int ?_ | refine w_bl ?_ | refine w_non ?_ | refine w_str ?_ | refine w_cons ?_ | refine w_nil ?_ | refine w_bin ?_ | refine w_cmp ?_ | refine w_call ?_ | refine w_bi ?_ | refine w_isi ?_ | refine w_ix ?_ | refine w_and ?_ | refine w_or ?_ | refine w_not ?_ | refine w_chn ?_ | refine w_tup ?_ | refine w_lst ?_ | refine w_ite ?_ | refine w_neg ?_ | refine w_sl ?_ | refine sl_t ?_ | refine sl_n ?_ | refine sl_b ?_ | refine sl_l ?_ | refine w_rev ?_ | refine rv_t ?_ | refine rv_n ?_ | refine rv_l ?_ | refine rv_b ?_ | refine w_onone ?_ | refine w_osome ?_ | refine b_asg ?_ | refine b_ret ?_ | refine b_retN ?_ | refine b_expr ?_ | refine b_pass ?_ | refine b_ifs ?_ | refine b_for ?_ | refine b_asgO ?_ | refine b_asgR ?_ | refine bw_add ?_ | refine bw_sub ?_ | refine cw_lt ?_ | refine cw_le ?_ | refine cw_gt ?_ | refine cw_ge ?_ | refine cw_eqI ?_ | refine cw_neI ?_ | refine bl_w ?_ | refine if_t ?_ | refine if_f ?_ | refine w_comp ?_ | refine b_nil ?_ | refine b_par ?_ | refine b_par2 ?_ | refine b_appO rfl ?_ | refine b_extO rfl ?_ | refine fl_rt ?_ | refine fl_nx ?_ | refine And.intro (by assumption) ?_ | refine And.intro rfl ?_ | refine ⟨_, rfl, ?_⟩ | refine ⟨_, _, rfl, rfl, ?_⟩ | refine ⟨_, rfl, rfl, ?_⟩ | refine ⟨_, _, _, rfl, rfl, rfl, ?_⟩ | refine ⟨_, _, _, rfl, rfl, atD0, ?_⟩ | refine ⟨_, _, _, rfl, rfl, atD1, ?_⟩ | refine ⟨_, _, rfl, rfl, rfl, ?_⟩ | refine for_cons rfl ?_ | refine for_nil ?_ | dsimp only))
  exact ⟨⟨_, rfl, Int.emod_nonneg _ (Int.ne_of_gt hm), Int.emod_lt_of_pos _ hm⟩, rfl⟩
/-- the state: one list of the heap, of at most k entries; the rest is h0's -/
def Sta (i : Nat) (h0 : MH) (k : Nat) (h : MH) : Prop := i < h0.length ∧ ∃ zs, h = h0.set i (.lst zs) ∧ zs.length ≤ k ∧ ∀ z ∈ zs, z = .int 0
theorem Sta.len {i k : Nat} {h0 h : MH} (s : Sta i h0 k h) : h.length = h0.length := by
  obtain ⟨_, zs, rfl, _⟩ := s
  simp
theorem Sta.mono {i k m : Nat} {h0 h : MH} (s : Sta i h0 k h) (e : k ≤ m) : Sta i h0 m h := by
  obtain ⟨a, zs, b, c, d⟩ := s
  exact ⟨a, zs, b, by omega, d⟩
structure PDr (p : Pg) : Prop where
  h6 : p.Pt 6 = some f_law_cell_at
  h7 : p.Pt 7 = some f_law_mixed
  h8 : p.Pt 8 = some f_law_draw
structure PLaw (p : Pg) : Prop extends PDr p where
  h9 : p.Pt 9 = some f_law_pick
  h10 : p.Pt 10 = some f_law_some_numbers
  h11 : p.Pt 11 = some f_law_some_exchange
  h12 : p.Pt 12 = some f_law_some_board
theorem draw_wp {p : Pg} (L : PDr p) {n i k : Nat} {h0 : MH} {ns : List Int} {many : Int} {h : MH} (hs : Sta i h0 k h) (hk : k < 1000000) (hm : 0 < many) (hl : ns.length ≤ 1000) :
    (p.c (n + 3) 8 [.v (scD ns), .v (.obj i), .v (.int many)] h).wp fun r h' => (∃ i, r = .v (.int i) ∧ 0 ≤ i ∧ i < many) ∧ Sta i h0 (k + 1) h' := by
  refine Pg.call_wp L.h8 rfl ?_
  unfold f_law_draw b_law_draw
  obtain ⟨hi, zs, rfl, hz, hz2⟩ := hs
  have e : (h0.set i (.lst zs))[i]? = some (.lst zs) := List.getElem?_set_self hi
  refine b_appR rfl e ?_
  (repeat' (first | refine w_v rfl ?_ | refine w_int ?_ | refine w_bl ?_ | refine w_non ?_ | refine w_str ?_ | refine w_cons ?_ | refine w_nil ?_ | refine w_bin ?_ | refine w_cmp ?_ | refine w_call ?_ | refine w_bi ?_ | refine w_isi ?_ | refine w_ix ?_ | refine w_and ?_ | refine w_or ?_ | refine w_not ?_ | refine w_chn ?_ | refine w_tup ?_ | refine w_lst ?_ | refine w_ite ?_ | refine w_neg ?_ | refine w_sl ?_ | refine sl_t ?_ | refine sl_n ?_ | refine sl_b ?_ | refine sl_l ?_ | refine w_rev ?_ | refine rv_t ?_ | refine rv_n ?_ | refine rv_l ?_ | refine rv_b ?_ | refine w_onone ?_ | refine w_osome ?_ | refine b_asg ?_ | refine b_ret ?_ | refine b_retN ?_ | refine b_expr ?_ | refine b_pass ?_ | refine b_ifs ?_ | refine b_for ?_ | refine b_asgO ?_ | refine b_asgR ?_ | refine bw_add ?_ | refine bw_sub ?_ | refine cw_lt ?_ | refine cw_le ?_ | refine cw_gt ?_ | refine cw_ge ?_ | refine cw_eqI ?_ | refine cw_neI ?_ | refine bl_w ?_ | refine if_t ?_ | refine if_f ?_ | refine w_comp ?_ | refine b_nil ?_ | refine b_par ?_ | refine b_par2 ?_ | refine b_appO rfl ?_ | refine b_extO rfl ?_ | refine fl_rt ?_ | refine fl_nx ?_ | refine And.intro (by assumption) ?_ | refine And.intro rfl ?_ | refine ⟨_, rfl, ?_⟩ | refine ⟨_, _, rfl, rfl, ?_⟩ | refine ⟨_, rfl, rfl, ?_⟩ | refine ⟨_, _, _, rfl, rfl, rfl, ?_⟩ | refine ⟨_, _, _, rfl, rfl, atD0, ?_⟩ | refine ⟨_, _, _, rfl, rfl, atD1, ?_⟩ | refine ⟨_, _, rfl, rfl, rfl, ?_⟩ | refine for_cons rfl ?_ | refine for_nil ?_ | dsimp only))
  refine ⟨by unfold small; exact decide_eq_true (by omega), ?_⟩
  (repeat' (first | refine w_v rfl ?_ | refine w_int ?_ | refine w_bl ?_ | refine w_non ?_ | refine w_str ?_ | refine w_cons ?_ | refine w_nil ?_ | refine w_bin ?_ | refine w_cmp ?_ | refine w_call ?_ | refine w_bi ?_ | refine w_isi ?_ | refine w_ix ?_ | refine w_and ?_ | refine w_or ?_ | refine w_not ?_ | refine w_chn ?_ | refine w_tup ?_ | refine w_lst ?_ | refine w_ite ?_ | refine w_neg ?_ | refine w_sl ?_ | refine sl_t ?_ | refine sl_n ?_ | refine sl_b ?_ | refine sl_l ?_ | refine w_rev ?_ | refine rv_t ?_ | refine rv_n ?_ | refine rv_l ?_ | refine rv_b ?_ | refine w_onone ?_ | refine w_osome ?_ | refine b_asg ?_ | refine b_ret ?_ | refine b_retN ?_ | refine b_expr ?_ | refine b_pass ?_ | refine b_ifs ?_ | refine b_for ?_ | refine b_asgO ?_ | refine b_asgR ?_ | refine bw_add ?_ | refine bw_sub ?_ | refine cw_lt ?_ | refine cw_le ?_ | refine cw_gt ?_ | refine cw_ge ?_ | refine cw_eqI ?_ | refine cw_neI ?_ | refine bl_w ?_ | refine if_t ?_ | refine if_f ?_ | refine w_comp ?_ | refine b_nil ?_ | refine b_par ?_ | refine b_par2 ?_ | refine b_appO rfl ?_ | refine b_extO rfl ?_ | refine fl_rt ?_ | refine fl_nx ?_ | refine And.intro (by assumption) ?_ | refine And.intro rfl ?_ | refine ⟨_, rfl, ?_⟩ | refine ⟨_, _, rfl, rfl, ?_⟩ | refine ⟨_, rfl, rfl, ?_⟩ | refine ⟨_, _, _, rfl, rfl, rfl, ?_⟩ | refine ⟨_, _, _, rfl, rfl, atD0, ?_⟩ | refine ⟨_, _, _, rfl, rfl, atD1, ?_⟩ | refine ⟨_, _, rfl, rfl, rfl, ?_⟩ | refine for_cons rfl ?_ | refine for_nil ?_ | dsimp only))
  refine ⟨.v (.int ((zs ++ [D.int 0]).length : Nat)), by simp [biR, hi], ?_⟩
  (repeat' (first | refine w_v rfl ?_ | refine w_int ?_ | refine w_bl ?_ | refine w_non ?_ | refine w_str ?_ | refine w_cons ?_ | refine w_nil ?_ | refine w_bin ?_ | refine w_cmp ?_ | refine w_call ?_ | refine w_bi ?_ | refine w_isi ?_ | refine w_ix ?_ | refine w_and ?_ | refine w_or ?_ | refine w_not ?_ | refine w_chn ?_ | refine w_tup ?_ | refine w_lst ?_ | refine w_ite ?_ | refine w_neg ?_ | refine w_sl ?_ | refine sl_t ?_ | refine sl_n ?_ | refine sl_b ?_ | refine sl_l ?_ | refine w_rev ?_ | refine rv_t ?_ | refine rv_n ?_ | refine rv_l ?_ | refine rv_b ?_ | refine w_onone ?_ | refine w_osome ?_ | refine b_asg ?_ | refine b_ret ?_ | refine b_retN ?_ | refine b_expr ?_ | refine b_pass ?_ | refine b_ifs ?_ | refine b_for ?_ | refine b_asgO ?_ | refine b_asgR ?_ | refine bw_add ?_ | refine bw_sub ?_ | refine cw_lt ?_ | refine cw_le ?_ | refine cw_gt ?_ | refine cw_ge ?_ | refine cw_eqI ?_ | refine cw_neI ?_ | refine bl_w ?_ | refine if_t ?_ | refine if_f ?_ | refine w_comp ?_ | refine b_nil ?_ | refine b_par ?_ | refine b_par2 ?_ | refine b_appO rfl ?_ | refine b_extO rfl ?_ | refine fl_rt ?_ | refine fl_nx ?_ | refine And.intro (by assumption) ?_ | refine And.intro rfl ?_ | refine ⟨_, rfl, ?_⟩ | refine ⟨_, _, rfl, rfl, ?_⟩ | refine ⟨_, rfl, rfl, ?_⟩ | refine ⟨_, _, _, rfl, rfl, rfl, ?_⟩ | refine ⟨_, _, _, rfl, rfl, atD0, ?_⟩ | refine ⟨_, _, _, rfl, rfl, atD1, ?_⟩ | refine ⟨_, _, rfl, rfl, rfl, ?_⟩ | refine for_cons rfl ?_ | refine for_nil ?_ | dsimp only))
  refine O.wp_mono (mixed_wp L.h6 L.h7 (by omega) hm hl) fun r h' z => ?_
  obtain ⟨⟨j, rfl, j0, j1⟩, rfl⟩ := z
  (repeat' (first | refine w_v rfl ?_ | refine w_int ?_ | refine w_bl ?_ | refine w_non ?_ | refine w_str ?_ | refine w_cons ?_ | refine w_nil ?_ | refine w_bin ?_ | refine w_cmp ?_ | refine w_call ?_ | refine w_bi ?_ | refine w_isi ?_ | refine w_ix ?_ | refine w_and ?_ | refine w_or ?_ | refine w_not ?_ | refine w_chn ?_ | refine w_tup ?_ | refine w_lst ?_ | refine w_ite ?_ | refine w_neg ?_ | refine w_sl ?_ | refine sl_t ?_ | refine sl_n ?_ | refine sl_b ?_ | refine sl_l ?_ | refine w_rev ?_ | refine rv_t ?_ | refine rv_n ?_ | refine rv_l ?_ | refine rv_b ?_ | refine w_onone ?_ | refine w_osome ?_ | refine b_asg ?_ | refine b_ret ?_ | refine b_retN ?_ | refine b_expr ?_ | refine b_pass ?_ | refine b_ifs ?_ | refine b_for ?_ | refine b_asgO ?_ | refine b_asgR ?_ | refine bw_add ?_ | refine bw_sub ?_ | refine cw_lt ?_ | refine cw_le ?_ | refine cw_gt ?_ | refine cw_ge ?_ | refine cw_eqI ?_ | refine cw_neI ?_ | refine bl_w ?_ | refine if_t ?_ | refine if_f ?_ | refine w_comp ?_ | refine b_nil ?_ | refine b_par ?_ | refine b_par2 ?_ | refine b_appO rfl ?_ | refine b_extO rfl ?_ | refine fl_rt ?_ | refine fl_nx ?_ | refine And.intro (by assumption) ?_ | refine And.intro rfl ?_ | refine ⟨_, rfl, ?_⟩ | refine ⟨_, _, rfl, rfl, ?_⟩ | refine ⟨_, rfl, rfl, ?_⟩ | refine ⟨_, _, _, rfl, rfl, rfl, ?_⟩ | refine ⟨_, _, _, rfl, rfl, atD0, ?_⟩ | refine ⟨_, _, _, rfl, rfl, atD1, ?_⟩ | refine ⟨_, _, rfl, rfl, rfl, ?_⟩ | refine for_cons rfl ?_ | refine for_nil ?_ | dsimp only))
  refine ⟨by simp, ⟨_, rfl, j0, j1⟩, hi, zs ++ [.int 0], by simp, by simp; omega, ?_⟩
  intro z hz
  rcases List.mem_append.mp hz with q | q
  · exact hz2 z q
  · simpa using q
theorem pick_wp {p : Pg} (L : PDr p) (h9 : p.Pt 9 = some f_law_pick) {n i k : Nat} {h0 : MH} {ns : List Int} {xs : List D} {h : MH} (hs : Sta i h0 k h) (hk : k < 1000000) (hx : 0 < xs.length) (hl : ns.length ≤ 1000) :
    (p.c (n + 4) 9 [.v (scD ns), .v (.obj i), .v (.tup xs)] h).wp fun r h' => (∃ d ∈ xs, r = .v d) ∧ Sta i h0 (k + 1) h' := by
  refine Pg.call_wp h9 rfl ?_
  unfold f_law_pick b_law_pick
  (repeat' (first | refine w_v rfl ?_ | refine w_int ?_ | refine w_bl ?_ | refine w_non ?_ | refine w_str ?_ | refine w_cons ?_ | refine w_nil ?_ | refine w_bin ?_ | refine w_cmp ?_ | refine w_call ?_ | refine w_bi ?_ | refine w_isi ?_ | refine w_ix ?_ | refine w_and ?_ | refine w_or ?_ | refine w_not ?_ | refine w_chn ?_ | refine w_tup ?_ | refine w_lst ?_ | refine w_ite ?_ | refine w_neg ?_ | refine w_sl ?_ | refine sl_t ?_ | refine sl_n ?_ | refine sl_b ?_ | refine sl_l ?_ | refine w_rev ?_ | refine rv_t ?_ | refine rv_n ?_ | refine rv_l ?_ | refine rv_b ?_ | refine w_onone ?_ | refine w_osome ?_ | refine b_asg ?_ | refine b_ret ?_ | refine b_retN ?_ | refine b_expr ?_ | refine b_pass ?_ | refine b_ifs ?_ | refine b_for ?_ | refine b_asgO ?_ | refine b_asgR ?_ | refine bw_add ?_ | refine bw_sub ?_ | refine cw_lt ?_ | refine cw_le ?_ | refine cw_gt ?_ | refine cw_ge ?_ | refine cw_eqI ?_ | refine cw_neI ?_ | refine bl_w ?_ | refine if_t ?_ | refine if_f ?_ | refine w_comp ?_ | refine b_nil ?_ | refine b_par ?_ | refine b_par2 ?_ | refine b_appO rfl ?_ | refine b_extO rfl ?_ | refine fl_rt ?_ | refine fl_nx ?_ | refine And.intro (by assumption) ?_ | refine And.intro rfl ?_ | refine ⟨_, rfl, ?_⟩ | refine ⟨_, _, rfl, rfl, ?_⟩ | refine ⟨_, rfl, rfl, ?_⟩ | refine ⟨_, _, _, rfl, rfl, rfl, ?_⟩ | refine ⟨_, _, _, rfl, rfl, atD0, ?_⟩ | refine ⟨_, _, _, rfl, rfl, atD1, ?_⟩ | refine ⟨_, _, rfl, rfl, rfl, ?_⟩ | refine for_cons rfl ?_ | refine for_nil ?_ | dsimp only))
  refine O.wp_mono (draw_wp L hs hk (by omega) hl) fun r h' z => ?_
  obtain ⟨⟨j, rfl, j0, j1⟩, s⟩ := z
  obtain ⟨d, e, m⟩ := atD_nat j0 j1
  refine ⟨_, _, _, rfl, rfl, e, ?_⟩
  (repeat' (first | refine w_v rfl ?_ | refine w_int ?_ | refine w_bl ?_ | refine w_non ?_ | refine w_str ?_ | refine w_cons ?_ | refine w_nil ?_ | refine w_bin ?_ | refine w_cmp ?_ | refine w_call ?_ | refine w_bi ?_ | refine w_isi ?_ | refine w_ix ?_ | refine w_and ?_ | refine w_or ?_ | refine w_not ?_ | refine w_chn ?_ | refine w_tup ?_ | refine w_lst ?_ | refine w_ite ?_ | refine w_neg ?_ | refine w_sl ?_ | refine sl_t ?_ | refine sl_n ?_ | refine sl_b ?_ | refine sl_l ?_ | refine w_rev ?_ | refine rv_t ?_ | refine rv_n ?_ | refine rv_l ?_ | refine rv_b ?_ | refine w_onone ?_ | refine w_osome ?_ | refine b_asg ?_ | refine b_ret ?_ | refine b_retN ?_ | refine b_expr ?_ | refine b_pass ?_ | refine b_ifs ?_ | refine b_for ?_ | refine b_asgO ?_ | refine b_asgR ?_ | refine bw_add ?_ | refine bw_sub ?_ | refine cw_lt ?_ | refine cw_le ?_ | refine cw_gt ?_ | refine cw_ge ?_ | refine cw_eqI ?_ | refine cw_neI ?_ | refine bl_w ?_ | refine if_t ?_ | refine if_f ?_ | refine w_comp ?_ | refine b_nil ?_ | refine b_par ?_ | refine b_par2 ?_ | refine b_appO rfl ?_ | refine b_extO rfl ?_ | refine fl_rt ?_ | refine fl_nx ?_ | refine And.intro (by assumption) ?_ | refine And.intro rfl ?_ | refine ⟨_, rfl, ?_⟩ | refine ⟨_, _, rfl, rfl, ?_⟩ | refine ⟨_, rfl, rfl, ?_⟩ | refine ⟨_, _, _, rfl, rfl, rfl, ?_⟩ | refine ⟨_, _, _, rfl, rfl, atD0, ?_⟩ | refine ⟨_, _, _, rfl, rfl, atD1, ?_⟩ | refine ⟨_, _, rfl, rfl, rfl, ?_⟩ | refine for_cons rfl ?_ | refine for_nil ?_ | dsimp only))
  exact ⟨by rw [s.len, hs.len], ⟨d, m, rfl⟩, s⟩
theorem pickL_wp {p : Pg} (L : PDr p) (h9 : p.Pt 9 = some f_law_pick) {n i k : Nat} {h0 : MH} {ns : List Int} {xs : List D} {h : MH} (hs : Sta i h0 k h) (hk : k < 1000000) (hx : 0 < xs.length) (hl : ns.length ≤ 1000) :
    (p.c (n + 4) 9 [.v (scD ns), .v (.obj i), .v (.lst xs)] h).wp fun r h' => (∃ d ∈ xs, r = .v d) ∧ Sta i h0 (k + 1) h' := by
  refine Pg.call_wp h9 rfl ?_
  unfold f_law_pick b_law_pick
  (repeat' (first | refine w_v rfl ?_ | refine w_int ?_ | refine w_bl ?_ | refine w_non ?_ | refine w_str ?_ | refine w_cons ?_ | refine w_nil ?_ | refine w_bin ?_ | refine w_cmp ?_ | refine w_call ?_ | refine w_bi ?_ | refine w_isi ?_ | refine w_ix ?_ | refine w_and ?_ | refine w_or ?_ | refine w_not ?_ | refine w_chn ?_ | refine w_tup ?_ | refine w_lst ?_ | refine w_ite ?_ | refine w_neg ?_ | refine w_sl ?_ | refine sl_t ?_ | refine sl_n ?_ | refine sl_b ?_ | refine sl_l ?_ | refine w_rev ?_ | refine rv_t ?_ | refine rv_n ?_ | refine rv_l ?_ | refine rv_b ?_ | refine w_onone ?_ | refine w_osome ?_ | refine b_asg ?_ | refine b_ret ?_ | refine b_retN ?_ | refine b_expr ?_ | refine b_pass ?_ | refine b_ifs ?_ | refine b_for ?_ | refine b_asgO ?_ | refine b_asgR ?_ | refine bw_add ?_ | refine bw_sub ?_ | refine cw_lt ?_ | refine cw_le ?_ | refine cw_gt ?_ | refine cw_ge ?_ | refine cw_eqI ?_ | refine cw_neI ?_ | refine bl_w ?_ | refine if_t ?_ | refine if_f ?_ | refine w_comp ?_ | refine b_nil ?_ | refine b_par ?_ | refine b_par2 ?_ | refine b_appO rfl ?_ | refine b_extO rfl ?_ | refine fl_rt ?_ | refine fl_nx ?_ | refine And.intro (by assumption) ?_ | refine And.intro rfl ?_ | refine ⟨_, rfl, ?_⟩ | refine ⟨_, _, rfl, rfl, ?_⟩ | refine ⟨_, rfl, rfl, ?_⟩ | refine ⟨_, _, _, rfl, rfl, rfl, ?_⟩ | refine ⟨_, _, _, rfl, rfl, atD0, ?_⟩ | refine ⟨_, _, _, rfl, rfl, atD1, ?_⟩ | refine ⟨_, _, rfl, rfl, rfl, ?_⟩ | refine for_cons rfl ?_ | refine for_nil ?_ | dsimp only))
  refine O.wp_mono (draw_wp L hs hk (by omega) hl) fun r h' z => ?_
  obtain ⟨⟨j, rfl, j0, j1⟩, s⟩ := z
  obtain ⟨d, e, m⟩ := atD_nat j0 j1
  refine ⟨_, _, _, rfl, rfl, e, ?_⟩
  (repeat' (first | refine w_v rfl ?_ | refine w_int ?_ | refine w_bl ?_ | refine w_non ?_ | refine w_str ?_ | refine w_cons ?_ | refine w_nil ?_ | refine w_bin ?_ | refine w_cmp ?_ | refine w_call ?_ | refine w_bi ?_ | refine w_isi ?_ | refine w_ix ?_ | refine w_and ?_ | refine w_or ?_ | refine w_not ?_ | refine w_chn ?_ | refine w_tup ?_ | refine w_lst ?_ | refine w_ite ?_ | refine w_neg ?_ | refine w_sl ?_ | refine sl_t ?_ | refine sl_n ?_ | refine sl_b ?_ | refine sl_l ?_ | refine w_rev ?_ | refine rv_t ?_ | refine rv_n ?_ | refine rv_l ?_ | refine rv_b ?_ | refine w_onone ?_ | refine w_osome ?_ | refine b_asg ?_ | refine b_ret ?_ | refine b_retN ?_ | refine b_expr ?_ | refine b_pass ?_ | refine b_ifs ?_ | refine b_for ?_ | refine b_asgO ?_ | refine b_asgR ?_ | refine bw_add ?_ | refine bw_sub ?_ | refine cw_lt ?_ | refine cw_le ?_ | refine cw_gt ?_ | refine cw_ge ?_ | refine cw_eqI ?_ | refine cw_neI ?_ | refine bl_w ?_ | refine if_t ?_ | refine if_f ?_ | refine w_comp ?_ | refine b_nil ?_ | refine b_par ?_ | refine b_par2 ?_ | refine b_appO rfl ?_ | refine b_extO rfl ?_ | refine fl_rt ?_ | refine fl_nx ?_ | refine And.intro (by assumption) ?_ | refine And.intro rfl ?_ | refine ⟨_, rfl, ?_⟩ | refine ⟨_, _, rfl, rfl, ?_⟩ | refine ⟨_, rfl, rfl, ?_⟩ | refine ⟨_, _, _, rfl, rfl, rfl, ?_⟩ | refine ⟨_, _, _, rfl, rfl, atD0, ?_⟩ | refine ⟨_, _, _, rfl, rfl, atD1, ?_⟩ | refine ⟨_, _, rfl, rfl, rfl, ?_⟩ | refine for_cons rfl ?_ | refine for_nil ?_ | dsimp only))
  exact ⟨by rw [s.len, hs.len], ⟨d, m, rfl⟩, s⟩
theorem some_numbers_wp {p : Pg} (L : PLaw p) {n i k : Nat} {h0 : MH} {ns : List Int} {t hi : Int} {h : MH} (hs : Sta i h0 k h) (hk : k + t.toNat < 1000000) (ht : 0 ≤ t) (hh : 0 ≤ hi) (hl : ns.length ≤ 1000) :
    (p.c (n + 4) 10 [.v (scD ns), .v (.obj i), .v (.int t), .v (.int hi)] h).wp fun r h' => (∃ xs : List Int, r = .v (tupI xs) ∧ (xs.length : Int) = t ∧ ∀ x ∈ xs, 0 ≤ x ∧ x ≤ hi) ∧ Sta i h0 (k + t.toNat) h' := by
  refine Pg.call_wp L.h10 rfl ?_
  unfold f_law_some_numbers b_law_some_numbers
  (repeat' (first | refine w_v rfl ?_ | refine w_int ?_ | refine w_bl ?_ | refine w_non ?_ | refine w_str ?_ | refine w_cons ?_ | refine w_nil ?_ | refine w_bin ?_ | refine w_cmp ?_ | refine w_call ?_ | refine w_bi ?_ | refine w_isi ?_ | refine w_ix ?_ | refine w_and ?_ | refine w_or ?_ | refine w_not ?_ | refine w_chn ?_ | refine w_tup ?_ | refine w_lst ?_ | refine w_ite ?_ | refine w_neg ?_ | refine w_sl ?_ | refine sl_t ?_ | refine sl_n ?_ | refine sl_b ?_ | refine sl_l ?_ | refine w_rev ?_ | refine rv_t ?_ | refine rv_n ?_ | refine rv_l ?_ | refine rv_b ?_ | refine w_onone ?_ | refine w_osome ?_ | refine b_asg ?_ | refine b_ret ?_ | refine b_retN ?_ | refine b_expr ?_ | refine b_pass ?_ | refine b_ifs ?_ | refine b_for ?_ | refine b_asgO ?_ | refine b_asgR ?_ | refine bw_add ?_ | refine bw_sub ?_ | refine cw_lt ?_ | refine cw_le ?_ | refine cw_gt ?_ | refine cw_ge ?_ | refine cw_eqI ?_ | refine cw_neI ?_ | refine bl_w ?_ | refine if_t ?_ | refine if_f ?_ | refine w_comp ?_ | refine b_nil ?_ | refine b_par ?_ | refine b_par2 ?_ | refine b_appO rfl ?_ | refine b_extO rfl ?_ | refine fl_rt ?_ | refine fl_nx ?_ | refine And.intro (by assumption) ?_ | refine And.intro rfl ?_ | refine ⟨_, rfl, ?_⟩ | refine ⟨_, _, rfl, rfl, ?_⟩ | refine ⟨_, rfl, rfl, ?_⟩ | refine ⟨_, _, _, rfl, rfl, rfl, ?_⟩ | refine ⟨_, _, _, rfl, rfl, atD0, ?_⟩ | refine ⟨_, _, _, rfl, rfl, atD1, ?_⟩ | refine ⟨_, _, rfl, rfl, rfl, ?_⟩ | refine for_cons rfl ?_ | refine for_nil ?_ | dsimp only))
  refine it_rng (by omega) (by omega) ?_
  refine c_inv (J := fun acc h => (∃ xs : List Int, acc = xs.map .int ∧ ∀ x ∈ xs, 0 ≤ x ∧ x ≤ hi) ∧ Sta i h0 (k + acc.length) h) ⟨⟨[], rfl, by simp⟩, hs⟩ (fun d hd acc h ha J => ?_) (by rw [rngD_len]; omega) fun ys h' hy J => ?_
  · obtain ⟨⟨xs, rfl, hx⟩, s⟩ := J
    refine ⟨_, rfl, ?_⟩
    rw [rngD_len] at ha
    simp only [List.length_map] at ha s
    (repeat' (first | refine w_v rfl ?_ | refine w_int ?_ | refine w_bl ?_ | refine w_non ?_ | refine w_str ?_ | refine w_cons ?_ | refine w_nil ?_ | refine w_bin ?_ | refine w_cmp ?_ | refine w_call ?_ | refine w_bi ?_ | refine w_isi ?_ | refine w_ix ?_ | refine w_and ?_ | refine w_or ?_ | refine w_not ?_ | refine w_chn ?_ | refine w_tup ?_ | refine w_lst ?_ | refine w_ite ?_ | refine w_neg ?_ | refine w_sl ?_ | refine sl_t ?_ | refine sl_n ?_ | refine sl_b ?_ | refine sl_l ?_ | refine w_rev ?_ | refine rv_t ?_ | refine rv_n ?_ | refine rv_l ?_ | refine rv_b ?_ | refine w_onone ?_ | refine w_osome ?_ | refine b_asg ?_ | refine b_ret ?_ | refine b_retN ?_ | refine b_expr ?_ | refine b_pass ?_ | refine b_ifs ?_ | refine b_for ?_ | refine b_asgO ?_ | refine b_asgR ?_ | refine bw_add ?_ | refine bw_sub ?_ | refine cw_lt ?_ | refine cw_le ?_ | refine cw_gt ?_ | refine cw_ge ?_ | refine cw_eqI ?_ | refine cw_neI ?_ | refine bl_w ?_ | refine if_t ?_ | refine if_f ?_ | refine w_comp ?_ | refine b_nil ?_ | refine b_par ?_ | refine b_par2 ?_ | refine b_appO rfl ?_ | refine b_extO rfl ?_ | refine fl_rt ?_ | refine fl_nx ?_ | refine And.intro (by assumption) ?_ | refine And.intro rfl ?_ | refine ⟨_, rfl, ?_⟩ | refine ⟨_, _, rfl, rfl, ?_⟩ | refine ⟨_, rfl, rfl, ?_⟩ | refine ⟨_, _, _, rfl, rfl, rfl, ?_⟩ | refine ⟨_, _, _, rfl, rfl, atD0, ?_⟩ | refine ⟨_, _, _, rfl, rfl, atD1, ?_⟩ | refine ⟨_, _, rfl, rfl, rfl, ?_⟩ | refine for_cons rfl ?_ | refine for_nil ?_ | dsimp only))
    refine O.wp_mono (draw_wp L.toPDr s (by omega) (by omega) hl) fun r h' z => ?_
    obtain ⟨⟨j, rfl, j0, j1⟩, s⟩ := z
    (repeat' (first | refine w_v rfl ?_ | refine w_int ?_ | refine w_bl ?_ | refine w_non ?_ | refine w_str ?_ | refine w_cons ?_ | refine w_nil ?_ | refine w_bin ?_ | refine w_cmp ?_ | refine w_call ?_ | refine w_bi ?_ | refine w_isi ?_ | refine w_ix ?_ | refine w_and ?_ | refine w_or ?_ | refine w_not ?_ | refine w_chn ?_ | refine w_tup ?_ | refine w_lst ?_ | refine w_ite ?_ | refine w_neg ?_ | refine w_sl ?_ | refine sl_t ?_ | refine sl_n ?_ | refine sl_b ?_ | refine sl_l ?_ | refine w_rev ?_ | refine rv_t ?_ | refine rv_n ?_ | refine rv_l ?_ | refine rv_b ?_ | refine w_onone ?_ | refine w_osome ?_ | refine b_asg ?_ | refine b_ret ?_ | refine b_retN ?_ | refine b_expr ?_ | refine b_pass ?_ | refine b_ifs ?_ | refine b_for ?_ | refine b_asgO ?_ | refine b_asgR ?_ | refine bw_add ?_ | refine bw_sub ?_ | refine cw_lt ?_ | refine cw_le ?_ | refine cw_gt ?_ | refine cw_ge ?_ | refine cw_eqI ?_ | refine cw_neI ?_ | refine bl_w ?_ | refine if_t ?_ | refine if_f ?_ | refine w_comp ?_ | refine b_nil ?_ | refine b_par ?_ | refine b_par2 ?_ | refine b_appO rfl ?_ | refine b_extO rfl ?_ | refine fl_rt ?_ | refine fl_nx ?_ | refine And.intro (by assumption) ?_ | refine And.intro rfl ?_ | refine ⟨_, rfl, ?_⟩ | refine ⟨_, _, rfl, rfl, ?_⟩ | refine ⟨_, rfl, rfl, ?_⟩ | refine ⟨_, _, _, rfl, rfl, rfl, ?_⟩ | refine ⟨_, _, _, rfl, rfl, atD0, ?_⟩ | refine ⟨_, _, _, rfl, rfl, atD1, ?_⟩ | refine ⟨_, _, rfl, rfl, rfl, ?_⟩ | refine for_cons rfl ?_ | refine for_nil ?_ | dsimp only))
    refine ⟨⟨xs ++ [if 0 < j - 2 then j - 2 else 0], by rw [List.map_append]; rfl, ?_⟩, s.mono (by simp; omega)⟩
    intro x hx'
    rcases List.mem_append.mp hx' with q | q
    · exact hx x q
    · simp only [List.mem_singleton] at q
      subst q
      split <;> omega
  · obtain ⟨⟨xs, rfl, hx⟩, s⟩ := J
    rw [rngD_len] at hy
    simp only [List.length_map] at hy s
    (repeat' (first | refine w_v rfl ?_ | refine w_int ?_ | refine w_bl ?_ | refine w_non ?_ | refine w_str ?_ | refine w_cons ?_ | refine w_nil ?_ | refine w_bin ?_ | refine w_cmp ?_ | refine w_call ?_ | refine w_bi ?_ | refine w_isi ?_ | refine w_ix ?_ | refine w_and ?_ | refine w_or ?_ | refine w_not ?_ | refine w_chn ?_ | refine w_tup ?_ | refine w_lst ?_ | refine w_ite ?_ | refine w_neg ?_ | refine w_sl ?_ | refine sl_t ?_ | refine sl_n ?_ | refine sl_b ?_ | refine sl_l ?_ | refine w_rev ?_ | refine rv_t ?_ | refine rv_n ?_ | refine rv_l ?_ | refine rv_b ?_ | refine w_onone ?_ | refine w_osome ?_ | refine b_asg ?_ | refine b_ret ?_ | refine b_retN ?_ | refine b_expr ?_ | refine b_pass ?_ | refine b_ifs ?_ | refine b_for ?_ | refine b_asgO ?_ | refine b_asgR ?_ | refine bw_add ?_ | refine bw_sub ?_ | refine cw_lt ?_ | refine cw_le ?_ | refine cw_gt ?_ | refine cw_ge ?_ | refine cw_eqI ?_ | refine cw_neI ?_ | refine bl_w ?_ | refine if_t ?_ | refine if_f ?_ | refine w_comp ?_ | refine b_nil ?_ | refine b_par ?_ | refine b_par2 ?_ | refine b_appO rfl ?_ | refine b_extO rfl ?_ | refine fl_rt ?_ | refine fl_nx ?_ | refine And.intro (by assumption) ?_ | refine And.intro rfl ?_ | refine ⟨_, rfl, ?_⟩ | refine ⟨_, _, rfl, rfl, ?_⟩ | refine ⟨_, rfl, rfl, ?_⟩ | refine ⟨_, _, _, rfl, rfl, rfl, ?_⟩ | refine ⟨_, _, _, rfl, rfl, atD0, ?_⟩ | refine ⟨_, _, _, rfl, rfl, atD1, ?_⟩ | refine ⟨_, _, rfl, rfl, rfl, ?_⟩ | refine for_cons rfl ?_ | refine for_nil ?_ | dsimp only))
    refine ⟨by rw [s.len, hs.len], ⟨xs, rfl, by omega, hx⟩, s.mono (by omega)⟩
theorem cut_to {xs : List D} {k : Int} (h0 : 0 ≤ k) : cutD xs none (some k) = xs.take k.toNat := by
  obtain ⟨j, rfl⟩ := Int.eq_ofNat_of_zero_le h0
  unfold cutD
  rw [HT.sIx_none, HT.sIx_nat]
  by_cases h : j ≤ xs.length
  · rw [Nat.min_eq_left h]; simp
  · rw [Nat.min_eq_right (by omega)]
    have : (Int.toNat (j : Int)) = j := by omega
    simp only [List.drop_zero, Nat.sub_zero, this]
    rw [List.take_of_length_le (Nat.le_refl _), List.take_of_length_le (by omega)]
theorem cut_from {xs : List D} {k : Int} (h0 : 0 ≤ k) (h1 : k ≤ xs.length) : cutD xs (some k) none = xs.drop k.toNat := by
  obtain ⟨j, rfl⟩ := Int.eq_ofNat_of_zero_le h0
  unfold cutD
  rw [HT.sIx_none, HT.sIx_nat]
  have : min j xs.length = j := by omega
  rw [this, List.take_of_length_le (by simp)]
  simp
theorem sum_nn : ∀ {xs : List Int}, (∀ x ∈ xs, 0 ≤ x) → 0 ≤ xs.sum
  | [], _ => by simp
  | x :: xs, h => by
    have a := h x (by simp)
    have b := sum_nn (xs := xs) fun y hy => h y (by simp [hy])
    simp only [List.sum_cons]
    omega
theorem some_exchange_wp {p : Pg} (L : PLaw p) {n i k : Nat} {h0 : MH} {ns : List Int} {t : Int} {h : MH} (hs : Sta i h0 k h) (hk : k + 20 < 1000000) (ht : 1 ≤ t) (ht2 : t ≤ 4) (hl : ns.length ≤ 1000) :
    (p.c (n + 5) 11 [.v (scD ns), .v (.obj i), .v (.int t)] h).wp fun r h' => (∃ e : Ex, r = .v (exD e) ∧ EV t e) ∧ Sta i h0 (k + 10) h' := by
  refine Pg.call_wp L.h11 rfl ?_
  unfold f_law_some_exchange b_law_some_exchange
  (repeat' (first | refine w_v rfl ?_ | refine w_int ?_ | refine w_bl ?_ | refine w_non ?_ | refine w_str ?_ | refine w_cons ?_ | refine w_nil ?_ | refine w_bin ?_ | refine w_cmp ?_ | refine w_call ?_ | refine w_bi ?_ | refine w_isi ?_ | refine w_ix ?_ | refine w_and ?_ | refine w_or ?_ | refine w_not ?_ | refine w_chn ?_ | refine w_tup ?_ | refine w_lst ?_ | refine w_ite ?_ | refine w_neg ?_ | refine w_sl ?_ | refine sl_t ?_ | refine sl_n ?_ | refine sl_b ?_ | refine sl_l ?_ | refine w_rev ?_ | refine rv_t ?_ | refine rv_n ?_ | refine rv_l ?_ | refine rv_b ?_ | refine w_onone ?_ | refine w_osome ?_ | refine b_asg ?_ | refine b_ret ?_ | refine b_retN ?_ | refine b_expr ?_ | refine b_pass ?_ | refine b_ifs ?_ | refine b_for ?_ | refine b_asgO ?_ | refine b_asgR ?_ | refine bw_add ?_ | refine bw_sub ?_ | refine cw_lt ?_ | refine cw_le ?_ | refine cw_gt ?_ | refine cw_ge ?_ | refine cw_eqI ?_ | refine cw_neI ?_ | refine bl_w ?_ | refine if_t ?_ | refine if_f ?_ | refine w_comp ?_ | refine b_nil ?_ | refine b_par ?_ | refine b_par2 ?_ | refine b_appO rfl ?_ | refine b_extO rfl ?_ | refine fl_rt ?_ | refine fl_nx ?_ | refine And.intro (by assumption) ?_ | refine And.intro rfl ?_ | refine ⟨_, rfl, ?_⟩ | refine ⟨_, _, rfl, rfl, ?_⟩ | refine ⟨_, rfl, rfl, ?_⟩ | refine ⟨_, _, _, rfl, rfl, rfl, ?_⟩ | refine ⟨_, _, _, rfl, rfl, atD0, ?_⟩ | refine ⟨_, _, _, rfl, rfl, atD1, ?_⟩ | refine ⟨_, _, rfl, rfl, rfl, ?_⟩ | refine for_cons rfl ?_ | refine for_nil ?_ | dsimp only))
  refine O.wp_mono (some_numbers_wp L hs (by omega) (by omega) (by omega) hl) fun r h1 z => ?_
  obtain ⟨⟨xs, rfl, hx, hb⟩, s1⟩ := z
  have fin : ∀ (x4 : Option Sl) (h2 : MH) (ys : List Int) (m : Nat), Sta i h0 m h2 → m ≤ k + t.toNat + 2 → (ys.length : Int) = t → (∀ y ∈ ys, 0 ≤ y ∧ y ≤ 5) → 0 < ys.sum →
      xB (p.G (n + 4)) NX [.ret (.tup [(.v 3), (.call 10 [(.v 0), (.v 1), (.v 2), (.int 3)])])] [some (.v (scD ns)), some (.v (.obj i)), some (.v (.int t)), some (.v (tupI ys)), x4] h2 (FlW (fun _ h' => h'.length = h.length ∧ (∃ e : Ex, R.v .non = .v (exD e) ∧ EV t e) ∧ Sta i h0 (k + 10) h') fun r h' => h'.length = h.length ∧ (∃ e : Ex, r = .v (exD e) ∧ EV t e) ∧ Sta i h0 (k + 10) h') := by
    intro x4 h2 ys m s2 hm hy hby hsum
    (repeat' (first | refine w_v rfl ?_ | refine w_int ?_ | refine w_bl ?_ | refine w_non ?_ | refine w_str ?_ | refine w_cons ?_ | refine w_nil ?_ | refine w_bin ?_ | refine w_cmp ?_ | refine w_call ?_ | refine w_bi ?_ | refine w_isi ?_ | refine w_ix ?_ | refine w_and ?_ | refine w_or ?_ | refine w_not ?_ | refine w_chn ?_ | refine w_tup ?_ | refine w_lst ?_ | refine w_ite ?_ | refine w_neg ?_ | refine w_sl ?_ | refine sl_t ?_ | refine sl_n ?_ | refine sl_b ?_ | refine sl_l ?_ | refine w_rev ?_ | refine rv_t ?_ | refine rv_n ?_ | refine rv_l ?_ | refine rv_b ?_ | refine w_onone ?_ | refine w_osome ?_ | refine b_asg ?_ | refine b_ret ?_ | refine b_retN ?_ | refine b_expr ?_ | refine b_pass ?_ | refine b_ifs ?_ | refine b_for ?_ | refine b_asgO ?_ | refine b_asgR ?_ | refine bw_add ?_ | refine bw_sub ?_ | refine cw_lt ?_ | refine cw_le ?_ | refine cw_gt ?_ | refine cw_ge ?_ | refine cw_eqI ?_ | refine cw_neI ?_ | refine bl_w ?_ | refine if_t ?_ | refine if_f ?_ | refine w_comp ?_ | refine b_nil ?_ | refine b_par ?_ | refine b_par2 ?_ | refine b_appO rfl ?_ | refine b_extO rfl ?_ | refine fl_rt ?_ | refine fl_nx ?_ | refine And.intro (by assumption) ?_ | refine And.intro rfl ?_ | refine ⟨_, rfl, ?_⟩ | refine ⟨_, _, rfl, rfl, ?_⟩ | refine ⟨_, rfl, rfl, ?_⟩ | refine ⟨_, _, _, rfl, rfl, rfl, ?_⟩ | refine ⟨_, _, _, rfl, rfl, atD0, ?_⟩ | refine ⟨_, _, _, rfl, rfl, atD1, ?_⟩ | refine ⟨_, _, rfl, rfl, rfl, ?_⟩ | refine for_cons rfl ?_ | refine for_nil ?_ | dsimp only))
    refine O.wp_mono (some_numbers_wp L s2 (by omega) (by omega) (by omega) hl) fun r h3 z => ?_
    obtain ⟨⟨zs, rfl, hz, hbz⟩, s3⟩ := z
    (repeat' (first | refine w_v rfl ?_ | refine w_int ?_ | refine w_bl ?_ | refine w_non ?_ | refine w_str ?_ | refine w_cons ?_ | refine w_nil ?_ | refine w_bin ?_ | refine w_cmp ?_ | refine w_call ?_ | refine w_bi ?_ | refine w_isi ?_ | refine w_ix ?_ | refine w_and ?_ | refine w_or ?_ | refine w_not ?_ | refine w_chn ?_ | refine w_tup ?_ | refine w_lst ?_ | refine w_ite ?_ | refine w_neg ?_ | refine w_sl ?_ | refine sl_t ?_ | refine sl_n ?_ | refine sl_b ?_ | refine sl_l ?_ | refine w_rev ?_ | refine rv_t ?_ | refine rv_n ?_ | refine rv_l ?_ | refine rv_b ?_ | refine w_onone ?_ | refine w_osome ?_ | refine b_asg ?_ | refine b_ret ?_ | refine b_retN ?_ | refine b_expr ?_ | refine b_pass ?_ | refine b_ifs ?_ | refine b_for ?_ | refine b_asgO ?_ | refine b_asgR ?_ | refine bw_add ?_ | refine bw_sub ?_ | refine cw_lt ?_ | refine cw_le ?_ | refine cw_gt ?_ | refine cw_ge ?_ | refine cw_eqI ?_ | refine cw_neI ?_ | refine bl_w ?_ | refine if_t ?_ | refine if_f ?_ | refine w_comp ?_ | refine b_nil ?_ | refine b_par ?_ | refine b_par2 ?_ | refine b_appO rfl ?_ | refine b_extO rfl ?_ | refine fl_rt ?_ | refine fl_nx ?_ | refine And.intro (by assumption) ?_ | refine And.intro rfl ?_ | refine ⟨_, rfl, ?_⟩ | refine ⟨_, _, rfl, rfl, ?_⟩ | refine ⟨_, rfl, rfl, ?_⟩ | refine ⟨_, _, _, rfl, rfl, rfl, ?_⟩ | refine ⟨_, _, _, rfl, rfl, atD0, ?_⟩ | refine ⟨_, _, _, rfl, rfl, atD1, ?_⟩ | refine ⟨_, _, rfl, rfl, rfl, ?_⟩ | refine for_cons rfl ?_ | refine for_nil ?_ | dsimp only))
    refine ⟨by rw [s3.len, hs.len], ⟨(ys, zs), rfl, hy, hz, hby, fun z h => ?_, hsum⟩, s3.mono (by omega)⟩
    have := hbz z h
    omega
  (repeat' (first | refine w_v rfl ?_ | refine w_int ?_ | refine w_bl ?_ | refine w_non ?_ | refine w_str ?_ | refine w_cons ?_ | refine w_nil ?_ | refine w_bin ?_ | refine w_cmp ?_ | refine w_call ?_ | refine w_bi ?_ | refine w_isi ?_ | refine w_ix ?_ | refine w_and ?_ | refine w_or ?_ | refine w_not ?_ | refine w_chn ?_ | refine w_tup ?_ | refine w_lst ?_ | refine w_ite ?_ | refine w_neg ?_ | refine w_sl ?_ | refine sl_t ?_ | refine sl_n ?_ | refine sl_b ?_ | refine sl_l ?_ | refine w_rev ?_ | refine rv_t ?_ | refine rv_n ?_ | refine rv_l ?_ | refine rv_b ?_ | refine w_onone ?_ | refine w_osome ?_ | refine b_asg ?_ | refine b_ret ?_ | refine b_retN ?_ | refine b_expr ?_ | refine b_pass ?_ | refine b_ifs ?_ | refine b_for ?_ | refine b_asgO ?_ | refine b_asgR ?_ | refine bw_add ?_ | refine bw_sub ?_ | refine cw_lt ?_ | refine cw_le ?_ | refine cw_gt ?_ | refine cw_ge ?_ | refine cw_eqI ?_ | refine cw_neI ?_ | refine bl_w ?_ | refine if_t ?_ | refine if_f ?_ | refine w_comp ?_ | refine b_nil ?_ | refine b_par ?_ | refine b_par2 ?_ | refine b_appO rfl ?_ | refine b_extO rfl ?_ | refine fl_rt ?_ | refine fl_nx ?_ | refine And.intro (by assumption) ?_ | refine And.intro rfl ?_ | refine ⟨_, rfl, ?_⟩ | refine ⟨_, _, rfl, rfl, ?_⟩ | refine ⟨_, rfl, rfl, ?_⟩ | refine ⟨_, _, _, rfl, rfl, rfl, ?_⟩ | refine ⟨_, _, _, rfl, rfl, atD0, ?_⟩ | refine ⟨_, _, _, rfl, rfl, atD1, ?_⟩ | refine ⟨_, _, rfl, rfl, rfl, ?_⟩ | refine for_cons rfl ?_ | refine for_nil ?_ | dsimp only))
  refine ⟨.v (.int xs.sum), by simp [biR, R.rd, tupI, D.seq, ints_map], ?_⟩
  (repeat' (first | refine w_v rfl ?_ | refine w_int ?_ | refine w_bl ?_ | refine w_non ?_ | refine w_str ?_ | refine w_cons ?_ | refine w_nil ?_ | refine w_bin ?_ | refine w_cmp ?_ | refine w_call ?_ | refine w_bi ?_ | refine w_isi ?_ | refine w_ix ?_ | refine w_and ?_ | refine w_or ?_ | refine w_not ?_ | refine w_chn ?_ | refine w_tup ?_ | refine w_lst ?_ | refine w_ite ?_ | refine w_neg ?_ | refine w_sl ?_ | refine sl_t ?_ | refine sl_n ?_ | refine sl_b ?_ | refine sl_l ?_ | refine w_rev ?_ | refine rv_t ?_ | refine rv_n ?_ | refine rv_l ?_ | refine rv_b ?_ | refine w_onone ?_ | refine w_osome ?_ | refine b_asg ?_ | refine b_ret ?_ | refine b_retN ?_ | refine b_expr ?_ | refine b_pass ?_ | refine b_ifs ?_ | refine b_for ?_ | refine b_asgO ?_ | refine b_asgR ?_ | refine bw_add ?_ | refine bw_sub ?_ | refine cw_lt ?_ | refine cw_le ?_ | refine cw_gt ?_ | refine cw_ge ?_ | refine cw_eqI ?_ | refine cw_neI ?_ | refine bl_w ?_ | refine if_t ?_ | refine if_f ?_ | refine w_comp ?_ | refine b_nil ?_ | refine b_par ?_ | refine b_par2 ?_ | refine b_appO rfl ?_ | refine b_extO rfl ?_ | refine fl_rt ?_ | refine fl_nx ?_ | refine And.intro (by assumption) ?_ | refine And.intro rfl ?_ | refine ⟨_, rfl, ?_⟩ | refine ⟨_, _, rfl, rfl, ?_⟩ | refine ⟨_, rfl, rfl, ?_⟩ | refine ⟨_, _, _, rfl, rfl, rfl, ?_⟩ | refine ⟨_, _, _, rfl, rfl, atD0, ?_⟩ | refine ⟨_, _, _, rfl, rfl, atD1, ?_⟩ | refine ⟨_, _, rfl, rfl, rfl, ?_⟩ | refine for_cons rfl ?_ | refine for_nil ?_ | dsimp only))
  refine if_s (fun q => ?_) (fun q => ?_)
  · (repeat' (first | refine w_v rfl ?_ | refine w_int ?_ | refine w_bl ?_ | refine w_non ?_ | refine w_str ?_ | refine w_cons ?_ | refine w_nil ?_ | refine w_bin ?_ | refine w_cmp ?_ | refine w_call ?_ | refine w_bi ?_ | refine w_isi ?_ | refine w_ix ?_ | refine w_and ?_ | refine w_or ?_ | refine w_not ?_ | refine w_chn ?_ | refine w_tup ?_ | refine w_lst ?_ | refine w_ite ?_ | refine w_neg ?_ | refine w_sl ?_ | refine sl_t ?_ | refine sl_n ?_ | refine sl_b ?_ | refine sl_l ?_ | refine w_rev ?_ | refine rv_t ?_ | refine rv_n ?_ | refine rv_l ?_ | refine rv_b ?_ | refine w_onone ?_ | refine w_osome ?_ | refine b_asg ?_ | refine b_ret ?_ | refine b_retN ?_ | refine b_expr ?_ | refine b_pass ?_ | refine b_ifs ?_ | refine b_for ?_ | refine b_asgO ?_ | refine b_asgR ?_ | refine bw_add ?_ | refine bw_sub ?_ | refine cw_lt ?_ | refine cw_le ?_ | refine cw_gt ?_ | refine cw_ge ?_ | refine cw_eqI ?_ | refine cw_neI ?_ | refine bl_w ?_ | refine if_t ?_ | refine if_f ?_ | refine w_comp ?_ | refine b_nil ?_ | refine b_par ?_ | refine b_par2 ?_ | refine b_appO rfl ?_ | refine b_extO rfl ?_ | refine fl_rt ?_ | refine fl_nx ?_ | refine And.intro (by assumption) ?_ | refine And.intro rfl ?_ | refine ⟨_, rfl, ?_⟩ | refine ⟨_, _, rfl, rfl, ?_⟩ | refine ⟨_, rfl, rfl, ?_⟩ | refine ⟨_, _, _, rfl, rfl, rfl, ?_⟩ | refine ⟨_, _, _, rfl, rfl, atD0, ?_⟩ | refine ⟨_, _, _, rfl, rfl, atD1, ?_⟩ | refine ⟨_, _, rfl, rfl, rfl, ?_⟩ | refine for_cons rfl ?_ | refine for_nil ?_ | dsimp only))
    refine O.wp_mono (draw_wp L.toPDr s1 (by omega) (by omega) hl) fun r h2 z => ?_
    obtain ⟨⟨j, rfl, j0, j1⟩, s2⟩ := z
    (repeat' (first | refine w_v rfl ?_ | refine w_int ?_ | refine w_bl ?_ | refine w_non ?_ | refine w_str ?_ | refine w_cons ?_ | refine w_nil ?_ | refine w_bin ?_ | refine w_cmp ?_ | refine w_call ?_ | refine w_bi ?_ | refine w_isi ?_ | refine w_ix ?_ | refine w_and ?_ | refine w_or ?_ | refine w_not ?_ | refine w_chn ?_ | refine w_tup ?_ | refine w_lst ?_ | refine w_ite ?_ | refine w_neg ?_ | refine w_sl ?_ | refine sl_t ?_ | refine sl_n ?_ | refine sl_b ?_ | refine sl_l ?_ | refine w_rev ?_ | refine rv_t ?_ | refine rv_n ?_ | refine rv_l ?_ | refine rv_b ?_ | refine w_onone ?_ | refine w_osome ?_ | refine b_asg ?_ | refine b_ret ?_ | refine b_retN ?_ | refine b_expr ?_ | refine b_pass ?_ | refine b_ifs ?_ | refine b_for ?_ | refine b_asgO ?_ | refine b_asgR ?_ | refine bw_add ?_ | refine bw_sub ?_ | refine cw_lt ?_ | refine cw_le ?_ | refine cw_gt ?_ | refine cw_ge ?_ | refine cw_eqI ?_ | refine cw_neI ?_ | refine bl_w ?_ | refine if_t ?_ | refine if_f ?_ | refine w_comp ?_ | refine b_nil ?_ | refine b_par ?_ | refine b_par2 ?_ | refine b_appO rfl ?_ | refine b_extO rfl ?_ | refine fl_rt ?_ | refine fl_nx ?_ | refine And.intro (by assumption) ?_ | refine And.intro rfl ?_ | refine ⟨_, rfl, ?_⟩ | refine ⟨_, _, rfl, rfl, ?_⟩ | refine ⟨_, rfl, rfl, ?_⟩ | refine ⟨_, _, _, rfl, rfl, rfl, ?_⟩ | refine ⟨_, _, _, rfl, rfl, atD0, ?_⟩ | refine ⟨_, _, _, rfl, rfl, atD1, ?_⟩ | refine ⟨_, _, rfl, rfl, rfl, ?_⟩ | refine for_cons rfl ?_ | refine for_nil ?_ | dsimp only))
    refine O.wp_mono (draw_wp L.toPDr s2 (by omega) (by omega) hl) fun r h3 z => ?_
    obtain ⟨⟨a, rfl, a0, a1⟩, s3⟩ := z
    (repeat' (first | refine w_v rfl ?_ | refine w_int ?_ | refine w_bl ?_ | refine w_non ?_ | refine w_str ?_ | refine w_cons ?_ | refine w_nil ?_ | refine w_bin ?_ | refine w_cmp ?_ | refine w_call ?_ | refine w_bi ?_ | refine w_isi ?_ | refine w_ix ?_ | refine w_and ?_ | refine w_or ?_ | refine w_not ?_ | refine w_chn ?_ | refine w_tup ?_ | refine w_lst ?_ | refine w_ite ?_ | refine w_neg ?_ | refine w_sl ?_ | refine sl_t ?_ | refine sl_n ?_ | refine sl_b ?_ | refine sl_l ?_ | refine w_rev ?_ | refine rv_t ?_ | refine rv_n ?_ | refine rv_l ?_ | refine rv_b ?_ | refine w_onone ?_ | refine w_osome ?_ | refine b_asg ?_ | refine b_ret ?_ | refine b_retN ?_ | refine b_expr ?_ | refine b_pass ?_ | refine b_ifs ?_ | refine b_for ?_ | refine b_asgO ?_ | refine b_asgR ?_ | refine bw_add ?_ | refine bw_sub ?_ | refine cw_lt ?_ | refine cw_le ?_ | refine cw_gt ?_ | refine cw_ge ?_ | refine cw_eqI ?_ | refine cw_neI ?_ | refine bl_w ?_ | refine if_t ?_ | refine if_f ?_ | refine w_comp ?_ | refine b_nil ?_ | refine b_par ?_ | refine b_par2 ?_ | refine b_appO rfl ?_ | refine b_extO rfl ?_ | refine fl_rt ?_ | refine fl_nx ?_ | refine And.intro (by assumption) ?_ | refine And.intro rfl ?_ | refine ⟨_, rfl, ?_⟩ | refine ⟨_, _, rfl, rfl, ?_⟩ | refine ⟨_, rfl, rfl, ?_⟩ | refine ⟨_, _, _, rfl, rfl, rfl, ?_⟩ | refine ⟨_, _, _, rfl, rfl, atD0, ?_⟩ | refine ⟨_, _, _, rfl, rfl, atD1, ?_⟩ | refine ⟨_, _, rfl, rfl, rfl, ?_⟩ | refine for_cons rfl ?_ | refine for_nil ?_ | dsimp only))
    have hlx : ((xs.map D.int).length : Int) = t := by simpa using hx
    rw [cut_to j0]
    refine bw_tadd ?_ ?_
    · unfold small
      exact decide_eq_true (by simp; omega)
    (repeat' (first | refine w_v rfl ?_ | refine w_int ?_ | refine w_bl ?_ | refine w_non ?_ | refine w_str ?_ | refine w_cons ?_ | refine w_nil ?_ | refine w_bin ?_ | refine w_cmp ?_ | refine w_call ?_ | refine w_bi ?_ | refine w_isi ?_ | refine w_ix ?_ | refine w_and ?_ | refine w_or ?_ | refine w_not ?_ | refine w_chn ?_ | refine w_tup ?_ | refine w_lst ?_ | refine w_ite ?_ | refine w_neg ?_ | refine w_sl ?_ | refine sl_t ?_ | refine sl_n ?_ | refine sl_b ?_ | refine sl_l ?_ | refine w_rev ?_ | refine rv_t ?_ | refine rv_n ?_ | refine rv_l ?_ | refine rv_b ?_ | refine w_onone ?_ | refine w_osome ?_ | refine b_asg ?_ | refine b_ret ?_ | refine b_retN ?_ | refine b_expr ?_ | refine b_pass ?_ | refine b_ifs ?_ | refine b_for ?_ | refine b_asgO ?_ | refine b_asgR ?_ | refine bw_add ?_ | refine bw_sub ?_ | refine cw_lt ?_ | refine cw_le ?_ | refine cw_gt ?_ | refine cw_ge ?_ | refine cw_eqI ?_ | refine cw_neI ?_ | refine bl_w ?_ | refine if_t ?_ | refine if_f ?_ | refine w_comp ?_ | refine b_nil ?_ | refine b_par ?_ | refine b_par2 ?_ | refine b_appO rfl ?_ | refine b_extO rfl ?_ | refine fl_rt ?_ | refine fl_nx ?_ | refine And.intro (by assumption) ?_ | refine And.intro rfl ?_ | refine ⟨_, rfl, ?_⟩ | refine ⟨_, _, rfl, rfl, ?_⟩ | refine ⟨_, rfl, rfl, ?_⟩ | refine ⟨_, _, _, rfl, rfl, rfl, ?_⟩ | refine ⟨_, _, _, rfl, rfl, atD0, ?_⟩ | refine ⟨_, _, _, rfl, rfl, atD1, ?_⟩ | refine ⟨_, _, rfl, rfl, rfl, ?_⟩ | refine for_cons rfl ?_ | refine for_nil ?_ | dsimp only))
    rw [cut_from (by omega) (by omega)]
    refine bw_tadd ?_ ?_
    · unfold small
      exact decide_eq_true (by simp; omega)
    refine ⟨_, _, rfl, rfl, b_nil (fl_nx ?_)⟩
    have ht' : (j + 1).toNat = j.toNat + 1 := by omega
    have hjl : j.toNat < xs.length := by omega
    have e : (D.tup ((xs.map D.int).take j.toNat ++ [.int (1 + a)] ++ (xs.map D.int).drop (j + 1).toNat)) = tupI (xs.take j.toNat ++ [1 + a] ++ xs.drop (j.toNat + 1)) := by
      simp [tupI, List.map_take, List.map_drop, ht']
    rw [e]
    have hT : ∀ x ∈ xs.take j.toNat, 0 ≤ x ∧ x ≤ 3 := fun x h => hb x (List.mem_of_mem_take h)
    have hD : ∀ x ∈ xs.drop (j.toNat + 1), 0 ≤ x ∧ x ≤ 3 := fun x h => hb x (List.mem_of_mem_drop h)
    refine fin _ _ (xs.take j.toNat ++ [1 + a] ++ xs.drop (j.toNat + 1)) _ s3 (by omega) (by simp; omega) (fun y hy => ?_) ?_
    · simp only [List.mem_append, List.mem_singleton] at hy
      rcases hy with (hy | rfl) | hy
      · have := hT y hy
        omega
      · omega
      · have := hD y hy
        omega
    · have t1 := sum_nn fun x h => (hT x h).1
      have t2 := sum_nn fun x h => (hD x h).1
      simp only [List.sum_append, List.sum_cons, List.sum_nil]
      omega
  · have t1 := sum_nn fun x h => (hb x h).1
    have q' : xs.sum ≠ 0 := by simpa using q
    refine b_nil (fl_nx ?_)
    refine fin _ _ xs _ s1 (by omega) hx (fun y hy => ?_) (by omega)
    have := hb y hy
    omega
theorem EV.swap {t : Int} {e : Ex} (v : EV t e) (h : 0 < e.2.sum) : EV t (e.2, e.1) := ⟨v.l2, v.l1, v.b2, v.b1, h⟩
theorem some_board_wp {p : Pg} (L : PLaw p) {n i k : Nat} {h0 : MH} {ns : List Int} {h : MH} (hs : Sta i h0 k h) (hk : k + 200 < 1000000) (hl : ns.length ≤ 1000) :
    (p.c (n + 6) 12 [.v (scD ns), .v (.obj i)] h).wp fun r h' => (∃ t es, r = .v (bD t es) ∧ BV t es) ∧ Sta i h0 (k + 100) h' := by
  refine Pg.call_wp L.h12 rfl ?_
  unfold f_law_some_board b_law_some_board
  (repeat' (first | refine w_v rfl ?_ | refine w_int ?_ | refine w_bl ?_ | refine w_non ?_ | refine w_str ?_ | refine w_cons ?_ | refine w_nil ?_ | refine w_bin ?_ | refine w_cmp ?_ | refine w_call ?_ | refine w_bi ?_ | refine w_isi ?_ | refine w_ix ?_ | refine w_and ?_ | refine w_or ?_ | refine w_not ?_ | refine w_chn ?_ | refine w_tup ?_ | refine w_lst ?_ | refine w_ite ?_ | refine w_neg ?_ | refine w_sl ?_ | refine sl_t ?_ | refine sl_n ?_ | refine sl_b ?_ | refine sl_l ?_ | refine w_rev ?_ | refine rv_t ?_ | refine rv_n ?_ | refine rv_l ?_ | refine rv_b ?_ | refine w_onone ?_ | refine w_osome ?_ | refine b_asg ?_ | refine b_ret ?_ | refine b_retN ?_ | refine b_expr ?_ | refine b_pass ?_ | refine b_ifs ?_ | refine b_for ?_ | refine b_asgO ?_ | refine b_asgR ?_ | refine bw_add ?_ | refine bw_sub ?_ | refine cw_lt ?_ | refine cw_le ?_ | refine cw_gt ?_ | refine cw_ge ?_ | refine cw_eqI ?_ | refine cw_neI ?_ | refine bl_w ?_ | refine if_t ?_ | refine if_f ?_ | refine w_comp ?_ | refine b_nil ?_ | refine b_par ?_ | refine b_par2 ?_ | refine b_appO rfl ?_ | refine b_extO rfl ?_ | refine fl_rt ?_ | refine fl_nx ?_ | refine And.intro (by assumption) ?_ | refine And.intro rfl ?_ | refine ⟨_, rfl, ?_⟩ | refine ⟨_, _, rfl, rfl, ?_⟩ | refine ⟨_, rfl, rfl, ?_⟩ | refine ⟨_, _, _, rfl, rfl, rfl, ?_⟩ | refine ⟨_, _, _, rfl, rfl, atD0, ?_⟩ | refine ⟨_, _, _, rfl, rfl, atD1, ?_⟩ | refine ⟨_, _, rfl, rfl, rfl, ?_⟩ | refine for_cons rfl ?_ | refine for_nil ?_ | dsimp only))
  refine O.wp_mono (pick_wp L.toPDr L.h9 hs (by omega) (by decide) hl) fun r h1 z => ?_
  obtain ⟨⟨d, hd, rfl⟩, s1⟩ := z
  obtain ⟨t, rfl, t2, t4⟩ : ∃ t : Int, d = .int t ∧ 2 ≤ t ∧ t ≤ 4 := by
    simp only [List.mem_cons, List.not_mem_nil, or_false] at hd
    rcases hd with rfl | rfl | rfl | rfl | rfl <;> exact ⟨_, rfl, by decide, by decide⟩
  (repeat' (first | refine w_v rfl ?_ | refine w_int ?_ | refine w_bl ?_ | refine w_non ?_ | refine w_str ?_ | refine w_cons ?_ | refine w_nil ?_ | refine w_bin ?_ | refine w_cmp ?_ | refine w_call ?_ | refine w_bi ?_ | refine w_isi ?_ | refine w_ix ?_ | refine w_and ?_ | refine w_or ?_ | refine w_not ?_ | refine w_chn ?_ | refine w_tup ?_ | refine w_lst ?_ | refine w_ite ?_ | refine w_neg ?_ | refine w_sl ?_ | refine sl_t ?_ | refine sl_n ?_ | refine sl_b ?_ | refine sl_l ?_ | refine w_rev ?_ | refine rv_t ?_ | refine rv_n ?_ | refine rv_l ?_ | refine rv_b ?_ | refine w_onone ?_ | refine w_osome ?_ | refine b_asg ?_ | refine b_ret ?_ | refine b_retN ?_ | refine b_expr ?_ | refine b_pass ?_ | refine b_ifs ?_ | refine b_for ?_ | refine b_asgO ?_ | refine b_asgR ?_ | refine bw_add ?_ | refine bw_sub ?_ | refine cw_lt ?_ | refine cw_le ?_ | refine cw_gt ?_ | refine cw_ge ?_ | refine cw_eqI ?_ | refine cw_neI ?_ | refine bl_w ?_ | refine if_t ?_ | refine if_f ?_ | refine w_comp ?_ | refine b_nil ?_ | refine b_par ?_ | refine b_par2 ?_ | refine b_appO rfl ?_ | refine b_extO rfl ?_ | refine fl_rt ?_ | refine fl_nx ?_ | refine And.intro (by assumption) ?_ | refine And.intro rfl ?_ | refine ⟨_, rfl, ?_⟩ | refine ⟨_, _, rfl, rfl, ?_⟩ | refine ⟨_, rfl, rfl, ?_⟩ | refine ⟨_, _, _, rfl, rfl, rfl, ?_⟩ | refine ⟨_, _, _, rfl, rfl, atD0, ?_⟩ | refine ⟨_, _, _, rfl, rfl, atD1, ?_⟩ | refine ⟨_, _, rfl, rfl, rfl, ?_⟩ | refine for_cons rfl ?_ | refine for_nil ?_ | dsimp only))
  refine O.wp_mono (draw_wp L.toPDr s1 (by omega) (by decide) hl) fun r h2 z => ?_
  obtain ⟨⟨c, rfl, c0, c1⟩, s2⟩ := z
  (repeat' (first | refine w_v rfl ?_ | refine w_int ?_ | refine w_bl ?_ | refine w_non ?_ | refine w_str ?_ | refine w_cons ?_ | refine w_nil ?_ | refine w_bin ?_ | refine w_cmp ?_ | refine w_call ?_ | refine w_bi ?_ | refine w_isi ?_ | refine w_ix ?_ | refine w_and ?_ | refine w_or ?_ | refine w_not ?_ | refine w_chn ?_ | refine w_tup ?_ | refine w_lst ?_ | refine w_ite ?_ | refine w_neg ?_ | refine w_sl ?_ | refine sl_t ?_ | refine sl_n ?_ | refine sl_b ?_ | refine sl_l ?_ | refine w_rev ?_ | refine rv_t ?_ | refine rv_n ?_ | refine rv_l ?_ | refine rv_b ?_ | refine w_onone ?_ | refine w_osome ?_ | refine b_asg ?_ | refine b_ret ?_ | refine b_retN ?_ | refine b_expr ?_ | refine b_pass ?_ | refine b_ifs ?_ | refine b_for ?_ | refine b_asgO ?_ | refine b_asgR ?_ | refine bw_add ?_ | refine bw_sub ?_ | refine cw_lt ?_ | refine cw_le ?_ | refine cw_gt ?_ | refine cw_ge ?_ | refine cw_eqI ?_ | refine cw_neI ?_ | refine bl_w ?_ | refine if_t ?_ | refine if_f ?_ | refine w_comp ?_ | refine b_nil ?_ | refine b_par ?_ | refine b_par2 ?_ | refine b_appO rfl ?_ | refine b_extO rfl ?_ | refine fl_rt ?_ | refine fl_nx ?_ | refine And.intro (by assumption) ?_ | refine And.intro rfl ?_ | refine ⟨_, rfl, ?_⟩ | refine ⟨_, _, rfl, rfl, ?_⟩ | refine ⟨_, rfl, rfl, ?_⟩ | refine ⟨_, _, _, rfl, rfl, rfl, ?_⟩ | refine ⟨_, _, _, rfl, rfl, atD0, ?_⟩ | refine ⟨_, _, _, rfl, rfl, atD1, ?_⟩ | refine ⟨_, _, rfl, rfl, rfl, ?_⟩ | refine for_cons rfl ?_ | refine for_nil ?_ | dsimp only))
  refine it_rng (by omega) (by omega) ?_
  refine c_inv (J := fun acc h => (∃ es : List Ex, acc = es.map exD ∧ ∀ e ∈ es, EV t e) ∧ Sta i h0 (k + 2 + 10 * acc.length) h) ⟨⟨[], rfl, by simp⟩, s2⟩ (fun d hd acc h ha J => ?_) (by rw [rngD_len]; omega) fun ys h3 hy J => ?_
  · obtain ⟨⟨es, rfl, he⟩, s⟩ := J
    refine ⟨_, rfl, ?_⟩
    rw [rngD_len] at ha
    simp only [List.length_map] at ha s
    (repeat' (first | refine w_v rfl ?_ | refine w_int ?_ | refine w_bl ?_ | refine w_non ?_ | refine w_str ?_ | refine w_cons ?_ | refine w_nil ?_ | refine w_bin ?_ | refine w_cmp ?_ | refine w_call ?_ | refine w_bi ?_ | refine w_isi ?_ | refine w_ix ?_ | refine w_and ?_ | refine w_or ?_ | refine w_not ?_ | refine w_chn ?_ | refine w_tup ?_ | refine w_lst ?_ | refine w_ite ?_ | refine w_neg ?_ | refine w_sl ?_ | refine sl_t ?_ | refine sl_n ?_ | refine sl_b ?_ | refine sl_l ?_ | refine w_rev ?_ | refine rv_t ?_ | refine rv_n ?_ | refine rv_l ?_ | refine rv_b ?_ | refine w_onone ?_ | refine w_osome ?_ | refine b_asg ?_ | refine b_ret ?_ | refine b_retN ?_ | refine b_expr ?_ | refine b_pass ?_ | refine b_ifs ?_ | refine b_for ?_ | refine b_asgO ?_ | refine b_asgR ?_ | refine bw_add ?_ | refine bw_sub ?_ | refine cw_lt ?_ | refine cw_le ?_ | refine cw_gt ?_ | refine cw_ge ?_ | refine cw_eqI ?_ | refine cw_neI ?_ | refine bl_w ?_ | refine if_t ?_ | refine if_f ?_ | refine w_comp ?_ | refine b_nil ?_ | refine b_par ?_ | refine b_par2 ?_ | refine b_appO rfl ?_ | refine b_extO rfl ?_ | refine fl_rt ?_ | refine fl_nx ?_ | refine And.intro (by assumption) ?_ | refine And.intro rfl ?_ | refine ⟨_, rfl, ?_⟩ | refine ⟨_, _, rfl, rfl, ?_⟩ | refine ⟨_, rfl, rfl, ?_⟩ | refine ⟨_, _, _, rfl, rfl, rfl, ?_⟩ | refine ⟨_, _, _, rfl, rfl, atD0, ?_⟩ | refine ⟨_, _, _, rfl, rfl, atD1, ?_⟩ | refine ⟨_, _, rfl, rfl, rfl, ?_⟩ | refine for_cons rfl ?_ | refine for_nil ?_ | dsimp only))
    refine O.wp_mono (some_exchange_wp L s (by omega) (by omega) (by omega) hl) fun r h' z => ?_
    obtain ⟨⟨e, rfl, v⟩, s⟩ := z
    (repeat' (first | refine w_v rfl ?_ | refine w_int ?_ | refine w_bl ?_ | refine w_non ?_ | refine w_str ?_ | refine w_cons ?_ | refine w_nil ?_ | refine w_bin ?_ | refine w_cmp ?_ | refine w_call ?_ | refine w_bi ?_ | refine w_isi ?_ | refine w_ix ?_ | refine w_and ?_ | refine w_or ?_ | refine w_not ?_ | refine w_chn ?_ | refine w_tup ?_ | refine w_lst ?_ | refine w_ite ?_ | refine w_neg ?_ | refine w_sl ?_ | refine sl_t ?_ | refine sl_n ?_ | refine sl_b ?_ | refine sl_l ?_ | refine w_rev ?_ | refine rv_t ?_ | refine rv_n ?_ | refine rv_l ?_ | refine rv_b ?_ | refine w_onone ?_ | refine w_osome ?_ | refine b_asg ?_ | refine b_ret ?_ | refine b_retN ?_ | refine b_expr ?_ | refine b_pass ?_ | refine b_ifs ?_ | refine b_for ?_ | refine b_asgO ?_ | refine b_asgR ?_ | refine bw_add ?_ | refine bw_sub ?_ | refine cw_lt ?_ | refine cw_le ?_ | refine cw_gt ?_ | refine cw_ge ?_ | refine cw_eqI ?_ | refine cw_neI ?_ | refine bl_w ?_ | refine if_t ?_ | refine if_f ?_ | refine w_comp ?_ | refine b_nil ?_ | refine b_par ?_ | refine b_par2 ?_ | refine b_appO rfl ?_ | refine b_extO rfl ?_ | refine fl_rt ?_ | refine fl_nx ?_ | refine And.intro (by assumption) ?_ | refine And.intro rfl ?_ | refine ⟨_, rfl, ?_⟩ | refine ⟨_, _, rfl, rfl, ?_⟩ | refine ⟨_, rfl, rfl, ?_⟩ | refine ⟨_, _, _, rfl, rfl, rfl, ?_⟩ | refine ⟨_, _, _, rfl, rfl, atD0, ?_⟩ | refine ⟨_, _, _, rfl, rfl, atD1, ?_⟩ | refine ⟨_, _, rfl, rfl, rfl, ?_⟩ | refine for_cons rfl ?_ | refine for_nil ?_ | dsimp only))
    refine ⟨⟨es ++ [e], by rw [List.map_append]; rfl, ?_⟩, s.mono (by simp; omega)⟩
    intro x hx
    rcases List.mem_append.mp hx with q | q
    · exact he x q
    · simp only [List.mem_singleton] at q
      subst q
      exact v
  · obtain ⟨⟨es, rfl, he⟩, s3⟩ := J
    rw [rngD_len] at hy
    simp only [List.length_map] at hy s3
    (repeat' (first | refine w_v rfl ?_ | refine w_int ?_ | refine w_bl ?_ | refine w_non ?_ | refine w_str ?_ | refine w_cons ?_ | refine w_nil ?_ | refine w_bin ?_ | refine w_cmp ?_ | refine w_call ?_ | refine w_bi ?_ | refine w_isi ?_ | refine w_ix ?_ | refine w_and ?_ | refine w_or ?_ | refine w_not ?_ | refine w_chn ?_ | refine w_tup ?_ | refine w_lst ?_ | refine w_ite ?_ | refine w_neg ?_ | refine w_sl ?_ | refine sl_t ?_ | refine sl_n ?_ | refine sl_b ?_ | refine sl_l ?_ | refine w_rev ?_ | refine rv_t ?_ | refine rv_n ?_ | refine rv_l ?_ | refine rv_b ?_ | refine w_onone ?_ | refine w_osome ?_ | refine b_asg ?_ | refine b_ret ?_ | refine b_retN ?_ | refine b_expr ?_ | refine b_pass ?_ | refine b_ifs ?_ | refine b_for ?_ | refine b_asgO ?_ | refine b_asgR ?_ | refine bw_add ?_ | refine bw_sub ?_ | refine cw_lt ?_ | refine cw_le ?_ | refine cw_gt ?_ | refine cw_ge ?_ | refine cw_eqI ?_ | refine cw_neI ?_ | refine bl_w ?_ | refine if_t ?_ | refine if_f ?_ | refine w_comp ?_ | refine b_nil ?_ | refine b_par ?_ | refine b_par2 ?_ | refine b_appO rfl ?_ | refine b_extO rfl ?_ | refine fl_rt ?_ | refine fl_nx ?_ | refine And.intro (by assumption) ?_ | refine And.intro rfl ?_ | refine ⟨_, rfl, ?_⟩ | refine ⟨_, _, rfl, rfl, ?_⟩ | refine ⟨_, rfl, rfl, ?_⟩ | refine ⟨_, _, _, rfl, rfl, rfl, ?_⟩ | refine ⟨_, _, _, rfl, rfl, atD0, ?_⟩ | refine ⟨_, _, _, rfl, rfl, atD1, ?_⟩ | refine ⟨_, _, rfl, rfl, rfl, ?_⟩ | refine for_cons rfl ?_ | refine for_nil ?_ | dsimp only))
    rw [cut_to (by decide)]
    refine for_inv (fun j ss h' => ∃ fs x4 x5 x6, ss = [some (.v (scD ns)), some (.v (.obj i)), some (.v (.int t)), some (.own (fs.map exD)), x4, x5, x6] ∧ fs.length ≤ 4 + j ∧ (∀ e ∈ fs, EV t e) ∧ Sta i h0 (k + 42 + j) h') ⟨es, _, _, _, rfl, by omega, he, s3.mono (by omega)⟩ (fun j d hd ss h' J => ?_) fun ss h' J => ?_
    · obtain ⟨fs, x4, x5, x6, rfl, hf, hv, s4⟩ := J
      have hm := List.mem_of_mem_take (List.mem_of_getElem? hd)
      simp only [List.mem_map] at hm
      obtain ⟨e, he', rfl⟩ := hm
      have hj : j < 2 := by
        have := (List.getElem?_eq_some_iff.mp hd).1
        simp at this
        omega
      have v := he e he'
      refine ⟨_, rfl, ?_⟩
      (repeat' (first | refine w_v rfl ?_ | refine w_int ?_ | refine w_bl ?_ | refine w_non ?_ | refine w_str ?_ | refine w_cons ?_ | refine w_nil ?_ | refine w_bin ?_ | refine w_cmp ?_ | refine w_call ?_ | refine w_bi ?_ | refine w_isi ?_ | refine w_ix ?_ | refine w_and ?_ | refine w_or ?_ | refine w_not ?_ | refine w_chn ?_ | refine w_tup ?_ | refine w_lst ?_ | refine w_ite ?_ | refine w_neg ?_ | refine w_sl ?_ | refine sl_t ?_ | refine sl_n ?_ | refine sl_b ?_ | refine sl_l ?_ | refine w_rev ?_ | refine rv_t ?_ | refine rv_n ?_ | refine rv_l ?_ | refine rv_b ?_ | refine w_onone ?_ | refine w_osome ?_ | refine b_asg ?_ | refine b_ret ?_ | refine b_retN ?_ | refine b_expr ?_ | refine b_pass ?_ | refine b_ifs ?_ | refine b_for ?_ | refine b_asgO ?_ | refine b_asgR ?_ | refine bw_add ?_ | refine bw_sub ?_ | refine cw_lt ?_ | refine cw_le ?_ | refine cw_gt ?_ | refine cw_ge ?_ | refine cw_eqI ?_ | refine cw_neI ?_ | refine bl_w ?_ | refine if_t ?_ | refine if_f ?_ | refine w_comp ?_ | refine b_nil ?_ | refine b_par ?_ | refine b_par2 ?_ | refine b_appO rfl ?_ | refine b_extO rfl ?_ | refine fl_rt ?_ | refine fl_nx ?_ | refine And.intro (by assumption) ?_ | refine And.intro rfl ?_ | refine ⟨_, rfl, ?_⟩ | refine ⟨_, _, rfl, rfl, ?_⟩ | refine ⟨_, rfl, rfl, ?_⟩ | refine ⟨_, _, _, rfl, rfl, rfl, ?_⟩ | refine ⟨_, _, _, rfl, rfl, atD0, ?_⟩ | refine ⟨_, _, _, rfl, rfl, atD1, ?_⟩ | refine ⟨_, _, rfl, rfl, rfl, ?_⟩ | refine for_cons rfl ?_ | refine for_nil ?_ | dsimp only))
      refine O.wp_mono (draw_wp L.toPDr s4 (by omega) (by decide) hl) fun r h5 z => ?_
      obtain ⟨⟨c, rfl, c0, c1⟩, s5⟩ := z
      (repeat' (first | refine w_v rfl ?_ | refine w_int ?_ | refine w_bl ?_ | refine w_non ?_ | refine w_str ?_ | refine w_cons ?_ | refine w_nil ?_ | refine w_bin ?_ | refine w_cmp ?_ | refine w_call ?_ | refine w_bi ?_ | refine w_isi ?_ | refine w_ix ?_ | refine w_and ?_ | refine w_or ?_ | refine w_not ?_ | refine w_chn ?_ | refine w_tup ?_ | refine w_lst ?_ | refine w_ite ?_ | refine w_neg ?_ | refine w_sl ?_ | refine sl_t ?_ | refine sl_n ?_ | refine sl_b ?_ | refine sl_l ?_ | refine w_rev ?_ | refine rv_t ?_ | refine rv_n ?_ | refine rv_l ?_ | refine rv_b ?_ | refine w_onone ?_ | refine w_osome ?_ | refine b_asg ?_ | refine b_ret ?_ | refine b_retN ?_ | refine b_expr ?_ | refine b_pass ?_ | refine b_ifs ?_ | refine b_for ?_ | refine b_asgO ?_ | refine b_asgR ?_ | refine bw_add ?_ | refine bw_sub ?_ | refine cw_lt ?_ | refine cw_le ?_ | refine cw_gt ?_ | refine cw_ge ?_ | refine cw_eqI ?_ | refine cw_neI ?_ | refine bl_w ?_ | refine if_t ?_ | refine if_f ?_ | refine w_comp ?_ | refine b_nil ?_ | refine b_par ?_ | refine b_par2 ?_ | refine b_appO rfl ?_ | refine b_extO rfl ?_ | refine fl_rt ?_ | refine fl_nx ?_ | refine And.intro (by assumption) ?_ | refine And.intro rfl ?_ | refine ⟨_, rfl, ?_⟩ | refine ⟨_, _, rfl, rfl, ?_⟩ | refine ⟨_, rfl, rfl, ?_⟩ | refine ⟨_, _, _, rfl, rfl, rfl, ?_⟩ | refine ⟨_, _, _, rfl, rfl, atD0, ?_⟩ | refine ⟨_, _, _, rfl, rfl, atD1, ?_⟩ | refine ⟨_, _, rfl, rfl, rfl, ?_⟩ | refine for_cons rfl ?_ | refine for_nil ?_ | dsimp only))
      refine if_s (fun q => ?_) (fun q => ?_)
      · (repeat' (first | refine w_v rfl ?_ | refine w_int ?_ | refine w_bl ?_ | refine w_non ?_ | refine w_str ?_ | refine w_cons ?_ | refine w_nil ?_ | refine w_bin ?_ | refine w_cmp ?_ | refine w_call ?_ | refine w_bi ?_ | refine w_isi ?_ | refine w_ix ?_ | refine w_and ?_ | refine w_or ?_ | refine w_not ?_ | refine w_chn ?_ | refine w_tup ?_ | refine w_lst ?_ | refine w_ite ?_ | refine w_neg ?_ | refine w_sl ?_ | refine sl_t ?_ | refine sl_n ?_ | refine sl_b ?_ | refine sl_l ?_ | refine w_rev ?_ | refine rv_t ?_ | refine rv_n ?_ | refine rv_l ?_ | refine rv_b ?_ | refine w_onone ?_ | refine w_osome ?_ | refine b_asg ?_ | refine b_ret ?_ | refine b_retN ?_ | refine b_expr ?_ | refine b_pass ?_ | refine b_ifs ?_ | refine b_for ?_ | refine b_asgO ?_ | refine b_asgR ?_ | refine bw_add ?_ | refine bw_sub ?_ | refine cw_lt ?_ | refine cw_le ?_ | refine cw_gt ?_ | refine cw_ge ?_ | refine cw_eqI ?_ | refine cw_neI ?_ | refine bl_w ?_ | refine if_t ?_ | refine if_f ?_ | refine w_comp ?_ | refine b_nil ?_ | refine b_par ?_ | refine b_par2 ?_ | refine b_appO rfl ?_ | refine b_extO rfl ?_ | refine fl_rt ?_ | refine fl_nx ?_ | refine And.intro (by assumption) ?_ | refine And.intro rfl ?_ | refine ⟨_, rfl, ?_⟩ | refine ⟨_, _, rfl, rfl, ?_⟩ | refine ⟨_, rfl, rfl, ?_⟩ | refine ⟨_, _, _, rfl, rfl, rfl, ?_⟩ | refine ⟨_, _, _, rfl, rfl, atD0, ?_⟩ | refine ⟨_, _, _, rfl, rfl, atD1, ?_⟩ | refine ⟨_, _, rfl, rfl, rfl, ?_⟩ | refine for_cons rfl ?_ | refine for_nil ?_ | dsimp only))
        refine ⟨.v (.int e.2.sum), by simp [biR, R.rd, tupI, D.seq, ints_map], ?_⟩
        (repeat' (first | refine w_v rfl ?_ | refine w_int ?_ | refine w_bl ?_ | refine w_non ?_ | refine w_str ?_ | refine w_cons ?_ | refine w_nil ?_ | refine w_bin ?_ | refine w_cmp ?_ | refine w_call ?_ | refine w_bi ?_ | refine w_isi ?_ | refine w_ix ?_ | refine w_and ?_ | refine w_or ?_ | refine w_not ?_ | refine w_chn ?_ | refine w_tup ?_ | refine w_lst ?_ | refine w_ite ?_ | refine w_neg ?_ | refine w_sl ?_ | refine sl_t ?_ | refine sl_n ?_ | refine sl_b ?_ | refine sl_l ?_ | refine w_rev ?_ | refine rv_t ?_ | refine rv_n ?_ | refine rv_l ?_ | refine rv_b ?_ | refine w_onone ?_ | refine w_osome ?_ | refine b_asg ?_ | refine b_ret ?_ | refine b_retN ?_ | refine b_expr ?_ | refine b_pass ?_ | refine b_ifs ?_ | refine b_for ?_ | refine b_asgO ?_ | refine b_asgR ?_ | refine bw_add ?_ | refine bw_sub ?_ | refine cw_lt ?_ | refine cw_le ?_ | refine cw_gt ?_ | refine cw_ge ?_ | refine cw_eqI ?_ | refine cw_neI ?_ | refine bl_w ?_ | refine if_t ?_ | refine if_f ?_ | refine w_comp ?_ | refine b_nil ?_ | refine b_par ?_ | refine b_par2 ?_ | refine b_appO rfl ?_ | refine b_extO rfl ?_ | refine fl_rt ?_ | refine fl_nx ?_ | refine And.intro (by assumption) ?_ | refine And.intro rfl ?_ | refine ⟨_, rfl, ?_⟩ | refine ⟨_, _, rfl, rfl, ?_⟩ | refine ⟨_, rfl, rfl, ?_⟩ | refine ⟨_, _, _, rfl, rfl, rfl, ?_⟩ | refine ⟨_, _, _, rfl, rfl, atD0, ?_⟩ | refine ⟨_, _, _, rfl, rfl, atD1, ?_⟩ | refine ⟨_, _, rfl, rfl, rfl, ?_⟩ | refine for_cons rfl ?_ | refine for_nil ?_ | dsimp only))
        refine if_s (fun q => ?_) (fun q => ?_)
        · refine b_appO rfl ?_
          (repeat' (first | refine w_v rfl ?_ | refine w_int ?_ | refine w_bl ?_ | refine w_non ?_ | refine w_str ?_ | refine w_cons ?_ | refine w_nil ?_ | refine w_bin ?_ | refine w_cmp ?_ | refine w_call ?_ | refine w_bi ?_ | refine w_isi ?_ | refine w_ix ?_ | refine w_and ?_ | refine w_or ?_ | refine w_not ?_ | refine w_chn ?_ | refine w_tup ?_ | refine w_lst ?_ | refine w_ite ?_ | refine w_neg ?_ | refine w_sl ?_ | refine sl_t ?_ | refine sl_n ?_ | refine sl_b ?_ | refine sl_l ?_ | refine w_rev ?_ | refine rv_t ?_ | refine rv_n ?_ | refine rv_l ?_ | refine rv_b ?_ | refine w_onone ?_ | refine w_osome ?_ | refine b_asg ?_ | refine b_ret ?_ | refine b_retN ?_ | refine b_expr ?_ | refine b_pass ?_ | refine b_ifs ?_ | refine b_for ?_ | refine b_asgO ?_ | refine b_asgR ?_ | refine bw_add ?_ | refine bw_sub ?_ | refine cw_lt ?_ | refine cw_le ?_ | refine cw_gt ?_ | refine cw_ge ?_ | refine cw_eqI ?_ | refine cw_neI ?_ | refine bl_w ?_ | refine if_t ?_ | refine if_f ?_ | refine w_comp ?_ | refine b_nil ?_ | refine b_par ?_ | refine b_par2 ?_ | refine b_appO rfl ?_ | refine b_extO rfl ?_ | refine fl_rt ?_ | refine fl_nx ?_ | refine And.intro (by assumption) ?_ | refine And.intro rfl ?_ | refine ⟨_, rfl, ?_⟩ | refine ⟨_, _, rfl, rfl, ?_⟩ | refine ⟨_, rfl, rfl, ?_⟩ | refine ⟨_, _, _, rfl, rfl, rfl, ?_⟩ | refine ⟨_, _, _, rfl, rfl, atD0, ?_⟩ | refine ⟨_, _, _, rfl, rfl, atD1, ?_⟩ | refine ⟨_, _, rfl, rfl, rfl, ?_⟩ | refine for_cons rfl ?_ | refine for_nil ?_ | dsimp only))
          refine ⟨_, _, rfl, by unfold small; exact decide_eq_true (by simp; omega), rfl, b_nil (fl_nx ?_)⟩
          refine b_nil (fl_nx ⟨fs ++ [(e.2, e.1)], _, _, _, by rw [List.map_append]; rfl, by simp; omega, ?_, s5⟩)
          intro x hx
          rcases List.mem_append.mp hx with q2 | q2
          · exact hv x q2
          · simp only [List.mem_singleton] at q2
            subst q2
            exact v.swap (by simpa using q)
        · (repeat' (first | refine w_v rfl ?_ | refine w_int ?_ | refine w_bl ?_ | refine w_non ?_ | refine w_str ?_ | refine w_cons ?_ | refine w_nil ?_ | refine w_bin ?_ | refine w_cmp ?_ | refine w_call ?_ | refine w_bi ?_ | refine w_isi ?_ | refine w_ix ?_ | refine w_and ?_ | refine w_or ?_ | refine w_not ?_ | refine w_chn ?_ | refine w_tup ?_ | refine w_lst ?_ | refine w_ite ?_ | refine w_neg ?_ | refine w_sl ?_ | refine sl_t ?_ | refine sl_n ?_ | refine sl_b ?_ | refine sl_l ?_ | refine w_rev ?_ | refine rv_t ?_ | refine rv_n ?_ | refine rv_l ?_ | refine rv_b ?_ | refine w_onone ?_ | refine w_osome ?_ | refine b_asg ?_ | refine b_ret ?_ | refine b_retN ?_ | refine b_expr ?_ | refine b_pass ?_ | refine b_ifs ?_ | refine b_for ?_ | refine b_asgO ?_ | refine b_asgR ?_ | refine bw_add ?_ | refine bw_sub ?_ | refine cw_lt ?_ | refine cw_le ?_ | refine cw_gt ?_ | refine cw_ge ?_ | refine cw_eqI ?_ | refine cw_neI ?_ | refine bl_w ?_ | refine if_t ?_ | refine if_f ?_ | refine w_comp ?_ | refine b_nil ?_ | refine b_par ?_ | refine b_par2 ?_ | refine b_appO rfl ?_ | refine b_extO rfl ?_ | refine fl_rt ?_ | refine fl_nx ?_ | refine And.intro (by assumption) ?_ | refine And.intro rfl ?_ | refine ⟨_, rfl, ?_⟩ | refine ⟨_, _, rfl, rfl, ?_⟩ | refine ⟨_, rfl, rfl, ?_⟩ | refine ⟨_, _, _, rfl, rfl, rfl, ?_⟩ | refine ⟨_, _, _, rfl, rfl, atD0, ?_⟩ | refine ⟨_, _, _, rfl, rfl, atD1, ?_⟩ | refine ⟨_, _, rfl, rfl, rfl, ?_⟩ | refine for_cons rfl ?_ | refine for_nil ?_ | dsimp only))
          exact ⟨fs, _, _, _, rfl, by omega, hv, s5⟩
      · (repeat' (first | refine w_v rfl ?_ | refine w_int ?_ | refine w_bl ?_ | refine w_non ?_ | refine w_str ?_ | refine w_cons ?_ | refine w_nil ?_ | refine w_bin ?_ | refine w_cmp ?_ | refine w_call ?_ | refine w_bi ?_ | refine w_isi ?_ | refine w_ix ?_ | refine w_and ?_ | refine w_or ?_ | refine w_not ?_ | refine w_chn ?_ | refine w_tup ?_ | refine w_lst ?_ | refine w_ite ?_ | refine w_neg ?_ | refine w_sl ?_ | refine sl_t ?_ | refine sl_n ?_ | refine sl_b ?_ | refine sl_l ?_ | refine w_rev ?_ | refine rv_t ?_ | refine rv_n ?_ | refine rv_l ?_ | refine rv_b ?_ | refine w_onone ?_ | refine w_osome ?_ | refine b_asg ?_ | refine b_ret ?_ | refine b_retN ?_ | refine b_expr ?_ | refine b_pass ?_ | refine b_ifs ?_ | refine b_for ?_ | refine b_asgO ?_ | refine b_asgR ?_ | refine bw_add ?_ | refine bw_sub ?_ | refine cw_lt ?_ | refine cw_le ?_ | refine cw_gt ?_ | refine cw_ge ?_ | refine cw_eqI ?_ | refine cw_neI ?_ | refine bl_w ?_ | refine if_t ?_ | refine if_f ?_ | refine w_comp ?_ | refine b_nil ?_ | refine b_par ?_ | refine b_par2 ?_ | refine b_appO rfl ?_ | refine b_extO rfl ?_ | refine fl_rt ?_ | refine fl_nx ?_ | refine And.intro (by assumption) ?_ | refine And.intro rfl ?_ | refine ⟨_, rfl, ?_⟩ | refine ⟨_, _, rfl, rfl, ?_⟩ | refine ⟨_, rfl, rfl, ?_⟩ | refine ⟨_, _, _, rfl, rfl, rfl, ?_⟩ | refine ⟨_, _, _, rfl, rfl, atD0, ?_⟩ | refine ⟨_, _, _, rfl, rfl, atD1, ?_⟩ | refine ⟨_, _, rfl, rfl, rfl, ?_⟩ | refine for_cons rfl ?_ | refine for_nil ?_ | dsimp only))
        exact ⟨fs, _, _, _, rfl, by omega, hv, s5⟩
    · obtain ⟨fs, x4, x5, x6, rfl, hf, hv, s4⟩ := J
      have hj : (List.take (Int.toNat 2) (es.map exD)).length ≤ 2 := by simp; omega
      (repeat' (first | refine w_v rfl ?_ | refine w_int ?_ | refine w_bl ?_ | refine w_non ?_ | refine w_str ?_ | refine w_cons ?_ | refine w_nil ?_ | refine w_bin ?_ | refine w_cmp ?_ | refine w_call ?_ | refine w_bi ?_ | refine w_isi ?_ | refine w_ix ?_ | refine w_and ?_ | refine w_or ?_ | refine w_not ?_ | refine w_chn ?_ | refine w_tup ?_ | refine w_lst ?_ | refine w_ite ?_ | refine w_neg ?_ | refine w_sl ?_ | refine sl_t ?_ | refine sl_n ?_ | refine sl_b ?_ | refine sl_l ?_ | refine w_rev ?_ | refine rv_t ?_ | refine rv_n ?_ | refine rv_l ?_ | refine rv_b ?_ | refine w_onone ?_ | refine w_osome ?_ | refine b_asg ?_ | refine b_ret ?_ | refine b_retN ?_ | refine b_expr ?_ | refine b_pass ?_ | refine b_ifs ?_ | refine b_for ?_ | refine b_asgO ?_ | refine b_asgR ?_ | refine bw_add ?_ | refine bw_sub ?_ | refine cw_lt ?_ | refine cw_le ?_ | refine cw_gt ?_ | refine cw_ge ?_ | refine cw_eqI ?_ | refine cw_neI ?_ | refine bl_w ?_ | refine if_t ?_ | refine if_f ?_ | refine w_comp ?_ | refine b_nil ?_ | refine b_par ?_ | refine b_par2 ?_ | refine b_appO rfl ?_ | refine b_extO rfl ?_ | refine fl_rt ?_ | refine fl_nx ?_ | refine And.intro (by assumption) ?_ | refine And.intro rfl ?_ | refine ⟨_, rfl, ?_⟩ | refine ⟨_, _, rfl, rfl, ?_⟩ | refine ⟨_, rfl, rfl, ?_⟩ | refine ⟨_, _, _, rfl, rfl, rfl, ?_⟩ | refine ⟨_, _, _, rfl, rfl, atD0, ?_⟩ | refine ⟨_, _, _, rfl, rfl, atD1, ?_⟩ | refine ⟨_, _, rfl, rfl, rfl, ?_⟩ | refine for_cons rfl ?_ | refine for_nil ?_ | dsimp only))
      exact ⟨by rw [s4.len, hs.len], ⟨t, fs, rfl, t2, t4, by omega, hv⟩, s4.mono (by omega)⟩
theorem net_zip {e : Ex} : D.tup ((((e.1.map D.int).zip (e.2.map D.int)).map fun p => D.tup [p.1, p.2]).map fun d => match d with | .tup [.int a, .int b] => .int (b - a) | _ => .non) = netD e := by
  simp only [netD, tupI, netL]
  congr 1
  generalize e.1 = xs, e.2 = ys
  induction xs generalizing ys with
  | nil => rfl
  | cons x xs ih => cases ys <;> simp_all
theorem law_nets_eq {p : Pg} (h17 : p.Pt 17 = some f_law_nets) {n : Nat} {t : Int} {es : List Ex} {h : MH} (v : BV t es) : p.c (n + 1) 17 [.v (bD t es)] h = .ok (.nl (es.map netD)) h := by
  refine O.eq_of (Pg.call_wp h17 rfl ?_)
  unfold f_law_nets b_law_nets bD
  (repeat' (first | refine w_v rfl ?_ | refine w_int ?_ | refine w_bl ?_ | refine w_non ?_ | refine w_str ?_ | refine w_cons ?_ | refine w_nil ?_ | refine w_bin ?_ | refine w_cmp ?_ | refine w_call ?_ | refine w_bi ?_ | refine w_isi ?_ | refine w_ix ?_ | refine w_and ?_ | refine w_or ?_ | refine w_not ?_ | refine w_chn ?_ | refine w_tup ?_ | refine w_lst ?_ | refine w_ite ?_ | refine w_neg ?_ | refine w_sl ?_ | refine sl_t ?_ | refine sl_n ?_ | refine sl_b ?_ | refine sl_l ?_ | refine w_rev ?_ | refine rv_t ?_ | refine rv_n ?_ | refine rv_l ?_ | refine rv_b ?_ | refine w_onone ?_ | refine w_osome ?_ | refine b_asg ?_ | refine b_ret ?_ | refine b_retN ?_ | refine b_expr ?_ | refine b_pass ?_ | refine b_ifs ?_ | refine b_for ?_ | refine b_asgO ?_ | refine b_asgR ?_ | refine bw_add ?_ | refine bw_sub ?_ | refine cw_lt ?_ | refine cw_le ?_ | refine cw_gt ?_ | refine cw_ge ?_ | refine cw_eqI ?_ | refine cw_neI ?_ | refine bl_w ?_ | refine if_t ?_ | refine if_f ?_ | refine w_comp ?_ | refine b_nil ?_ | refine b_par ?_ | refine b_par2 ?_ | refine b_appO rfl ?_ | refine b_extO rfl ?_ | refine fl_rt ?_ | refine fl_nx ?_ | refine And.intro (by assumption) ?_ | refine And.intro rfl ?_ | refine ⟨_, rfl, ?_⟩ | refine ⟨_, _, rfl, rfl, ?_⟩ | refine ⟨_, rfl, rfl, ?_⟩ | refine ⟨_, _, _, rfl, rfl, rfl, ?_⟩ | refine ⟨_, _, _, rfl, rfl, atD0, ?_⟩ | refine ⟨_, _, _, rfl, rfl, atD1, ?_⟩ | refine ⟨_, _, rfl, rfl, rfl, ?_⟩ | refine for_cons rfl ?_ | refine for_nil ?_ | dsimp only))
  refine for_inv (fun j ss h' => (∃ x2 x3 x4 x5, ss = [some (.v (bD t es)), some (.own ((es.take j).map netD)), x2, x3, x4, x5]) ∧ h' = h) ⟨⟨_, _, _, _, rfl⟩, rfl⟩ (fun j d hd ss h' J => ?_) fun ss h' J => ?_
  · obtain ⟨⟨x2, x3, x4, x5, rfl⟩, rfl⟩ := J
    rw [List.getElem?_map] at hd
    cases q : es[j]? with
    | none => rw [q] at hd; cases hd
    | some e =>
      rw [q] at hd
      cases hd
      have ve := v.ex e (List.mem_of_getElem? q)
      have l1 := ve.l1
      have t4 := v.t4
      have le := v.len
      refine ⟨_, rfl, ?_⟩
      refine b_appO rfl ?_
      (repeat' (first | refine w_v rfl ?_ | refine w_int ?_ | refine w_bl ?_ | refine w_non ?_ | refine w_str ?_ | refine w_cons ?_ | refine w_nil ?_ | refine w_bin ?_ | refine w_cmp ?_ | refine w_call ?_ | refine w_bi ?_ | refine w_isi ?_ | refine w_ix ?_ | refine w_and ?_ | refine w_or ?_ | refine w_not ?_ | refine w_chn ?_ | refine w_tup ?_ | refine w_lst ?_ | refine w_ite ?_ | refine w_neg ?_ | refine w_sl ?_ | refine sl_t ?_ | refine sl_n ?_ | refine sl_b ?_ | refine sl_l ?_ | refine w_rev ?_ | refine rv_t ?_ | refine rv_n ?_ | refine rv_l ?_ | refine rv_b ?_ | refine w_onone ?_ | refine w_osome ?_ | refine b_asg ?_ | refine b_ret ?_ | refine b_retN ?_ | refine b_expr ?_ | refine b_pass ?_ | refine b_ifs ?_ | refine b_for ?_ | refine b_asgO ?_ | refine b_asgR ?_ | refine bw_add ?_ | refine bw_sub ?_ | refine cw_lt ?_ | refine cw_le ?_ | refine cw_gt ?_ | refine cw_ge ?_ | refine cw_eqI ?_ | refine cw_neI ?_ | refine bl_w ?_ | refine if_t ?_ | refine if_f ?_ | refine w_comp ?_ | refine b_nil ?_ | refine b_par ?_ | refine b_par2 ?_ | refine b_appO rfl ?_ | refine b_extO rfl ?_ | refine fl_rt ?_ | refine fl_nx ?_ | refine And.intro (by assumption) ?_ | refine And.intro rfl ?_ | refine ⟨_, rfl, ?_⟩ | refine ⟨_, _, rfl, rfl, ?_⟩ | refine ⟨_, rfl, rfl, ?_⟩ | refine ⟨_, _, _, rfl, rfl, rfl, ?_⟩ | refine ⟨_, _, _, rfl, rfl, atD0, ?_⟩ | refine ⟨_, _, _, rfl, rfl, atD1, ?_⟩ | refine ⟨_, _, rfl, rfl, rfl, ?_⟩ | refine for_cons rfl ?_ | refine for_nil ?_ | dsimp only))
      refine c_pure (fun d => match d with | .tup [.int a, .int b] => .int (b - a) | _ => .non) (fun d hd => ?_) ?_ ?_
      · simp only [List.mem_map] at hd
        obtain ⟨⟨x, y⟩, hxy, rfl⟩ := hd
        have hx := (List.of_mem_zip hxy).1
        have hy := (List.of_mem_zip hxy).2
        simp only [List.mem_map] at hx hy
        obtain ⟨a, _, rfl⟩ := hx
        obtain ⟨b, _, rfl⟩ := hy
        refine ⟨_, rfl, ?_⟩
        (repeat' (first | refine w_v rfl ?_ | refine w_int ?_ | refine w_bl ?_ | refine w_non ?_ | refine w_str ?_ | refine w_cons ?_ | refine w_nil ?_ | refine w_bin ?_ | refine w_cmp ?_ | refine w_call ?_ | refine w_bi ?_ | refine w_isi ?_ | refine w_ix ?_ | refine w_and ?_ | refine w_or ?_ | refine w_not ?_ | refine w_chn ?_ | refine w_tup ?_ | refine w_lst ?_ | refine w_ite ?_ | refine w_neg ?_ | refine w_sl ?_ | refine sl_t ?_ | refine sl_n ?_ | refine sl_b ?_ | refine sl_l ?_ | refine w_rev ?_ | refine rv_t ?_ | refine rv_n ?_ | refine rv_l ?_ | refine rv_b ?_ | refine w_onone ?_ | refine w_osome ?_ | refine b_asg ?_ | refine b_ret ?_ | refine b_retN ?_ | refine b_expr ?_ | refine b_pass ?_ | refine b_ifs ?_ | refine b_for ?_ | refine b_asgO ?_ | refine b_asgR ?_ | refine bw_add ?_ | refine bw_sub ?_ | refine cw_lt ?_ | refine cw_le ?_ | refine cw_gt ?_ | refine cw_ge ?_ | refine cw_eqI ?_ | refine cw_neI ?_ | refine bl_w ?_ | refine if_t ?_ | refine if_f ?_ | refine w_comp ?_ | refine b_nil ?_ | refine b_par ?_ | refine b_par2 ?_ | refine b_appO rfl ?_ | refine b_extO rfl ?_ | refine fl_rt ?_ | refine fl_nx ?_ | refine And.intro (by assumption) ?_ | refine And.intro rfl ?_ | refine ⟨_, rfl, ?_⟩ | refine ⟨_, _, rfl, rfl, ?_⟩ | refine ⟨_, rfl, rfl, ?_⟩ | refine ⟨_, _, _, rfl, rfl, rfl, ?_⟩ | refine ⟨_, _, _, rfl, rfl, atD0, ?_⟩ | refine ⟨_, _, _, rfl, rfl, atD1, ?_⟩ | refine ⟨_, _, rfl, rfl, rfl, ?_⟩ | refine for_cons rfl ?_ | refine for_nil ?_ | dsimp only))
      · simp; omega
      · (repeat' (first | refine w_v rfl ?_ | refine w_int ?_ | refine w_bl ?_ | refine w_non ?_ | refine w_str ?_ | refine w_cons ?_ | refine w_nil ?_ | refine w_bin ?_ | refine w_cmp ?_ | refine w_call ?_ | refine w_bi ?_ | refine w_isi ?_ | refine w_ix ?_ | refine w_and ?_ | refine w_or ?_ | refine w_not ?_ | refine w_chn ?_ | refine w_tup ?_ | refine w_lst ?_ | refine w_ite ?_ | refine w_neg ?_ | refine w_sl ?_ | refine sl_t ?_ | refine sl_n ?_ | refine sl_b ?_ | refine sl_l ?_ | refine w_rev ?_ | refine rv_t ?_ | refine rv_n ?_ | refine rv_l ?_ | refine rv_b ?_ | refine w_onone ?_ | refine w_osome ?_ | refine b_asg ?_ | refine b_ret ?_ | refine b_retN ?_ | refine b_expr ?_ | refine b_pass ?_ | refine b_ifs ?_ | refine b_for ?_ | refine b_asgO ?_ | refine b_asgR ?_ | refine bw_add ?_ | refine bw_sub ?_ | refine cw_lt ?_ | refine cw_le ?_ | refine cw_gt ?_ | refine cw_ge ?_ | refine cw_eqI ?_ | refine cw_neI ?_ | refine bl_w ?_ | refine if_t ?_ | refine if_f ?_ | refine w_comp ?_ | refine b_nil ?_ | refine b_par ?_ | refine b_par2 ?_ | refine b_appO rfl ?_ | refine b_extO rfl ?_ | refine fl_rt ?_ | refine fl_nx ?_ | refine And.intro (by assumption) ?_ | refine And.intro rfl ?_ | refine ⟨_, rfl, ?_⟩ | refine ⟨_, _, rfl, rfl, ?_⟩ | refine ⟨_, rfl, rfl, ?_⟩ | refine ⟨_, _, _, rfl, rfl, rfl, ?_⟩ | refine ⟨_, _, _, rfl, rfl, atD0, ?_⟩ | refine ⟨_, _, _, rfl, rfl, atD1, ?_⟩ | refine ⟨_, _, rfl, rfl, rfl, ?_⟩ | refine for_cons rfl ?_ | refine for_nil ?_ | dsimp only))
        refine ⟨_, _, rfl, by unfold small; exact decide_eq_true (by simp; omega), rfl, b_nil (fl_nx ⟨⟨some (.v (tupI e.1)), some (.v (tupI e.2)), x4, x5, ?_⟩, rfl⟩)⟩
        rw [net_zip, List.take_succ, q, List.map_append]
        rfl
  · obtain ⟨⟨x2, x3, x4, x5, rfl⟩, rfl⟩ := J
    refine b_retO rfl ?_
    (repeat' (first | refine w_v rfl ?_ | refine w_int ?_ | refine w_bl ?_ | refine w_non ?_ | refine w_str ?_ | refine w_cons ?_ | refine w_nil ?_ | refine w_bin ?_ | refine w_cmp ?_ | refine w_call ?_ | refine w_bi ?_ | refine w_isi ?_ | refine w_ix ?_ | refine w_and ?_ | refine w_or ?_ | refine w_not ?_ | refine w_chn ?_ | refine w_tup ?_ | refine w_lst ?_ | refine w_ite ?_ | refine w_neg ?_ | refine w_sl ?_ | refine sl_t ?_ | refine sl_n ?_ | refine sl_b ?_ | refine sl_l ?_ | refine w_rev ?_ | refine rv_t ?_ | refine rv_n ?_ | refine rv_l ?_ | refine rv_b ?_ | refine w_onone ?_ | refine w_osome ?_ | refine b_asg ?_ | refine b_ret ?_ | refine b_retN ?_ | refine b_expr ?_ | refine b_pass ?_ | refine b_ifs ?_ | refine b_for ?_ | refine b_asgO ?_ | refine b_asgR ?_ | refine bw_add ?_ | refine bw_sub ?_ | refine cw_lt ?_ | refine cw_le ?_ | refine cw_gt ?_ | refine cw_ge ?_ | refine cw_eqI ?_ | refine cw_neI ?_ | refine bl_w ?_ | refine if_t ?_ | refine if_f ?_ | refine w_comp ?_ | refine b_nil ?_ | refine b_par ?_ | refine b_par2 ?_ | refine b_appO rfl ?_ | refine b_extO rfl ?_ | refine fl_rt ?_ | refine fl_nx ?_ | refine And.intro (by assumption) ?_ | refine And.intro rfl ?_ | refine ⟨_, rfl, ?_⟩ | refine ⟨_, _, rfl, rfl, ?_⟩ | refine ⟨_, rfl, rfl, ?_⟩ | refine ⟨_, _, _, rfl, rfl, rfl, ?_⟩ | refine ⟨_, _, _, rfl, rfl, atD0, ?_⟩ | refine ⟨_, _, _, rfl, rfl, atD1, ?_⟩ | refine ⟨_, _, rfl, rfl, rfl, ?_⟩ | refine for_cons rfl ?_ | refine for_nil ?_ | dsimp only))
    simp
mutual
theorem eqb_self : ∀ {d : D} {n : Nat}, d.okN n = true → D.eqb d d = true
  | .non, _, _ => rfl
  | .bl b, _, _ => by simp [D.eqb]
  | .int i, _, _ => by simp [D.eqb]
  | .str x, _, _ => by simp [D.eqb]
  | .tup xs, n, h => by
    obtain ⟨m, rfl, hx⟩ := ok_tup h
    simp only [D.eqb]
    exact eqbL_self hx
  | .lst xs, n, h => by
    obtain ⟨m, rfl, hx⟩ := ok_lst h
    simp only [D.eqb]
    exact eqbL_self hx
  | .obj _, n, h => by cases n <;> simp [D.okN] at h
theorem eqbL_self : ∀ {xs : List D} {n : Nat}, (∀ x ∈ xs, x.okN n = true) → D.eqbL xs xs = true
  | [], _, _ => rfl
  | x :: xs, n, h => by
    simp only [D.eqbL, Bool.and_eq_true]
    exact ⟨eqb_self (h x (by simp)), eqbL_self fun y hy => h y (by simp [hy])⟩
end
theorem cut_last {xs : List D} {d : D} : cutD (xs ++ [d]) none (some (-1)) = xs := by
  unfold cutD
  rw [HT.sIx_none]
  have : HT.sIx (xs ++ [d]).length (xs ++ [d]).length (some (-1)) = xs.length := by
    simp only [HT.sIx]
    rw [if_pos (by decide)]
    simp only [List.length_append, List.length_singleton]
    omega
  rw [this]
  simp
theorem atD_get {α : Type} {f : α → D} {l : List α} {i : Int} {x : α} (h0 : 0 ≤ i) (e : l[i.toNat]? = some x) : atD (l.map f) i = some (f x) := by
  obtain ⟨j, rfl⟩ := Int.eq_ofNat_of_zero_le h0
  have : (l.map f)[j]? = some (f x) := by
    rw [List.getElem?_map]
    have e' : l[j]? = some x := e
    rw [e']
    rfl
  exact L2.atI_nat this
end GV
set_option Elab.async false
set_option linter.all false
set_option maxRecDepth 100000
set_option maxHeartbeats 4000000
/-! GB1: bags, rows. -/
namespace GV
open PySem L2
def b_need_bag : List S := [
  .expr (.call 13 [(.v 0)]),
  .ifs (.not (.call 2 [(.v 1), (.ix (.v 0) (.int 0)), (.int 0), (.bin .pow (.int 10) (.int 6))])) [
    .raise 1] []]
def n_need_bag : List Str := ["board", "bag"]
def f_need_bag : FD := ⟨2, 2, b_need_bag⟩
def b_holds : List S := [
  .ret (.bi .all [(.comp .zip [(.v 0), (.v 1)] (.t [(.n 2), (.n 3)]) [2, 3] [] (.cmp .ge (.v 2) (.v 3)))])]
def n_holds : List Str := ["bag", "some", "one", "other"]
def f_holds : FD := ⟨4, 2, b_holds⟩
def b_added : List S := [
  .ret (.bi .tuple [(.comp .zip [(.v 0), (.v 1)] (.t [(.n 2), (.n 3)]) [2, 3] [] (.bin .add (.v 2) (.v 3)))])]
def n_added : List Str := ["bag", "net", "one", "other"]
def f_added : FD := ⟨4, 2, b_added⟩
def b_run : List S := [
  .expr (.call 18 [(.v 0), (.v 1)]),
  .asg (.n 3) (.bin .sub (.bi .len [(.ix (.v 0) (.int 1))]) (.int 1)),
  .ifs (.or (.not (.isi (.v 2) .tuple)) (.or (.cmp .gt (.bi .len [(.v 2)]) (.int 40)) (.not (.bi .all [(.comp .seq [(.v 2)] (.n 5) [5] [] (.call 1 [(.v 5), (.int 0), (.v 3)]))])))) [
    .raise 2] [],
  .for_ .seq [(.v 2)] (.n 4) [
    .ifs (.not (.call 19 [(.v 1), (.ix (.ix (.ix (.v 0) (.int 1)) (.v 4)) (.int 0))])) [
      .raise 10] [],
    .asg (.n 1) (.call 20 [(.v 1), (.call 14 [(.ix (.ix (.v 0) (.int 1)) (.v 4))])])],
  .ret (.v 1)]
def n_run : List Str := ["board", "bag", "row", "last", "number", "one"]
def f_run : FD := ⟨6, 3, b_run⟩
def b_law_behind : List S := [
  .for_ .seq [(.v 2)] (.n 3) [
    .asg (.t [(.n 4), (.n 5)]) (.ix (.ix (.v 0) (.int 1)) (.v 3)),
    .ifs (.not (.bi .all [(.comp .zip [(.v 1), (.v 4)] (.t [(.n 6), (.n 7)]) [6, 7] [] (.cmp .ge (.v 6) (.v 7)))])) [
      .ret .non] [],
    .asg (.n 1) (.bi .tuple [(.comp .zip [(.v 1), (.v 4), (.v 5)] (.t [(.n 6), (.n 7), (.n 8)]) [6, 7, 8] [] (.bin .add (.bin .sub (.v 6) (.v 7)) (.v 8)))])],
  .ret (.v 1)]
def n_law_behind : List Str := ["board", "bag", "row", "number", "takes", "gives", "a", "b", "c"]
def f_law_behind : FD := ⟨9, 3, b_law_behind⟩
def b_law_run : List S := [
  .tryW (.call 21 [(.v 0), (.v 1), (.v 2)]) 3]
def n_law_run : List Str := ["board", "bag", "row", "e"]
def f_law_run : FD := ⟨4, 3, b_law_run⟩
theorem need_board_ex {p : Pg} (h1 : p.Pt 1 = some f_is_integer) (h2 : p.Pt 2 = some f_are_numbers) (h3 : p.Pt 3 = some f_is_exchange) (h4 : p.Pt 4 = some f_stands) (h13 : p.Pt 13 = some f_need_board) {n m : Nat} {d : D} {h : MH} (hd : d.okN m = true) (hs : standsD d = false) : p.c (n + 5) 13 [.v d] h = .ex 0 h := by
  refine Pg.call_ex h13 rfl ?_
  unfold f_need_board b_need_board
  refine b_ifs (w_not (w_call (w_cons (w_v rfl (w_nil (O.wp_eq (stands_eq h1 h2 h3 h4 hd) ?_))))))
  rw [hs]
  exact bl_w (bl_w (if_t (b_raise ⟨rfl, rfl⟩)))
def raisedD (c : Nat) : D := .tup [.str "raised", .int (c : Nat)]
theorem strRaised : strOkB "raised" = true := by decide +kernel
theorem raised_ok {c n : Nat} : (raisedD c).okN (n + 1) = true := by simp [raisedD, D.okN, strRaised]
structure PBag (p : Pg) : Prop where
  h1 : p.Pt 1 = some f_is_integer
  h2 : p.Pt 2 = some f_are_numbers
  h3 : p.Pt 3 = some f_is_exchange
  h4 : p.Pt 4 = some f_stands
  h13 : p.Pt 13 = some f_need_board
  h14 : p.Pt 14 = some f_net_of
  h18 : p.Pt 18 = some f_need_bag
  h19 : p.Pt 19 = some f_holds
  h20 : p.Pt 20 = some f_added
  h21 : p.Pt 21 = some f_run
theorem e6 : ((10 : Int) ^ (6 : Int).toNat) = 1000000 := by decide
theorem need_bag_eq {p : Pg} (L : PBag p) {n m : Nat} {t : Int} {es : List Ex} {d : D} {h : MH} (v : BV t es) (hd : d.okN m = true) (ha : areNum t 0 1000000 d = true) : p.c (n + 6) 18 [.v (bD t es), .v d] h = .ok (.v .non) h := by
  have t4 := v.t4
  refine O.eq_of (Pg.call_wp L.h18 rfl ?_)
  unfold f_need_bag b_need_bag
  refine b_expr (w_call (w_cons (w_v rfl (w_nil (O.wp_eq (need_board_eq L.h1 L.h2 L.h3 L.h4 L.h13 (ok_bD (n := 0)) (stands_bD v)) ?_)))))
  (repeat' (first | refine w_v rfl ?_ | refine w_int ?_ | refine w_bl ?_ | refine w_non ?_ | refine w_str ?_ | refine w_cons ?_ | refine w_nil ?_ | refine w_bin ?_ | refine w_cmp ?_ | refine w_call ?_ | refine w_bi ?_ | refine w_isi ?_ | refine w_ix ?_ | refine w_and ?_ | refine w_or ?_ | refine w_not ?_ | refine w_chn ?_ | refine w_tup ?_ | refine w_lst ?_ | refine w_ite ?_ | refine w_neg ?_ | refine w_sl ?_ | refine sl_t ?_ | refine sl_n ?_ | refine sl_b ?_ | refine sl_l ?_ | refine w_rev ?_ | refine rv_t ?_ | refine rv_n ?_ | refine rv_l ?_ | refine rv_b ?_ | refine w_onone ?_ | refine w_osome ?_ | refine b_asg ?_ | refine b_ret ?_ | refine b_retN ?_ | refine b_expr ?_ | refine b_pass ?_ | refine b_ifs ?_ | refine b_for ?_ | refine b_asgO ?_ | refine b_asgR ?_ | refine bw_add ?_ | refine bw_sub ?_ | refine cw_lt ?_ | refine cw_le ?_ | refine cw_gt ?_ | refine cw_ge ?_ | refine cw_eqI ?_ | refine cw_neI ?_ | refine bl_w ?_ | refine if_t ?_ | refine if_f ?_ | refine w_comp ?_ | refine b_nil ?_ | refine b_par ?_ | refine b_par2 ?_ | refine b_appO rfl ?_ | refine b_extO rfl ?_ | refine fl_rt ?_ | refine fl_nx ?_ | refine And.intro (by assumption) ?_ | refine And.intro rfl ?_ | refine ⟨_, rfl, ?_⟩ | refine ⟨_, _, rfl, rfl, ?_⟩ | refine ⟨_, rfl, rfl, ?_⟩ | refine ⟨_, _, _, rfl, rfl, rfl, ?_⟩ | refine ⟨_, _, _, rfl, rfl, atD0, ?_⟩ | refine ⟨_, _, _, rfl, rfl, atD1, ?_⟩ | refine ⟨_, _, rfl, rfl, rfl, ?_⟩ | refine for_cons rfl ?_ | refine for_nil ?_ | dsimp only))
  rw [e6]
  refine O.wp_eq (are_numbers_eq L.h1 L.h2 hd (by omega)) ?_
  rw [ha]
  (repeat' (first | refine w_v rfl ?_ | refine w_int ?_ | refine w_bl ?_ | refine w_non ?_ | refine w_str ?_ | refine w_cons ?_ | refine w_nil ?_ | refine w_bin ?_ | refine w_cmp ?_ | refine w_call ?_ | refine w_bi ?_ | refine w_isi ?_ | refine w_ix ?_ | refine w_and ?_ | refine w_or ?_ | refine w_not ?_ | refine w_chn ?_ | refine w_tup ?_ | refine w_lst ?_ | refine w_ite ?_ | refine w_neg ?_ | refine w_sl ?_ | refine sl_t ?_ | refine sl_n ?_ | refine sl_b ?_ | refine sl_l ?_ | refine w_rev ?_ | refine rv_t ?_ | refine rv_n ?_ | refine rv_l ?_ | refine rv_b ?_ | refine w_onone ?_ | refine w_osome ?_ | refine b_asg ?_ | refine b_ret ?_ | refine b_retN ?_ | refine b_expr ?_ | refine b_pass ?_ | refine b_ifs ?_ | refine b_for ?_ | refine b_asgO ?_ | refine b_asgR ?_ | refine bw_add ?_ | refine bw_sub ?_ | refine cw_lt ?_ | refine cw_le ?_ | refine cw_gt ?_ | refine cw_ge ?_ | refine cw_eqI ?_ | refine cw_neI ?_ | refine bl_w ?_ | refine if_t ?_ | refine if_f ?_ | refine w_comp ?_ | refine b_nil ?_ | refine b_par ?_ | refine b_par2 ?_ | refine b_appO rfl ?_ | refine b_extO rfl ?_ | refine fl_rt ?_ | refine fl_nx ?_ | refine And.intro (by assumption) ?_ | refine And.intro rfl ?_ | refine ⟨_, rfl, ?_⟩ | refine ⟨_, _, rfl, rfl, ?_⟩ | refine ⟨_, rfl, rfl, ?_⟩ | refine ⟨_, _, _, rfl, rfl, rfl, ?_⟩ | refine ⟨_, _, _, rfl, rfl, atD0, ?_⟩ | refine ⟨_, _, _, rfl, rfl, atD1, ?_⟩ | refine ⟨_, _, rfl, rfl, rfl, ?_⟩ | refine for_cons rfl ?_ | refine for_nil ?_ | dsimp only))
theorem need_bag_ex {p : Pg} (L : PBag p) {n m : Nat} {t : Int} {es : List Ex} {d : D} {h : MH} (v : BV t es) (hd : d.okN m = true) (ha : areNum t 0 1000000 d = false) : p.c (n + 6) 18 [.v (bD t es), .v d] h = .ex 1 h := by
  have t4 := v.t4
  refine Pg.call_ex L.h18 rfl ?_
  unfold f_need_bag b_need_bag
  refine b_expr (w_call (w_cons (w_v rfl (w_nil (O.wp_eq (need_board_eq L.h1 L.h2 L.h3 L.h4 L.h13 (ok_bD (n := 0)) (stands_bD v)) ?_)))))
  refine b_ifs ?_
  (repeat' (first | refine w_v rfl ?_ | refine w_int ?_ | refine w_bl ?_ | refine w_non ?_ | refine w_str ?_ | refine w_cons ?_ | refine w_nil ?_ | refine w_bin ?_ | refine w_cmp ?_ | refine w_call ?_ | refine w_bi ?_ | refine w_isi ?_ | refine w_ix ?_ | refine w_and ?_ | refine w_or ?_ | refine w_not ?_ | refine w_chn ?_ | refine w_tup ?_ | refine w_lst ?_ | refine w_ite ?_ | refine w_neg ?_ | refine w_sl ?_ | refine sl_t ?_ | refine sl_n ?_ | refine sl_b ?_ | refine sl_l ?_ | refine w_rev ?_ | refine rv_t ?_ | refine rv_n ?_ | refine rv_l ?_ | refine rv_b ?_ | refine w_onone ?_ | refine w_osome ?_ | refine bw_add ?_ | refine bw_sub ?_ | refine cw_lt ?_ | refine cw_le ?_ | refine cw_gt ?_ | refine cw_ge ?_ | refine cw_eqI ?_ | refine cw_neI ?_ | refine bl_w ?_ | refine if_t ?_ | refine if_f ?_ | refine w_comp ?_ | refine fl_rt ?_ | refine fl_nx ?_ | refine And.intro (by assumption) ?_ | refine And.intro rfl ?_ | refine ⟨_, rfl, ?_⟩ | refine ⟨_, _, rfl, rfl, ?_⟩ | refine ⟨_, rfl, rfl, ?_⟩ | refine ⟨_, _, _, rfl, rfl, rfl, ?_⟩ | refine ⟨_, _, _, rfl, rfl, atD0, ?_⟩ | refine ⟨_, _, _, rfl, rfl, atD1, ?_⟩ | refine ⟨_, _, rfl, rfl, rfl, ?_⟩ | dsimp only))
  rw [e6]
  refine O.wp_eq (are_numbers_eq L.h1 L.h2 hd (by omega)) ?_
  rw [ha]
  exact bl_w (bl_w (if_t (b_raise ⟨rfl, rfl⟩)))
theorem need_bag_ex0 {p : Pg} (L : PBag p) {n m : Nat} {b d : D} {h : MH} (hb : b.okN m = true) (hs : standsD b = false) : p.c (n + 6) 18 [.v b, .v d] h = .ex 0 h := by
  refine Pg.call_ex L.h18 rfl ?_
  unfold f_need_bag b_need_bag
  exact b_expr (w_callX (w_cons (w_v rfl (w_nil (O.wpX_exc (need_board_ex L.h1 L.h2 L.h3 L.h4 L.h13 hb hs) ⟨rfl, rfl⟩)))))
/-! ### holds, added -/
def holdsL (b s : List Int) : Bool := (b.zip s).all fun p => decide (p.2 ≤ p.1)
def geP : D → D
  | .tup [.int a, .int b] => .bl (decide (b ≤ a))
  | _ => .non
theorem bls_geP : ∀ {b s : List Int}, bls? ((((b.map D.int).zip (s.map D.int)).map fun p => D.tup [p.1, p.2]).map geP) = some ((b.zip s).map fun p => decide (p.2 ≤ p.1))
  | [], _ => rfl
  | _ :: _, [] => rfl
  | x :: b, y :: s => by
    simp only [List.map_cons, List.zip_cons_cons, geP, bls?]
    rw [bls_geP (b := b) (s := s)]
    rfl
theorem mem_zip2 {b s : List Int} {d : D} (hd : d ∈ ((b.map D.int).zip (s.map D.int)).map fun p => D.tup [p.1, p.2]) : ∃ x y : Int, d = .tup [.int x, .int y] := by
  simp only [List.mem_map] at hd
  obtain ⟨⟨x, y⟩, hxy, rfl⟩ := hd
  have hx := (List.of_mem_zip hxy).1
  have hy := (List.of_mem_zip hxy).2
  simp only [List.mem_map] at hx hy
  obtain ⟨a, _, rfl⟩ := hx
  obtain ⟨c, _, rfl⟩ := hy
  exact ⟨a, c, rfl⟩
theorem bi_allL {Q : R → Prop} {srt : List D → Option (List D)} {xs : List D} {bs : List Bool} {h : MH} (e : bls? xs = some bs) (q : Q (.v (.bl (bs.all id)))) : BiW srt .all [.nl xs] h Q := ⟨_, by simp [biR, R.rd, e], q⟩
theorem holds_eq {p : Pg} (h19 : p.Pt 19 = some f_holds) {n : Nat} {b s : List Int} {h : MH} (hl : b.length ≤ 1000000) : p.c (n + 1) 19 [.v (tupI b), .v (tupI s)] h = .ok (.v (.bl (holdsL b s))) h := by
  refine O.eq_of (Pg.call_wp h19 rfl ?_)
  unfold f_holds b_holds tupI
  (repeat' (first | refine w_v rfl ?_ | refine w_int ?_ | refine w_bl ?_ | refine w_non ?_ | refine w_str ?_ | refine w_cons ?_ | refine w_nil ?_ | refine w_bin ?_ | refine w_cmp ?_ | refine w_call ?_ | refine w_bi ?_ | refine w_isi ?_ | refine w_ix ?_ | refine w_and ?_ | refine w_or ?_ | refine w_not ?_ | refine w_chn ?_ | refine w_tup ?_ | refine w_lst ?_ | refine w_ite ?_ | refine w_neg ?_ | refine w_sl ?_ | refine sl_t ?_ | refine sl_n ?_ | refine sl_b ?_ | refine sl_l ?_ | refine w_rev ?_ | refine rv_t ?_ | refine rv_n ?_ | refine rv_l ?_ | refine rv_b ?_ | refine w_onone ?_ | refine w_osome ?_ | refine b_asg ?_ | refine b_ret ?_ | refine b_retN ?_ | refine b_expr ?_ | refine b_pass ?_ | refine b_ifs ?_ | refine b_for ?_ | refine b_asgO ?_ | refine b_asgR ?_ | refine bw_add ?_ | refine bw_sub ?_ | refine cw_lt ?_ | refine cw_le ?_ | refine cw_gt ?_ | refine cw_ge ?_ | refine cw_eqI ?_ | refine cw_neI ?_ | refine bl_w ?_ | refine if_t ?_ | refine if_f ?_ | refine w_comp ?_ | refine b_nil ?_ | refine b_par ?_ | refine b_par2 ?_ | refine b_appO rfl ?_ | refine b_extO rfl ?_ | refine fl_rt ?_ | refine fl_nx ?_ | refine And.intro (by assumption) ?_ | refine And.intro rfl ?_ | refine ⟨_, rfl, ?_⟩ | refine ⟨_, _, rfl, rfl, ?_⟩ | refine ⟨_, rfl, rfl, ?_⟩ | refine ⟨_, _, _, rfl, rfl, rfl, ?_⟩ | refine ⟨_, _, _, rfl, rfl, atD0, ?_⟩ | refine ⟨_, _, _, rfl, rfl, atD1, ?_⟩ | refine ⟨_, _, rfl, rfl, rfl, ?_⟩ | refine for_cons rfl ?_ | refine for_nil ?_ | dsimp only))
  refine c_pure geP (fun d hd => ?_) (by simp; omega) ?_
  · obtain ⟨x, y, rfl⟩ := mem_zip2 hd
    refine ⟨_, rfl, ?_⟩
    (repeat' (first | refine w_v rfl ?_ | refine w_int ?_ | refine w_bl ?_ | refine w_non ?_ | refine w_str ?_ | refine w_cons ?_ | refine w_nil ?_ | refine w_bin ?_ | refine w_cmp ?_ | refine w_call ?_ | refine w_bi ?_ | refine w_isi ?_ | refine w_ix ?_ | refine w_and ?_ | refine w_or ?_ | refine w_not ?_ | refine w_chn ?_ | refine w_tup ?_ | refine w_lst ?_ | refine w_ite ?_ | refine w_neg ?_ | refine w_sl ?_ | refine sl_t ?_ | refine sl_n ?_ | refine sl_b ?_ | refine sl_l ?_ | refine w_rev ?_ | refine rv_t ?_ | refine rv_n ?_ | refine rv_l ?_ | refine rv_b ?_ | refine w_onone ?_ | refine w_osome ?_ | refine b_asg ?_ | refine b_ret ?_ | refine b_retN ?_ | refine b_expr ?_ | refine b_pass ?_ | refine b_ifs ?_ | refine b_for ?_ | refine b_asgO ?_ | refine b_asgR ?_ | refine bw_add ?_ | refine bw_sub ?_ | refine cw_lt ?_ | refine cw_le ?_ | refine cw_gt ?_ | refine cw_ge ?_ | refine cw_eqI ?_ | refine cw_neI ?_ | refine bl_w ?_ | refine if_t ?_ | refine if_f ?_ | refine w_comp ?_ | refine b_nil ?_ | refine b_par ?_ | refine b_par2 ?_ | refine b_appO rfl ?_ | refine b_extO rfl ?_ | refine fl_rt ?_ | refine fl_nx ?_ | refine And.intro (by assumption) ?_ | refine And.intro rfl ?_ | refine ⟨_, rfl, ?_⟩ | refine ⟨_, _, rfl, rfl, ?_⟩ | refine ⟨_, rfl, rfl, ?_⟩ | refine ⟨_, _, _, rfl, rfl, rfl, ?_⟩ | refine ⟨_, _, _, rfl, rfl, atD0, ?_⟩ | refine ⟨_, _, _, rfl, rfl, atD1, ?_⟩ | refine ⟨_, _, rfl, rfl, rfl, ?_⟩ | refine for_cons rfl ?_ | refine for_nil ?_ | dsimp only))
  · refine w_nil (bi_allL bls_geP ?_)
    have e : ((b.zip s).map fun p => decide (p.2 ≤ p.1)).all id = holdsL b s := by simp [holdsL, List.all_map, Function.comp_def]
    rw [e]
    exact ⟨_, rfl, rfl, rfl, rfl⟩
def addL (b s : List Int) : List Int := List.zipWith (fun x y => x + y) b s
def adP : D → D
  | .tup [.int a, .int b] => .int (a + b)
  | _ => .non
theorem map_adP : ∀ {b s : List Int}, (((b.map D.int).zip (s.map D.int)).map fun p => D.tup [p.1, p.2]).map adP = (addL b s).map D.int
  | [], _ => rfl
  | _ :: _, [] => rfl
  | x :: b, y :: s => by
    simp only [List.map_cons, List.zip_cons_cons, adP]
    rw [map_adP (b := b) (s := s)]
    rfl
theorem added_eq {p : Pg} (h20 : p.Pt 20 = some f_added) {n : Nat} {b s : List Int} {h : MH} (hl : b.length ≤ 1000000) : p.c (n + 1) 20 [.v (tupI b), .v (tupI s)] h = .ok (.v (tupI (addL b s))) h := by
  refine O.eq_of (Pg.call_wp h20 rfl ?_)
  unfold f_added b_added tupI
  (repeat' (first | refine w_v rfl ?_ | refine w_int ?_ | refine w_bl ?_ | refine w_non ?_ | refine w_str ?_ | refine w_cons ?_ | refine w_nil ?_ | refine w_bin ?_ | refine w_cmp ?_ | refine w_call ?_ | refine w_bi ?_ | refine w_isi ?_ | refine w_ix ?_ | refine w_and ?_ | refine w_or ?_ | refine w_not ?_ | refine w_chn ?_ | refine w_tup ?_ | refine w_lst ?_ | refine w_ite ?_ | refine w_neg ?_ | refine w_sl ?_ | refine sl_t ?_ | refine sl_n ?_ | refine sl_b ?_ | refine sl_l ?_ | refine w_rev ?_ | refine rv_t ?_ | refine rv_n ?_ | refine rv_l ?_ | refine rv_b ?_ | refine w_onone ?_ | refine w_osome ?_ | refine b_asg ?_ | refine b_ret ?_ | refine b_retN ?_ | refine b_expr ?_ | refine b_pass ?_ | refine b_ifs ?_ | refine b_for ?_ | refine b_asgO ?_ | refine b_asgR ?_ | refine bw_add ?_ | refine bw_sub ?_ | refine cw_lt ?_ | refine cw_le ?_ | refine cw_gt ?_ | refine cw_ge ?_ | refine cw_eqI ?_ | refine cw_neI ?_ | refine bl_w ?_ | refine if_t ?_ | refine if_f ?_ | refine w_comp ?_ | refine b_nil ?_ | refine b_par ?_ | refine b_par2 ?_ | refine b_appO rfl ?_ | refine b_extO rfl ?_ | refine fl_rt ?_ | refine fl_nx ?_ | refine And.intro (by assumption) ?_ | refine And.intro rfl ?_ | refine ⟨_, rfl, ?_⟩ | refine ⟨_, _, rfl, rfl, ?_⟩ | refine ⟨_, rfl, rfl, ?_⟩ | refine ⟨_, _, _, rfl, rfl, rfl, ?_⟩ | refine ⟨_, _, _, rfl, rfl, atD0, ?_⟩ | refine ⟨_, _, _, rfl, rfl, atD1, ?_⟩ | refine ⟨_, _, rfl, rfl, rfl, ?_⟩ | refine for_cons rfl ?_ | refine for_nil ?_ | dsimp only))
  refine c_pure adP (fun d hd => ?_) (by simp; omega) ?_
  · obtain ⟨x, y, rfl⟩ := mem_zip2 hd
    refine ⟨_, rfl, ?_⟩
    (repeat' (first | refine w_v rfl ?_ | refine w_int ?_ | refine w_bl ?_ | refine w_non ?_ | refine w_str ?_ | refine w_cons ?_ | refine w_nil ?_ | refine w_bin ?_ | refine w_cmp ?_ | refine w_call ?_ | refine w_bi ?_ | refine w_isi ?_ | refine w_ix ?_ | refine w_and ?_ | refine w_or ?_ | refine w_not ?_ | refine w_chn ?_ | refine w_tup ?_ | refine w_lst ?_ | refine w_ite ?_ | refine w_neg ?_ | refine w_sl ?_ | refine sl_t ?_ | refine sl_n ?_ | refine sl_b ?_ | refine sl_l ?_ | refine w_rev ?_ | refine rv_t ?_ | refine rv_n ?_ | refine rv_l ?_ | refine rv_b ?_ | refine w_onone ?_ | refine w_osome ?_ | refine b_asg ?_ | refine b_ret ?_ | refine b_retN ?_ | refine b_expr ?_ | refine b_pass ?_ | refine b_ifs ?_ | refine b_for ?_ | refine b_asgO ?_ | refine b_asgR ?_ | refine bw_add ?_ | refine bw_sub ?_ | refine cw_lt ?_ | refine cw_le ?_ | refine cw_gt ?_ | refine cw_ge ?_ | refine cw_eqI ?_ | refine cw_neI ?_ | refine bl_w ?_ | refine if_t ?_ | refine if_f ?_ | refine w_comp ?_ | refine b_nil ?_ | refine b_par ?_ | refine b_par2 ?_ | refine b_appO rfl ?_ | refine b_extO rfl ?_ | refine fl_rt ?_ | refine fl_nx ?_ | refine And.intro (by assumption) ?_ | refine And.intro rfl ?_ | refine ⟨_, rfl, ?_⟩ | refine ⟨_, _, rfl, rfl, ?_⟩ | refine ⟨_, rfl, rfl, ?_⟩ | refine ⟨_, _, _, rfl, rfl, rfl, ?_⟩ | refine ⟨_, _, _, rfl, rfl, atD0, ?_⟩ | refine ⟨_, _, _, rfl, rfl, atD1, ?_⟩ | refine ⟨_, _, rfl, rfl, rfl, ?_⟩ | refine for_cons rfl ?_ | refine for_nil ?_ | dsimp only))
  · rw [map_adP]
    (repeat' (first | refine w_v rfl ?_ | refine w_int ?_ | refine w_bl ?_ | refine w_non ?_ | refine w_str ?_ | refine w_cons ?_ | refine w_nil ?_ | refine w_bin ?_ | refine w_cmp ?_ | refine w_call ?_ | refine w_bi ?_ | refine w_isi ?_ | refine w_ix ?_ | refine w_and ?_ | refine w_or ?_ | refine w_not ?_ | refine w_chn ?_ | refine w_tup ?_ | refine w_lst ?_ | refine w_ite ?_ | refine w_neg ?_ | refine w_sl ?_ | refine sl_t ?_ | refine sl_n ?_ | refine sl_b ?_ | refine sl_l ?_ | refine w_rev ?_ | refine rv_t ?_ | refine rv_n ?_ | refine rv_l ?_ | refine rv_b ?_ | refine w_onone ?_ | refine w_osome ?_ | refine b_asg ?_ | refine b_ret ?_ | refine b_retN ?_ | refine b_expr ?_ | refine b_pass ?_ | refine b_ifs ?_ | refine b_for ?_ | refine b_asgO ?_ | refine b_asgR ?_ | refine bw_add ?_ | refine bw_sub ?_ | refine cw_lt ?_ | refine cw_le ?_ | refine cw_gt ?_ | refine cw_ge ?_ | refine cw_eqI ?_ | refine cw_neI ?_ | refine bl_w ?_ | refine if_t ?_ | refine if_f ?_ | refine w_comp ?_ | refine b_nil ?_ | refine b_par ?_ | refine b_par2 ?_ | refine b_appO rfl ?_ | refine b_extO rfl ?_ | refine fl_rt ?_ | refine fl_nx ?_ | refine And.intro (by assumption) ?_ | refine And.intro rfl ?_ | refine ⟨_, rfl, ?_⟩ | refine ⟨_, _, rfl, rfl, ?_⟩ | refine ⟨_, rfl, rfl, ?_⟩ | refine ⟨_, _, _, rfl, rfl, rfl, ?_⟩ | refine ⟨_, _, _, rfl, rfl, atD0, ?_⟩ | refine ⟨_, _, _, rfl, rfl, atD1, ?_⟩ | refine ⟨_, _, rfl, rfl, rfl, ?_⟩ | refine for_cons rfl ?_ | refine for_nil ?_ | dsimp only))
/-! ### runs -/
def stepL (es : List Ex) (b : List Int) (i : Int) : Option (List Int) := match es[i.toNat]? with
  | some e => if holdsL b e.1 then some (addL b (netL e)) else none
  | none => none
def runL (es : List Ex) : List Int → List Int → Option (List Int)
  | b, [] => some b
  | b, i :: r => (stepL es b i).bind fun b' => runL es b' r
def rowB (n : Int) : D → Bool
  | .tup xs => decide (xs.length ≤ 40) && xs.all (isInt 0 (n - 1))
  | _ => false
theorem row_ints {n : Int} {d : D} (h : rowB n d = true) : ∃ r : List Int, d = tupI r ∧ r.length ≤ 40 ∧ ∀ i ∈ r, 0 ≤ i ∧ i ≤ n - 1 := by
  cases d with
  | tup xs =>
    simp only [rowB, Bool.and_eq_true, decide_eq_true_eq] at h
    obtain ⟨ns, rfl, q⟩ := allInt h.2
    exact ⟨ns, rfl, by simpa using h.1, q⟩
  | _ => simp [rowB] at h
theorem addL_len {b s : List Int} : (addL b s).length = min b.length s.length := by simp [addL]
theorem netL_len {e : Ex} : (netL e).length = min e.1.length e.2.length := by simp [netL]
/-- the loop of run -/
theorem run_body {p : Pg} (L : PBag p) {n m : Nat} {t : Int} {es : List Ex} {b : List Int} {d : D} {h : MH} {X : Nat → MH → Prop} {Q : Fl → MH → Prop} (v : BV t es) (hb : (b.length : Int) = t) (hba : areNum t 0 1000000 (tupI b) = true) (hd : d.okN m = true)
    (q1 : rowB es.length d = false → X 2 h) (q2 : ∀ r, d = tupI r → rowB es.length d = true → runL es b r = none → X 10 h) (q3 : ∀ r b', d = tupI r → rowB es.length d = true → runL es b r = some b' → Q (.rt (.v (tupI b'))) h) :
    xB (p.G (n + 6)) X b_run [some (.v (bD t es)), some (.v (tupI b)), some (.v d), none, none, none] h Q := by
  have t4 := v.t4
  have t2 := v.t2
  have hle := v.len
  unfold b_run
  refine b_expr (w_call (w_cons (w_v rfl (w_cons (w_v rfl (w_nil (O.wp_eq (need_bag_eq L v (ok_tupI (n := 0)) hba) ?_)))))))
  refine b_asg ?_
  (repeat' (first | refine w_v rfl ?_ | refine w_int ?_ | refine w_bl ?_ | refine w_non ?_ | refine w_str ?_ | refine w_cons ?_ | refine w_nil ?_ | refine w_bin ?_ | refine w_cmp ?_ | refine w_call ?_ | refine w_bi ?_ | refine w_isi ?_ | refine w_ix ?_ | refine w_and ?_ | refine w_or ?_ | refine w_not ?_ | refine w_chn ?_ | refine w_tup ?_ | refine w_lst ?_ | refine w_ite ?_ | refine w_neg ?_ | refine w_sl ?_ | refine sl_t ?_ | refine sl_n ?_ | refine sl_b ?_ | refine sl_l ?_ | refine w_rev ?_ | refine rv_t ?_ | refine rv_n ?_ | refine rv_l ?_ | refine rv_b ?_ | refine w_onone ?_ | refine w_osome ?_ | refine bw_add ?_ | refine bw_sub ?_ | refine cw_lt ?_ | refine cw_le ?_ | refine cw_gt ?_ | refine cw_ge ?_ | refine cw_eqI ?_ | refine cw_neI ?_ | refine bl_w ?_ | refine if_t ?_ | refine if_f ?_ | refine w_comp ?_ | refine fl_rt ?_ | refine fl_nx ?_ | refine And.intro (by assumption) ?_ | refine And.intro rfl ?_ | refine ⟨_, rfl, ?_⟩ | refine ⟨_, _, rfl, rfl, ?_⟩ | refine ⟨_, rfl, rfl, ?_⟩ | refine ⟨_, _, _, rfl, rfl, rfl, ?_⟩ | refine ⟨_, _, _, rfl, rfl, atD0, ?_⟩ | refine ⟨_, _, _, rfl, rfl, atD1, ?_⟩ | refine ⟨_, _, rfl, rfl, rfl, ?_⟩ | dsimp only))
  rw [show ((es.map exD).length : Int) - 1 = (es.length : Int) - 1 by simp]
  refine b_ss (ss' := [some (.v (bD t es)), some (.v (tupI b)), some (.v d), some (.v (.int ((es.length : Int) - 1))), none, none]) rfl ?_
  have after : ∀ r, d = tupI r → rowB es.length d = true → xB (p.G (n + 6)) X [.for_ .seq [(.v 2)] (.n 4) [
      .ifs (.not (.call 19 [(.v 1), (.ix (.ix (.ix (.v 0) (.int 1)) (.v 4)) (.int 0))])) [.raise 10] [],
      .asg (.n 1) (.call 20 [(.v 1), (.call 14 [(.ix (.ix (.v 0) (.int 1)) (.v 4))])])],
      .ret (.v 1)] [some (.v (bD t es)), some (.v (tupI b)), some (.v d), some (.v (.int ((es.length : Int) - 1))), none, none] h Q := by
    intro r hr hrow
    subst hr
    obtain ⟨r', e1, r40, hri⟩ := row_ints hrow
    have err : r' = r := by
      have : r'.map D.int = r.map D.int := by
        have := e1
        simp only [tupI, D.tup.injEq] at this
        exact this.symm
      exact (List.map_inj_right (fun a b h => by cases h; rfl)).mp this
    subst err
    refine b_for (w_cons (w_v rfl (w_nil ⟨rfl, _, rfl, ?_⟩)))
    refine for_inv (fun j ss h' => (∃ b' x4, ss = [some (.v (bD t es)), some (.v (tupI b')), some (.v (tupI r')), some (.v (.int ((es.length : Int) - 1))), x4, none] ∧ (b'.length : Int) = t ∧ runL es b r' = runL es b' (r'.drop j)) ∧ h' = h) ⟨⟨b, none, rfl, hb, rfl⟩, rfl⟩ (fun j d hd ss h' J => ?_) fun ss h' J => ?_
    · obtain ⟨⟨b', x4, rfl, hb', hrun⟩, rfl⟩ := J
      have hj : ∃ i, r'[j]? = some i ∧ d = .int i := by
        rw [List.getElem?_map, Option.map_eq_some_iff] at hd
        obtain ⟨i, e1, e2⟩ := hd
        exact ⟨i, e1, e2.symm⟩
      obtain ⟨i, hi, rfl⟩ := hj
      obtain ⟨i0, i1⟩ := hri i (List.mem_of_getElem? hi)
      have hil : i.toNat < es.length := by omega
      have e2 : es[i.toNat]? = some es[i.toNat] := List.getElem?_eq_getElem hil
      generalize hex : es[i.toNat] = e at e2
      have ve := v.ex e (List.mem_of_getElem? e2)
      have l1 := ve.l1
      have l2 := ve.l2
      have a1 := atD_get (f := exD) i0 e2
      have dr : r'.drop j = i :: r'.drop (j + 1) := by
        obtain ⟨hlt, hget⟩ := List.getElem?_eq_some_iff.mp hi
        rw [List.drop_eq_getElem_cons hlt, hget]
      rw [dr] at hrun
      simp only [runL, stepL, e2] at hrun
      refine ⟨_, rfl, ?_⟩
      refine b_ifs ?_
      (repeat' (first | refine w_v rfl ?_ | refine w_int ?_ | refine w_bl ?_ | refine w_non ?_ | refine w_str ?_ | refine w_cons ?_ | refine w_nil ?_ | refine w_bin ?_ | refine w_cmp ?_ | refine w_call ?_ | refine w_bi ?_ | refine w_isi ?_ | refine w_ix ?_ | refine w_and ?_ | refine w_or ?_ | refine w_not ?_ | refine w_chn ?_ | refine w_tup ?_ | refine w_lst ?_ | refine w_ite ?_ | refine w_neg ?_ | refine w_sl ?_ | refine sl_t ?_ | refine sl_n ?_ | refine sl_b ?_ | refine sl_l ?_ | refine w_rev ?_ | refine rv_t ?_ | refine rv_n ?_ | refine rv_l ?_ | refine rv_b ?_ | refine w_onone ?_ | refine w_osome ?_ | refine bw_add ?_ | refine bw_sub ?_ | refine cw_lt ?_ | refine cw_le ?_ | refine cw_gt ?_ | refine cw_ge ?_ | refine cw_eqI ?_ | refine cw_neI ?_ | refine bl_w ?_ | refine if_t ?_ | refine if_f ?_ | refine w_comp ?_ | refine fl_rt ?_ | refine fl_nx ?_ | refine And.intro (by assumption) ?_ | refine And.intro rfl ?_ | refine ⟨_, rfl, ?_⟩ | refine ⟨_, _, rfl, rfl, ?_⟩ | refine ⟨_, rfl, rfl, ?_⟩ | refine ⟨_, _, _, rfl, rfl, rfl, ?_⟩ | refine ⟨_, _, _, rfl, rfl, atD0, ?_⟩ | refine ⟨_, _, _, rfl, rfl, atD1, ?_⟩ | refine ⟨_, _, rfl, rfl, rfl, ?_⟩ | dsimp only))
      refine ⟨_, _, _, rfl, rfl, a1, ?_⟩
      (repeat' (first | refine w_v rfl ?_ | refine w_int ?_ | refine w_bl ?_ | refine w_non ?_ | refine w_str ?_ | refine w_cons ?_ | refine w_nil ?_ | refine w_bin ?_ | refine w_cmp ?_ | refine w_call ?_ | refine w_bi ?_ | refine w_isi ?_ | refine w_ix ?_ | refine w_and ?_ | refine w_or ?_ | refine w_not ?_ | refine w_chn ?_ | refine w_tup ?_ | refine w_lst ?_ | refine w_ite ?_ | refine w_neg ?_ | refine w_sl ?_ | refine sl_t ?_ | refine sl_n ?_ | refine sl_b ?_ | refine sl_l ?_ | refine w_rev ?_ | refine rv_t ?_ | refine rv_n ?_ | refine rv_l ?_ | refine rv_b ?_ | refine w_onone ?_ | refine w_osome ?_ | refine bw_add ?_ | refine bw_sub ?_ | refine cw_lt ?_ | refine cw_le ?_ | refine cw_gt ?_ | refine cw_ge ?_ | refine cw_eqI ?_ | refine cw_neI ?_ | refine bl_w ?_ | refine if_t ?_ | refine if_f ?_ | refine w_comp ?_ | refine fl_rt ?_ | refine fl_nx ?_ | refine And.intro (by assumption) ?_ | refine And.intro rfl ?_ | refine ⟨_, rfl, ?_⟩ | refine ⟨_, _, rfl, rfl, ?_⟩ | refine ⟨_, rfl, rfl, ?_⟩ | refine ⟨_, _, _, rfl, rfl, rfl, ?_⟩ | refine ⟨_, _, _, rfl, rfl, atD0, ?_⟩ | refine ⟨_, _, _, rfl, rfl, atD1, ?_⟩ | refine ⟨_, _, rfl, rfl, rfl, ?_⟩ | dsimp only))
      refine O.wp_eq (holds_eq L.h19 (by omega)) ?_
      cases hh : holdsL b' e.1 with
      | false =>
        rw [hh] at hrun
        exact bl_w (bl_w (if_t (b_raise (q2 r' rfl hrow hrun))))
      | true =>
        rw [hh] at hrun
        refine bl_w (bl_w (if_f (b_nil (fl_nx ?_))))
        refine b_asg ?_
        (repeat' (first | refine w_v rfl ?_ | refine w_int ?_ | refine w_bl ?_ | refine w_non ?_ | refine w_str ?_ | refine w_cons ?_ | refine w_nil ?_ | refine w_bin ?_ | refine w_cmp ?_ | refine w_call ?_ | refine w_bi ?_ | refine w_isi ?_ | refine w_ix ?_ | refine w_and ?_ | refine w_or ?_ | refine w_not ?_ | refine w_chn ?_ | refine w_tup ?_ | refine w_lst ?_ | refine w_ite ?_ | refine w_neg ?_ | refine w_sl ?_ | refine sl_t ?_ | refine sl_n ?_ | refine sl_b ?_ | refine sl_l ?_ | refine w_rev ?_ | refine rv_t ?_ | refine rv_n ?_ | refine rv_l ?_ | refine rv_b ?_ | refine w_onone ?_ | refine w_osome ?_ | refine bw_add ?_ | refine bw_sub ?_ | refine cw_lt ?_ | refine cw_le ?_ | refine cw_gt ?_ | refine cw_ge ?_ | refine cw_eqI ?_ | refine cw_neI ?_ | refine bl_w ?_ | refine if_t ?_ | refine if_f ?_ | refine w_comp ?_ | refine fl_rt ?_ | refine fl_nx ?_ | refine And.intro (by assumption) ?_ | refine And.intro rfl ?_ | refine ⟨_, rfl, ?_⟩ | refine ⟨_, _, rfl, rfl, ?_⟩ | refine ⟨_, rfl, rfl, ?_⟩ | refine ⟨_, _, _, rfl, rfl, rfl, ?_⟩ | refine ⟨_, _, _, rfl, rfl, atD0, ?_⟩ | refine ⟨_, _, _, rfl, rfl, atD1, ?_⟩ | refine ⟨_, _, rfl, rfl, rfl, ?_⟩ | dsimp only))
        refine ⟨_, _, _, rfl, rfl, a1, ?_⟩
        (repeat' (first | refine w_v rfl ?_ | refine w_int ?_ | refine w_bl ?_ | refine w_non ?_ | refine w_str ?_ | refine w_cons ?_ | refine w_nil ?_ | refine w_bin ?_ | refine w_cmp ?_ | refine w_call ?_ | refine w_bi ?_ | refine w_isi ?_ | refine w_ix ?_ | refine w_and ?_ | refine w_or ?_ | refine w_not ?_ | refine w_chn ?_ | refine w_tup ?_ | refine w_lst ?_ | refine w_ite ?_ | refine w_neg ?_ | refine w_sl ?_ | refine sl_t ?_ | refine sl_n ?_ | refine sl_b ?_ | refine sl_l ?_ | refine w_rev ?_ | refine rv_t ?_ | refine rv_n ?_ | refine rv_l ?_ | refine rv_b ?_ | refine w_onone ?_ | refine w_osome ?_ | refine bw_add ?_ | refine bw_sub ?_ | refine cw_lt ?_ | refine cw_le ?_ | refine cw_gt ?_ | refine cw_ge ?_ | refine cw_eqI ?_ | refine cw_neI ?_ | refine bl_w ?_ | refine if_t ?_ | refine if_f ?_ | refine w_comp ?_ | refine fl_rt ?_ | refine fl_nx ?_ | refine And.intro (by assumption) ?_ | refine And.intro rfl ?_ | refine ⟨_, rfl, ?_⟩ | refine ⟨_, _, rfl, rfl, ?_⟩ | refine ⟨_, rfl, rfl, ?_⟩ | refine ⟨_, _, _, rfl, rfl, rfl, ?_⟩ | refine ⟨_, _, _, rfl, rfl, atD0, ?_⟩ | refine ⟨_, _, _, rfl, rfl, atD1, ?_⟩ | refine ⟨_, _, rfl, rfl, rfl, ?_⟩ | dsimp only))
        refine O.wp_eq (net_of_eq L.h14 (by omega)) ?_
        (repeat' (first | refine w_v rfl ?_ | refine w_int ?_ | refine w_bl ?_ | refine w_non ?_ | refine w_str ?_ | refine w_cons ?_ | refine w_nil ?_ | refine w_bin ?_ | refine w_cmp ?_ | refine w_call ?_ | refine w_bi ?_ | refine w_isi ?_ | refine w_ix ?_ | refine w_and ?_ | refine w_or ?_ | refine w_not ?_ | refine w_chn ?_ | refine w_tup ?_ | refine w_lst ?_ | refine w_ite ?_ | refine w_neg ?_ | refine w_sl ?_ | refine sl_t ?_ | refine sl_n ?_ | refine sl_b ?_ | refine sl_l ?_ | refine w_rev ?_ | refine rv_t ?_ | refine rv_n ?_ | refine rv_l ?_ | refine rv_b ?_ | refine w_onone ?_ | refine w_osome ?_ | refine bw_add ?_ | refine bw_sub ?_ | refine cw_lt ?_ | refine cw_le ?_ | refine cw_gt ?_ | refine cw_ge ?_ | refine cw_eqI ?_ | refine cw_neI ?_ | refine bl_w ?_ | refine if_t ?_ | refine if_f ?_ | refine w_comp ?_ | refine fl_rt ?_ | refine fl_nx ?_ | refine And.intro (by assumption) ?_ | refine And.intro rfl ?_ | refine ⟨_, rfl, ?_⟩ | refine ⟨_, _, rfl, rfl, ?_⟩ | refine ⟨_, rfl, rfl, ?_⟩ | refine ⟨_, _, _, rfl, rfl, rfl, ?_⟩ | refine ⟨_, _, _, rfl, rfl, atD0, ?_⟩ | refine ⟨_, _, _, rfl, rfl, atD1, ?_⟩ | refine ⟨_, _, rfl, rfl, rfl, ?_⟩ | dsimp only))
        refine O.wp_eq (added_eq L.h20 (by omega)) ?_
        refine ⟨_, _, rfl, rfl, b_nil (fl_nx ⟨⟨addL b' (netL e), some (.v (.int i)), rfl, ?_, by simpa using hrun⟩, rfl⟩)⟩
        rw [addL_len, netL_len]
        omega
    · obtain ⟨⟨b', x4, rfl, hb', hrun⟩, rfl⟩ := J
      rw [List.length_map, List.drop_length] at hrun
      exact b_ret (w_v rfl ⟨_, rfl, q3 r' b' rfl hrow hrun⟩)
  have hn := noObj_of hd
  refine b_ifs ?_
  cases d
  case obj => cases hn
  case tup xs =>
    obtain ⟨m, rfl, hx⟩ := ok_tup hd
    (repeat' (first | refine w_v rfl ?_ | refine w_int ?_ | refine w_bl ?_ | refine w_non ?_ | refine w_str ?_ | refine w_cons ?_ | refine w_nil ?_ | refine w_bin ?_ | refine w_cmp ?_ | refine w_call ?_ | refine w_bi ?_ | refine w_isi ?_ | refine w_ix ?_ | refine w_and ?_ | refine w_or ?_ | refine w_not ?_ | refine w_chn ?_ | refine w_tup ?_ | refine w_lst ?_ | refine w_ite ?_ | refine w_neg ?_ | refine w_sl ?_ | refine sl_t ?_ | refine sl_n ?_ | refine sl_b ?_ | refine sl_l ?_ | refine w_rev ?_ | refine rv_t ?_ | refine rv_n ?_ | refine rv_l ?_ | refine rv_b ?_ | refine w_onone ?_ | refine w_osome ?_ | refine bw_add ?_ | refine bw_sub ?_ | refine cw_lt ?_ | refine cw_le ?_ | refine cw_gt ?_ | refine cw_ge ?_ | refine cw_eqI ?_ | refine cw_neI ?_ | refine bl_w ?_ | refine if_t ?_ | refine if_f ?_ | refine w_comp ?_ | refine fl_rt ?_ | refine fl_nx ?_ | refine And.intro (by assumption) ?_ | refine And.intro rfl ?_ | refine ⟨_, rfl, ?_⟩ | refine ⟨_, _, rfl, rfl, ?_⟩ | refine ⟨_, rfl, rfl, ?_⟩ | refine ⟨_, _, _, rfl, rfl, rfl, ?_⟩ | refine ⟨_, _, _, rfl, rfl, atD0, ?_⟩ | refine ⟨_, _, _, rfl, rfl, atD1, ?_⟩ | refine ⟨_, _, rfl, rfl, rfl, ?_⟩ | dsimp only))
    by_cases h40 : xs.length ≤ 40
    · rw [decide_eq_false (by omega : ¬ (40 : Int) < (xs.length : Nat))]
      (repeat' (first | refine w_v rfl ?_ | refine w_int ?_ | refine w_bl ?_ | refine w_non ?_ | refine w_str ?_ | refine w_cons ?_ | refine w_nil ?_ | refine w_bin ?_ | refine w_cmp ?_ | refine w_call ?_ | refine w_bi ?_ | refine w_isi ?_ | refine w_ix ?_ | refine w_and ?_ | refine w_or ?_ | refine w_not ?_ | refine w_chn ?_ | refine w_tup ?_ | refine w_lst ?_ | refine w_ite ?_ | refine w_neg ?_ | refine w_sl ?_ | refine sl_t ?_ | refine sl_n ?_ | refine sl_b ?_ | refine sl_l ?_ | refine w_rev ?_ | refine rv_t ?_ | refine rv_n ?_ | refine rv_l ?_ | refine rv_b ?_ | refine w_onone ?_ | refine w_osome ?_ | refine bw_add ?_ | refine bw_sub ?_ | refine cw_lt ?_ | refine cw_le ?_ | refine cw_gt ?_ | refine cw_ge ?_ | refine cw_eqI ?_ | refine cw_neI ?_ | refine bl_w ?_ | refine if_t ?_ | refine if_f ?_ | refine w_comp ?_ | refine fl_rt ?_ | refine fl_nx ?_ | refine And.intro (by assumption) ?_ | refine And.intro rfl ?_ | refine ⟨_, rfl, ?_⟩ | refine ⟨_, _, rfl, rfl, ?_⟩ | refine ⟨_, rfl, rfl, ?_⟩ | refine ⟨_, _, _, rfl, rfl, rfl, ?_⟩ | refine ⟨_, _, _, rfl, rfl, atD0, ?_⟩ | refine ⟨_, _, _, rfl, rfl, atD1, ?_⟩ | refine ⟨_, _, rfl, rfl, rfl, ?_⟩ | dsimp only))
      refine c_pure (fun d => .bl (isInt 0 ((es.length : Int) - 1) d)) (fun d hd => ⟨_, rfl, ?_⟩) (by omega) ?_
      · (repeat' (first | refine w_v rfl ?_ | refine w_int ?_ | refine w_bl ?_ | refine w_non ?_ | refine w_str ?_ | refine w_cons ?_ | refine w_nil ?_ | refine w_bin ?_ | refine w_cmp ?_ | refine w_call ?_ | refine w_bi ?_ | refine w_isi ?_ | refine w_ix ?_ | refine w_and ?_ | refine w_or ?_ | refine w_not ?_ | refine w_chn ?_ | refine w_tup ?_ | refine w_lst ?_ | refine w_ite ?_ | refine w_neg ?_ | refine w_sl ?_ | refine sl_t ?_ | refine sl_n ?_ | refine sl_b ?_ | refine sl_l ?_ | refine w_rev ?_ | refine rv_t ?_ | refine rv_n ?_ | refine rv_l ?_ | refine rv_b ?_ | refine w_onone ?_ | refine w_osome ?_ | refine bw_add ?_ | refine bw_sub ?_ | refine cw_lt ?_ | refine cw_le ?_ | refine cw_gt ?_ | refine cw_ge ?_ | refine cw_eqI ?_ | refine cw_neI ?_ | refine bl_w ?_ | refine if_t ?_ | refine if_f ?_ | refine w_comp ?_ | refine fl_rt ?_ | refine fl_nx ?_ | refine And.intro (by assumption) ?_ | refine And.intro rfl ?_ | refine ⟨_, rfl, ?_⟩ | refine ⟨_, _, rfl, rfl, ?_⟩ | refine ⟨_, rfl, rfl, ?_⟩ | refine ⟨_, _, _, rfl, rfl, rfl, ?_⟩ | refine ⟨_, _, _, rfl, rfl, atD0, ?_⟩ | refine ⟨_, _, _, rfl, rfl, atD1, ?_⟩ | refine ⟨_, _, rfl, rfl, rfl, ?_⟩ | dsimp only))
        exact O.wp_eq (is_integer_eq L.h1 (noObj_of (hx d hd))) ⟨rfl, rfl⟩
      · refine w_nil (bi_allL bls_map ?_)
        have e : (xs.map (isInt 0 ((es.length : Int) - 1))).all id = xs.all (isInt 0 ((es.length : Int) - 1)) := by simp [List.all_map, Function.comp_def]
        rw [e]
        cases ha : xs.all (isInt 0 ((es.length : Int) - 1)) with
        | false => exact bl_w (bl_w (if_t (b_raise (q1 (by simp [rowB, ha])))))
        | true =>
          have hr : rowB es.length (.tup xs) = true := by simp [rowB, ha, h40]
          obtain ⟨r, e1, _⟩ := row_ints hr
          exact bl_w (bl_w (if_f (b_nil (fl_nx (after r e1 hr)))))
    · rw [decide_eq_true (by omega : (40 : Int) < (xs.length : Nat))]
      exact if_t (bl_w (if_t (b_raise (q1 (by simp [rowB, h40])))))
  all_goals
    (repeat' (first | refine w_v rfl ?_ | refine w_int ?_ | refine w_bl ?_ | refine w_non ?_ | refine w_str ?_ | refine w_cons ?_ | refine w_nil ?_ | refine w_bin ?_ | refine w_cmp ?_ | refine w_call ?_ | refine w_bi ?_ | refine w_isi ?_ | refine w_ix ?_ | refine w_and ?_ | refine w_or ?_ | refine w_not ?_ | refine w_chn ?_ | refine w_tup ?_ | refine w_lst ?_ | refine w_ite ?_ | refine w_neg ?_ | refine w_sl ?_ | refine sl_t ?_ | refine sl_n ?_ | refine sl_b ?_ | refine sl_l ?_ | refine w_rev ?_ | refine rv_t ?_ | refine rv_n ?_ | refine rv_l ?_ | refine rv_b ?_ | refine w_onone ?_ | refine w_osome ?_ | refine bw_add ?_ | refine bw_sub ?_ | refine cw_lt ?_ | refine cw_le ?_ | refine cw_gt ?_ | refine cw_ge ?_ | refine cw_eqI ?_ | refine cw_neI ?_ | refine bl_w ?_ | refine if_t ?_ | refine if_f ?_ | refine w_comp ?_ | refine fl_rt ?_ | refine fl_nx ?_ | refine And.intro (by assumption) ?_ | refine And.intro rfl ?_ | refine ⟨_, rfl, ?_⟩ | refine ⟨_, _, rfl, rfl, ?_⟩ | refine ⟨_, rfl, rfl, ?_⟩ | refine ⟨_, _, _, rfl, rfl, rfl, ?_⟩ | refine ⟨_, _, _, rfl, rfl, atD0, ?_⟩ | refine ⟨_, _, _, rfl, rfl, atD1, ?_⟩ | refine ⟨_, _, rfl, rfl, rfl, ?_⟩ | dsimp only))
    exact b_raise (q1 rfl)
def numsD : D → List Int
  | .tup xs => (ints? xs).getD []
  | _ => []
theorem numsD_tupI {b : List Int} : numsD (tupI b) = b := by simp [numsD, tupI, ints_map]
/-- what the law's run yields -/
def runD (t : Int) (es : List Ex) (bag row : D) : D :=
  if areNum t 0 1000000 bag then
    if rowB es.length row then (match runL es (numsD bag) (numsD row) with
      | some b => tupI b
      | none => raisedD 10)
    else raisedD 2
  else raisedD 1
theorem law_run_eq {p : Pg} (L : PBag p) (h24 : p.Pt 24 = some f_law_run) (hw : ∀ c ∈ [0, 1, 2, 10], p.wh c = some (raisedD c)) {n m : Nat} {t : Int} {es : List Ex} {bag row : D} {h : MH} (v : BV t es) (hb : bag.okN m = true) (hr : row.okN m = true) :
    p.c (n + 8) 24 [.v (bD t es), .v bag, .v row] h = .ok (.v (runD t es bag row)) h := by
  refine O.eq_of (Pg.call_wp h24 rfl ?_)
  unfold f_law_run b_law_run
  refine b_tryW (by show (3 : Nat) < 4; decide) ?_
  refine w_callX (w_cons (w_v rfl (w_cons (w_v rfl (w_cons (w_v rfl (w_nil ?_)))))))
  refine Pg.call_wpX L.h21 rfl ?_
  have ex : ∀ c ∈ [0, 1, 2, 10], runD t es bag row = raisedD c → ∃ d, (p.G (n + 7)).wh c = some d ∧ FlW (fun _ h' => h'.length = h.length ∧ R.v .non = .v (.bl false) ∧ h' = h) (fun r h' => h'.length = h.length ∧ r = .v (runD t es bag row) ∧ h' = h) (.rt (.v d)) h := fun c hc e => ⟨raisedD c, hw c hc, rfl, by rw [e], rfl⟩
  cases ha : areNum t 0 1000000 bag with
  | false =>
    unfold f_run b_run
    refine b_expr (w_callX (w_cons (w_v rfl (w_cons (w_v rfl (w_nil (O.wpX_exc (need_bag_ex L v hb ha) ⟨rfl, ?_⟩)))))))
    exact ⟨raisedD 1, hw 1 (by simp), rfl, by simp [runD, ha], rfl⟩
  | true =>
    obtain ⟨b, rfl, hbl, _⟩ := num_ints ha
    refine run_body L v hbl ha hr (fun q => ?_) (fun r e q1 q2 => ?_) (fun r b' e q1 q2 => ?_)
    · exact ⟨rfl, raisedD 2, hw 2 (by simp), rfl, by simp [runD, ha, q], rfl⟩
    · subst e
      refine ⟨rfl, raisedD 10, hw 10 (by simp), rfl, ?_, rfl⟩
      have e1 : numsD (.tup (b.map .int)) = b := numsD_tupI
      simp [runD, ha, q1, e1, numsD_tupI, q2]
    · subst e
      refine ⟨rfl, _, rfl, rfl, ?_, rfl⟩
      have e1 : numsD (.tup (b.map .int)) = b := numsD_tupI
      simp [runD, ha, q1, e1, numsD_tupI, q2]
theorem law_run_ex0 {p : Pg} (L : PBag p) (h24 : p.Pt 24 = some f_law_run) (hw : ∀ c ∈ [0, 1, 2, 10], p.wh c = some (raisedD c)) {n m : Nat} {b bag row : D} {h : MH} (hb : b.okN m = true) (hs : standsD b = false) :
    p.c (n + 8) 24 [.v b, .v bag, .v row] h = .ok (.v (raisedD 0)) h := by
  refine O.eq_of (Pg.call_wp h24 rfl ?_)
  unfold f_law_run b_law_run
  refine b_tryW (by show (3 : Nat) < 4; decide) ?_
  refine w_callX (w_cons (w_v rfl (w_cons (w_v rfl (w_cons (w_v rfl (w_nil ?_)))))))
  refine Pg.call_wpX L.h21 rfl ?_
  unfold f_run b_run
  refine b_expr (w_callX (w_cons (w_v rfl (w_cons (w_v rfl (w_nil (O.wpX_exc (need_bag_ex0 L hb hs) ⟨rfl, ?_⟩)))))))
  exact ⟨raisedD 0, hw 0 (by simp), rfl, rfl, rfl⟩
/-! ### the law's own bags behind rows -/
def tri : D → D
  | .tup [.int a, .int b, .int c] => .int (a - b + c)
  | _ => .non
theorem map_tri : ∀ {b x y : List Int}, (((b.map D.int).zip ((x.map D.int).zip (y.map D.int))).map fun p => D.tup [p.1, p.2.1, p.2.2]).map tri = (addL b (List.zipWith (fun a c => c - a) x y)).map D.int
  | [], _, _ => rfl
  | _ :: _, [], _ => rfl
  | _ :: _, _ :: _, [] => rfl
  | a :: b, x :: xs, y :: ys => by
    simp only [List.map_cons, List.zip_cons_cons, tri]
    rw [map_tri (b := b) (x := xs) (y := ys)]
    simp only [addL, List.zipWith_cons_cons, List.map_cons]
    congr 2
    omega
theorem law_behind_eq {p : Pg} (h23 : p.Pt 23 = some f_law_behind) {n : Nat} {t : Int} {es : List Ex} {b r : List Int} {h : MH} (v : BV t es) (hb : (b.length : Int) = t) (hri : ∀ i ∈ r, 0 ≤ i ∧ i ≤ (es.length : Int) - 1) :
    p.c (n + 1) 23 [.v (bD t es), .v (tupI b), .v (tupI r)] h = .ok (.v (match runL es b r with | some b' => tupI b' | none => .non)) h := by
  have t4 := v.t4
  refine O.eq_of (Pg.call_wp h23 rfl ?_)
  unfold f_law_behind b_law_behind
  refine b_for (w_cons (w_v rfl (w_nil ⟨rfl, _, rfl, ?_⟩)))
  refine for_inv (fun j ss h' => (∃ b' x3 x4 x5, ss = [some (.v (bD t es)), some (.v (tupI b')), some (.v (tupI r)), x3, x4, x5, none, none, none] ∧ (b'.length : Int) = t ∧ runL es b r = runL es b' (r.drop j)) ∧ h' = h) ⟨⟨b, none, none, none, rfl, hb, rfl⟩, rfl⟩ (fun j d hd ss h' J => ?_) fun ss h' J => ?_
  · obtain ⟨⟨b', x3, x4, x5, rfl, hb', hrun⟩, rfl⟩ := J
    have hj : ∃ i, r[j]? = some i ∧ d = .int i := by
      rw [List.getElem?_map, Option.map_eq_some_iff] at hd
      obtain ⟨i, e1, e2⟩ := hd
      exact ⟨i, e1, e2.symm⟩
    obtain ⟨i, hi, rfl⟩ := hj
    obtain ⟨i0, i1⟩ := hri i (List.mem_of_getElem? hi)
    have hil : i.toNat < es.length := by omega
    have e2 : es[i.toNat]? = some es[i.toNat] := List.getElem?_eq_getElem hil
    generalize hex : es[i.toNat] = e at e2
    have ve := v.ex e (List.mem_of_getElem? e2)
    have l1 := ve.l1
    have l2 := ve.l2
    have a1 := atD_get (f := exD) i0 e2
    have dr : r.drop j = i :: r.drop (j + 1) := by
      obtain ⟨hlt, hget⟩ := List.getElem?_eq_some_iff.mp hi
      rw [List.drop_eq_getElem_cons hlt, hget]
    rw [dr] at hrun
    simp only [runL, stepL, e2] at hrun
    refine ⟨_, rfl, ?_⟩
    refine b_asg ?_
    (repeat' (first | refine w_v rfl ?_ | refine w_int ?_ | refine w_bl ?_ | refine w_non ?_ | refine w_str ?_ | refine w_cons ?_ | refine w_nil ?_ | refine w_bin ?_ | refine w_cmp ?_ | refine w_call ?_ | refine w_bi ?_ | refine w_isi ?_ | refine w_ix ?_ | refine w_and ?_ | refine w_or ?_ | refine w_not ?_ | refine w_chn ?_ | refine w_tup ?_ | refine w_lst ?_ | refine w_ite ?_ | refine w_neg ?_ | refine w_sl ?_ | refine sl_t ?_ | refine sl_n ?_ | refine sl_b ?_ | refine sl_l ?_ | refine w_rev ?_ | refine rv_t ?_ | refine rv_n ?_ | refine rv_l ?_ | refine rv_b ?_ | refine w_onone ?_ | refine w_osome ?_ | refine bw_add ?_ | refine bw_sub ?_ | refine cw_lt ?_ | refine cw_le ?_ | refine cw_gt ?_ | refine cw_ge ?_ | refine cw_eqI ?_ | refine cw_neI ?_ | refine bl_w ?_ | refine if_t ?_ | refine if_f ?_ | refine w_comp ?_ | refine fl_rt ?_ | refine fl_nx ?_ | refine And.intro (by assumption) ?_ | refine And.intro rfl ?_ | refine ⟨_, rfl, ?_⟩ | refine ⟨_, _, rfl, rfl, ?_⟩ | refine ⟨_, rfl, rfl, ?_⟩ | refine ⟨_, _, _, rfl, rfl, rfl, ?_⟩ | refine ⟨_, _, _, rfl, rfl, atD0, ?_⟩ | refine ⟨_, _, _, rfl, rfl, atD1, ?_⟩ | refine ⟨_, _, rfl, rfl, rfl, ?_⟩ | dsimp only))
    refine ⟨_, _, _, rfl, rfl, a1, ?_⟩
    refine ⟨_, _, rfl, rfl, ?_⟩
    refine b_ss (ss' := [some (.v (bD t es)), some (.v (tupI b')), some (.v (tupI r)), some (.v (.int i)), some (.v (tupI e.1)), some (.v (tupI e.2)), none, none, none]) rfl ?_
    refine b_ifs ?_
    unfold tupI
    (repeat' (first | refine w_v rfl ?_ | refine w_int ?_ | refine w_bl ?_ | refine w_non ?_ | refine w_str ?_ | refine w_cons ?_ | refine w_nil ?_ | refine w_bin ?_ | refine w_cmp ?_ | refine w_call ?_ | refine w_bi ?_ | refine w_isi ?_ | refine w_ix ?_ | refine w_and ?_ | refine w_or ?_ | refine w_not ?_ | refine w_chn ?_ | refine w_tup ?_ | refine w_lst ?_ | refine w_ite ?_ | refine w_neg ?_ | refine w_sl ?_ | refine sl_t ?_ | refine sl_n ?_ | refine sl_b ?_ | refine sl_l ?_ | refine w_rev ?_ | refine rv_t ?_ | refine rv_n ?_ | refine rv_l ?_ | refine rv_b ?_ | refine w_onone ?_ | refine w_osome ?_ | refine bw_add ?_ | refine bw_sub ?_ | refine cw_lt ?_ | refine cw_le ?_ | refine cw_gt ?_ | refine cw_ge ?_ | refine cw_eqI ?_ | refine cw_neI ?_ | refine bl_w ?_ | refine if_t ?_ | refine if_f ?_ | refine w_comp ?_ | refine fl_rt ?_ | refine fl_nx ?_ | refine And.intro (by assumption) ?_ | refine And.intro rfl ?_ | refine ⟨_, rfl, ?_⟩ | refine ⟨_, _, rfl, rfl, ?_⟩ | refine ⟨_, rfl, rfl, ?_⟩ | refine ⟨_, _, _, rfl, rfl, rfl, ?_⟩ | refine ⟨_, _, _, rfl, rfl, atD0, ?_⟩ | refine ⟨_, _, _, rfl, rfl, atD1, ?_⟩ | refine ⟨_, _, rfl, rfl, rfl, ?_⟩ | dsimp only))
    refine c_pure geP (fun d hd => ?_) (by simp; omega) ?_
    · obtain ⟨x, y, rfl⟩ := mem_zip2 hd
      refine ⟨_, rfl, ?_⟩
      (repeat' (first | refine w_v rfl ?_ | refine w_int ?_ | refine w_bl ?_ | refine w_non ?_ | refine w_str ?_ | refine w_cons ?_ | refine w_nil ?_ | refine w_bin ?_ | refine w_cmp ?_ | refine w_call ?_ | refine w_bi ?_ | refine w_isi ?_ | refine w_ix ?_ | refine w_and ?_ | refine w_or ?_ | refine w_not ?_ | refine w_chn ?_ | refine w_tup ?_ | refine w_lst ?_ | refine w_ite ?_ | refine w_neg ?_ | refine w_sl ?_ | refine sl_t ?_ | refine sl_n ?_ | refine sl_b ?_ | refine sl_l ?_ | refine w_rev ?_ | refine rv_t ?_ | refine rv_n ?_ | refine rv_l ?_ | refine rv_b ?_ | refine w_onone ?_ | refine w_osome ?_ | refine bw_add ?_ | refine bw_sub ?_ | refine cw_lt ?_ | refine cw_le ?_ | refine cw_gt ?_ | refine cw_ge ?_ | refine cw_eqI ?_ | refine cw_neI ?_ | refine bl_w ?_ | refine if_t ?_ | refine if_f ?_ | refine w_comp ?_ | refine fl_rt ?_ | refine fl_nx ?_ | refine And.intro (by assumption) ?_ | refine And.intro rfl ?_ | refine ⟨_, rfl, ?_⟩ | refine ⟨_, _, rfl, rfl, ?_⟩ | refine ⟨_, rfl, rfl, ?_⟩ | refine ⟨_, _, _, rfl, rfl, rfl, ?_⟩ | refine ⟨_, _, _, rfl, rfl, atD0, ?_⟩ | refine ⟨_, _, _, rfl, rfl, atD1, ?_⟩ | refine ⟨_, _, rfl, rfl, rfl, ?_⟩ | dsimp only))
    · refine w_nil (bi_allL bls_geP ?_)
      have eh : ((b'.zip e.1).map fun p => decide (p.2 ≤ p.1)).all id = holdsL b' e.1 := by simp [holdsL, List.all_map, Function.comp_def]
      rw [eh]
      cases hh : holdsL b' e.1 with
      | false =>
        rw [hh] at hrun
        refine bl_w (bl_w (if_t (b_ret (w_non ⟨_, rfl, ?_⟩))))
        have : runL es b r = none := hrun
        exact ⟨rfl, by rw [this], rfl⟩
      | true =>
        rw [hh] at hrun
        refine bl_w (bl_w (if_f (b_nil (fl_nx ?_))))
        refine b_asg ?_
        (repeat' (first | refine w_v rfl ?_ | refine w_int ?_ | refine w_bl ?_ | refine w_non ?_ | refine w_str ?_ | refine w_cons ?_ | refine w_nil ?_ | refine w_bin ?_ | refine w_cmp ?_ | refine w_call ?_ | refine w_bi ?_ | refine w_isi ?_ | refine w_ix ?_ | refine w_and ?_ | refine w_or ?_ | refine w_not ?_ | refine w_chn ?_ | refine w_tup ?_ | refine w_lst ?_ | refine w_ite ?_ | refine w_neg ?_ | refine w_sl ?_ | refine sl_t ?_ | refine sl_n ?_ | refine sl_b ?_ | refine sl_l ?_ | refine w_rev ?_ | refine rv_t ?_ | refine rv_n ?_ | refine rv_l ?_ | refine rv_b ?_ | refine w_onone ?_ | refine w_osome ?_ | refine bw_add ?_ | refine bw_sub ?_ | refine cw_lt ?_ | refine cw_le ?_ | refine cw_gt ?_ | refine cw_ge ?_ | refine cw_eqI ?_ | refine cw_neI ?_ | refine bl_w ?_ | refine if_t ?_ | refine if_f ?_ | refine w_comp ?_ | refine fl_rt ?_ | refine fl_nx ?_ | refine And.intro (by assumption) ?_ | refine And.intro rfl ?_ | refine ⟨_, rfl, ?_⟩ | refine ⟨_, _, rfl, rfl, ?_⟩ | refine ⟨_, rfl, rfl, ?_⟩ | refine ⟨_, _, _, rfl, rfl, rfl, ?_⟩ | refine ⟨_, _, _, rfl, rfl, atD0, ?_⟩ | refine ⟨_, _, _, rfl, rfl, atD1, ?_⟩ | refine ⟨_, _, rfl, rfl, rfl, ?_⟩ | dsimp only))
        refine c_pure tri (fun d hd => ?_) (by simp; omega) ?_
        · simp only [List.mem_map] at hd
          obtain ⟨⟨x, y, w⟩, hxy, rfl⟩ := hd
          have hx := (List.of_mem_zip hxy).1
          have hy := (List.of_mem_zip hxy).2
          have hy1 := (List.of_mem_zip hy).1
          have hy2 := (List.of_mem_zip hy).2
          simp only [List.mem_map] at hx hy1 hy2
          obtain ⟨a, _, rfl⟩ := hx
          obtain ⟨c, _, rfl⟩ := hy1
          obtain ⟨f, _, rfl⟩ := hy2
          refine ⟨_, rfl, ?_⟩
          (repeat' (first | refine w_v rfl ?_ | refine w_int ?_ | refine w_bl ?_ | refine w_non ?_ | refine w_str ?_ | refine w_cons ?_ | refine w_nil ?_ | refine w_bin ?_ | refine w_cmp ?_ | refine w_call ?_ | refine w_bi ?_ | refine w_isi ?_ | refine w_ix ?_ | refine w_and ?_ | refine w_or ?_ | refine w_not ?_ | refine w_chn ?_ | refine w_tup ?_ | refine w_lst ?_ | refine w_ite ?_ | refine w_neg ?_ | refine w_sl ?_ | refine sl_t ?_ | refine sl_n ?_ | refine sl_b ?_ | refine sl_l ?_ | refine w_rev ?_ | refine rv_t ?_ | refine rv_n ?_ | refine rv_l ?_ | refine rv_b ?_ | refine w_onone ?_ | refine w_osome ?_ | refine bw_add ?_ | refine bw_sub ?_ | refine cw_lt ?_ | refine cw_le ?_ | refine cw_gt ?_ | refine cw_ge ?_ | refine cw_eqI ?_ | refine cw_neI ?_ | refine bl_w ?_ | refine if_t ?_ | refine if_f ?_ | refine w_comp ?_ | refine fl_rt ?_ | refine fl_nx ?_ | refine And.intro (by assumption) ?_ | refine And.intro rfl ?_ | refine ⟨_, rfl, ?_⟩ | refine ⟨_, _, rfl, rfl, ?_⟩ | refine ⟨_, rfl, rfl, ?_⟩ | refine ⟨_, _, _, rfl, rfl, rfl, ?_⟩ | refine ⟨_, _, _, rfl, rfl, atD0, ?_⟩ | refine ⟨_, _, _, rfl, rfl, atD1, ?_⟩ | refine ⟨_, _, rfl, rfl, rfl, ?_⟩ | dsimp only))
        · rw [map_tri]
          refine w_nil ⟨_, rfl, _, _, rfl, rfl, b_nil (fl_nx ⟨⟨addL b' (netL e), _, _, _, rfl, ?_, by simpa using hrun⟩, rfl⟩)⟩
          rw [addL_len, netL_len]
          omega
  · obtain ⟨⟨b', x3, x4, x5, rfl, hb', hrun⟩, rfl⟩ := J
    rw [List.length_map, List.drop_length] at hrun
    have hrun' : runL es b r = some b' := hrun
    exact b_ret (w_v rfl ⟨_, rfl, rfl, by rw [hrun'], rfl⟩)
end GV
set_option Elab.async false
set_option linter.all false
set_option maxRecDepth 100000
set_option maxHeartbeats 4000000
/-! GA3: acts. -/
namespace GV
open PySem L2
def b_rises : List S := [
  .ret (.bi .all [(.comp .zip [(.v 0), (.sl (.v 0) (some (.int 1)) none)] (.t [(.n 1), (.n 2)]) [1, 2] [] (.cmp .lt (.v 1) (.v 2)))])]
def n_rises : List Str := ["some", "one", "other"]
def f_rises : FD := ⟨3, 1, b_rises⟩
def b_is_act : List S := [
  .ifs (.or (.not (.isi (.v 1) .tuple)) (.or (.not (.chn .le .le (.int 2) (.bi .len [(.v 1)]) (.int 4))) (.not (.isi (.ix (.v 1) (.int 0)) .str)))) [
    .ret (.bl false)] [],
  .ifs (.not (.call 1 [(.ix (.v 1) (.int 1)), (.int 0), (.bin .sub (.bi .len [(.ix (.v 0) (.int 1))]) (.int 1))])) [
    .ret (.bl false)] [],
  .ifs (.cmp .eq (.ix (.v 1) (.int 0)) (.str "bar")) [
    .ret (.cmp .eq (.bi .len [(.v 1)]) (.int 2))] [],
  .ifs (.or (.cmp .ne (.ix (.v 1) (.int 0)) (.str "fee")) (.or (.cmp .ne (.bi .len [(.v 1)]) (.int 4)) (.not (.call 1 [(.ix (.v 1) (.int 2)), (.int 0), (.bin .sub (.ix (.v 0) (.int 0)) (.int 1))])))) [
    .ret (.bl false)] [],
  .ret (.call 1 [(.ix (.v 1) (.int 3)), (.int 1), (.ix (.ix (.ix (.ix (.v 0) (.int 1)) (.ix (.v 1) (.int 1))) (.int 1)) (.ix (.v 1) (.int 2)))])]
def n_is_act : List Str := ["board", "value"]
def f_is_act : FD := ⟨2, 2, b_is_act⟩
def b_acts_stand : List S := [
  .ifs (.or (.not (.isi (.v 1) .tuple)) (.or (.cmp .gt (.bi .len [(.v 1)]) (.int 10)) (.not (.bi .all [(.comp .seq [(.v 1)] (.n 2) [2] [] (.call 71 [(.v 0), (.v 2)]))])))) [
    .ret (.bl false)] [],
  .ret (.call 70 [(.v 1)])]
def n_acts_stand : List Str := ["board", "value", "one"]
def f_acts_stand : FD := ⟨3, 2, b_acts_stand⟩
def b_are_acts : List S := [
  .expr (.call 13 [(.v 0)]),
  .ret (.call 105 [(.v 0), (.v 1)])]
def n_are_acts : List Str := ["board", "value"]
def f_are_acts : FD := ⟨2, 2, b_are_acts⟩
def b_law_all_acts : List S := [
  .asgO 1 (.lst []),
  .for_ .enum [(.ix (.v 0) (.int 1))] (.t [(.n 2), (.n 3)]) [
    .app 1 (.tup [(.str "bar"), (.v 2)]),
    .for_ .enum [(.ix (.v 3) (.int 1))] (.t [(.n 4), (.n 5)]) [
      .ext 1 (.comp .rng [(.int 1), (.bin .add (.v 5) (.int 1))] (.n 6) [6] [] (.tup [(.str "fee"), (.v 2), (.v 4), (.v 6)]))]],
  .ret (.bi .sorted [(.v 1)])]
def n_law_all_acts : List Str := ["board", "found", "number", "exchange", "thing", "count", "amount"]
def f_law_all_acts : FD := ⟨7, 1, b_law_all_acts⟩
def b_law_some_of : List S := [
  .par2 true true 4 5 (.bi .list [(.v 2)]) (.lst []),
  .while_ (.and (.cmp .ne (.v 4) (.lst [])) (.cmp .lt (.bi .len [(.v 5)]) (.v 3))) [
    .appPop 5 4 (.call 8 [(.v 0), (.v 1), (.bi .len [(.v 4)])])],
  .ret (.bi .tuple [(.bi .sorted [(.v 5)])])]
def n_law_some_of : List Str := ["script", "state", "some", "count", "left", "found"]
def f_law_some_of : FD := ⟨6, 4, b_law_some_of⟩
def b_law_some_acts : List S := [
  .asg (.n 4) (.call 62 [(.v 2)]),
  .ret (.ite (.cmp .ne (.v 4) (.lst [])) (.call 61 [(.v 0), (.v 1), (.v 4), (.call 8 [(.v 0), (.v 1), (.bin .add (.v 3) (.int 1))])]) (.tup []))]
def n_law_some_acts : List Str := ["script", "state", "board", "most", "some"]
def f_law_some_acts : FD := ⟨5, 4, b_law_some_acts⟩
def b_offers_stand : List S := [
  .ifs (.or (.not (.isi (.v 1) .tuple)) (.cmp .gt (.bi .len [(.v 1)]) (.int 7))) [
    .ret (.bl false)] [],
  .for_ .seq [(.v 1)] (.n 2) [
    .ifs (.or (.not (.isi (.v 2) .tuple)) (.or (.cmp .ne (.bi .len [(.v 2)]) (.int 2)) (.or (.not (.call 71 [(.v 0), (.ix (.v 2) (.int 0))])) (.not (.call 1 [(.ix (.v 2) (.int 1)), (.int 1), (.int 9)]))))) [
      .ret (.bl false)] []],
  .ret (.call 70 [(.comp .seq [(.v 1)] (.n 2) [2] [] (.ix (.v 2) (.int 0)))])]
def n_offers_stand : List Str := ["board", "value", "one"]
def f_offers_stand : FD := ⟨3, 2, b_offers_stand⟩
def b_are_offers : List S := [
  .expr (.call 13 [(.v 0)]),
  .ret (.call 73 [(.v 0), (.v 1)])]
def n_are_offers : List Str := ["board", "value"]
def f_are_offers : FD := ⟨2, 2, b_are_offers⟩
def barD (n : Int) : D := .tup [.str "bar", .int n]
def feeD (n t a : Int) : D := .tup [.str "fee", .int n, .int t, .int a]
inductive ActL : D → Prop
  | bar (n : Int) : ActL (barD n)
  | fee (n t a : Int) : ActL (feeD n t a)
theorem strBar : strOkB "bar" = true := by decide +kernel
theorem strFee : strOkB "fee" = true := by decide +kernel
theorem ActL.ok {d : D} (h : ActL d) {k : Nat} : d.okN (k + 1) = true := by
  cases h <;> simp [barD, feeD, D.okN, strBar, strFee]
theorem ActL.alike {d e : D} (h : ActL d) (h' : ActL e) : PySem.W.alike d.py e.py = true := by
  cases h <;> cases h' <;> simp [barD, feeD, D.py, D.pyL, PySem.W.alike, PySem.W.alikeAll]
def ltA (x y : D) : Bool := PySem.W.dataLt x.py y.py
theorem ltA_trans {x y z : D} (h1 : ltA x y = true) (h2 : ltA y z = true) : ltA x z = true := PyProof.Rows.lex_trans (O := PyProof.Rows.itemOrd) _ _ _ h1 h2
theorem ltA_irrefl {x : D} : ltA x x = false := PyProof.Rows.lex_irrefl (O := PyProof.Rows.itemOrd) _
theorem strNe : (("bar" : Str) == ("fee" : Str)) = false := by decide +kernel
theorem strNe' : (("fee" : Str) == ("bar" : Str)) = false := by decide +kernel
theorem ltA_total {x y : D} (hx : ActL x) (hy : ActL y) (h1 : ltA x y = false) (h2 : ltA y x = false) : x = y := by
  have ek : PySem.W.keyToks x.py = PySem.W.keyToks y.py := PyProof.Rows.lex_total (O := PyProof.Rows.itemOrd) _ _ h1 h2
  have al := hx.alike hy
  have ev : PyData.eqv x.py y.py = true := by
    cases e : PyData.eqv x.py y.py with
    | true => rfl
    | false =>
      have a := (PySem.W.toks_eqv x.py y.py al).2 e [] [.inl 0]
      rw [ek, PySem.W.lex_pre, PyProof.Rows.lex_irrefl] at a
      cases a
  rw [eqv_py x y 5 5 hx.ok hy.ok] at ev
  cases hx with
  | bar n => cases hy with
    | bar m => simp [barD, D.eqb, D.eqbL] at ev; rw [ev]
    | fee m u b => simp [barD, feeD, D.eqb, D.eqbL] at ev
  | fee n t a => cases hy with
    | bar m => simp [barD, feeD, D.eqb, D.eqbL] at ev
    | fee m u b => simp [feeD, D.eqb, D.eqbL] at ev; rw [ev.1, ev.2.1, ev.2.2]
def sortA (xs : List D) : List D := xs.mergeSort (PySem.W.dataLe false D.py)
theorem sortA_perm (xs : List D) : (sortA xs).Perm xs := List.mergeSort_perm _ _
theorem sortA_mem {xs : List D} {x : D} : x ∈ sortA xs ↔ x ∈ xs := (sortA_perm xs).mem_iff
abbrev Srt (xs : List D) : Prop := xs.Pairwise fun a b => ltA a b = true
theorem sortA_lt {xs : List D} (h : ∀ x ∈ xs, ActL x) (nd : xs.Nodup) : Srt (sortA xs) := by
  have p : (sortA xs).Pairwise (fun a b => PySem.W.dataLe false D.py a b = true) := PySem.W.sort_pairwise (PySem.W.sortLe_total (PyProof.Rows.listOrd PyProof.Rows.itemOrd) false fun d => PySem.W.keyToks (D.py d)) xs
  have nd2 : (sortA xs).Nodup := (sortA_perm xs).nodup_iff.mpr nd
  refine List.Pairwise.imp_of_mem ?_ (p.and nd2)
  intro a b ha hb hab
  obtain ⟨h1, h2⟩ := hab
  cases e : ltA a b with
  | true => rfl
  | false =>
    have h1' : ltA b a = false := by
      have : (!PySem.W.dataLt b.py a.py) = true := h1
      simpa [ltA] using this
    exact absurd (ltA_total (h a (sortA_mem.mp ha)) (h b (sortA_mem.mp hb)) e h1') h2
theorem srtOk_acts {xs : List D} (h : ∀ x ∈ xs, ActL x) (hl : xs.length ≤ 1000000) : srtOk xs = true := by
  unfold srtOk
  simp only [Bool.and_eq_true, Bool.or_eq_true, List.all_eq_true]
  refine ⟨⟨⟨fun x hx => (h x hx).ok, fun x hx y hy => (h x hx).alike (h y hy)⟩, .inl fun x hx => ?_⟩, small_of hl⟩
  cases h x hx <;> rfl
theorem cw_ltA {x y : D} (hx : ActL x) (hy : ActL y) {C : Bool → Prop} (q : C (ltA x y)) : CmpW .lt (.v x) (.v y) C := by
  have e : D.ltb x y = some (ltA x y) := by
    unfold D.ltb
    rw [hx.ok, hy.ok, hx.alike hy]
    rfl
  cases hx with
  | bar n => cases hy with
    | bar m => exact ⟨_, e, q⟩
    | fee m u b => exact ⟨_, e, q⟩
  | fee n t a => cases hy with
    | bar m => exact ⟨_, e, q⟩
    | fee m u b => exact ⟨_, e, q⟩
theorem bi_all {Q : R → Prop} {srt : List D → Option (List D)} {xs : List D} {bs : List Bool} {h : MH} (e : bls? xs = some bs) (q : Q (.v (.bl (bs.all id)))) : BiW srt .all [.nl xs] h Q := ⟨_, by simp [biR, R.rd, e], q⟩
theorem bi_any {Q : R → Prop} {srt : List D → Option (List D)} {xs : List D} {bs : List Bool} {h : MH} (e : bls? xs = some bs) (q : Q (.v (.bl (bs.any id)))) : BiW srt .any [.nl xs] h Q := ⟨_, by simp [biR, R.rd, e], q⟩
/-! ### rises -/
def risD (xs : List D) : Bool := (xs.zip xs.tail).all fun p => ltA p.1 p.2
theorem cut_tail {xs : List D} : cutD xs (some 1) none = xs.tail := by
  cases xs with
  | nil => rfl
  | cons x xs =>
    rw [cut_from (by decide) (by simp only [List.length_cons]; omega)]
    rfl
theorem risD_of {xs : List D} (h : Srt xs) : risD xs = true := by
  unfold risD
  induction xs with
  | nil => rfl
  | cons x xs ih =>
    cases xs with
    | nil => rfl
    | cons y ys =>
      have h1 := (List.pairwise_cons.mp h).1 y (by simp)
      have h2 := ih (List.pairwise_cons.mp h).2
      simp only [List.tail_cons, List.zip_cons_cons, List.all_cons, h1, Bool.true_and] at h2 ⊢
      exact h2
theorem zip_tail_mem {xs : List D} {p : D × D} (h : p ∈ xs.zip xs.tail) : p.1 ∈ xs ∧ p.2 ∈ xs := by
  have := List.of_mem_zip (a := p.1) (b := p.2) h
  exact ⟨this.1, List.mem_of_mem_tail this.2⟩
def ltP : D → D
  | .tup [a, b] => .bl (ltA a b)
  | _ => .non
theorem bls_ltP : ∀ {l : List (D × D)}, bls? ((l.map fun p => D.tup [p.1, p.2]).map ltP) = some (l.map fun p => ltA p.1 p.2)
  | [] => rfl
  | p :: l => by
    simp only [List.map_cons, ltP, bls?]
    rw [bls_ltP (l := l)]
    rfl
theorem all_ltP {l : List (D × D)} : (l.map fun p => ltA p.1 p.2).all id = l.all fun p => ltA p.1 p.2 := by
  simp [List.all_map, Function.comp_def]
theorem rises_eq {p : Pg} (h70 : p.Pt 70 = some f_rises) {n : Nat} {xs : List D} {b : Bool} {h : MH} (hx : ∀ x ∈ xs, ActL x) (hl : xs.length ≤ 1000000) : p.c (n + 1) 70 [.v (if b then .tup xs else .lst xs)] h = .ok (.v (.bl (risD xs))) h := by
  refine O.eq_of (Pg.call_wp h70 rfl ?_)
  unfold f_rises b_rises
  cases b with
  | true =>
    simp only [if_true]
    (repeat' (first | refine w_v rfl ?_ | refine w_int ?_ | refine w_bl ?_ | refine w_non ?_ | refine w_str ?_ | refine w_cons ?_ | refine w_nil ?_ | refine w_bin ?_ | refine w_cmp ?_ | refine w_call ?_ | refine w_bi ?_ | refine w_isi ?_ | refine w_ix ?_ | refine w_and ?_ | refine w_or ?_ | refine w_not ?_ | refine w_chn ?_ | refine w_tup ?_ | refine w_lst ?_ | refine w_ite ?_ | refine w_neg ?_ | refine w_sl ?_ | refine sl_t ?_ | refine sl_n ?_ | refine sl_b ?_ | refine sl_l ?_ | refine w_rev ?_ | refine rv_t ?_ | refine rv_n ?_ | refine rv_l ?_ | refine rv_b ?_ | refine w_onone ?_ | refine w_osome ?_ | refine b_asg ?_ | refine b_ret ?_ | refine b_retN ?_ | refine b_expr ?_ | refine b_pass ?_ | refine b_ifs ?_ | refine b_for ?_ | refine b_asgO ?_ | refine b_asgR ?_ | refine bw_add ?_ | refine bw_sub ?_ | refine cw_lt ?_ | refine cw_le ?_ | refine cw_gt ?_ | refine cw_ge ?_ | refine cw_eqI ?_ | refine cw_neI ?_ | refine bl_w ?_ | refine if_t ?_ | refine if_f ?_ | refine w_comp ?_ | refine b_nil ?_ | refine b_par ?_ | refine b_par2 ?_ | refine b_appO rfl ?_ | refine b_extO rfl ?_ | refine fl_rt ?_ | refine fl_nx ?_ | refine And.intro (by assumption) ?_ | refine And.intro rfl ?_ | refine ⟨_, rfl, ?_⟩ | refine ⟨_, _, rfl, rfl, ?_⟩ | refine ⟨_, rfl, rfl, ?_⟩ | refine ⟨_, _, _, rfl, rfl, rfl, ?_⟩ | refine ⟨_, _, _, rfl, rfl, atD0, ?_⟩ | refine ⟨_, _, _, rfl, rfl, atD1, ?_⟩ | refine ⟨_, _, rfl, rfl, rfl, ?_⟩ | refine for_cons rfl ?_ | refine for_nil ?_ | dsimp only))
    rw [cut_tail]
    refine c_pure ltP (fun d hd => ?_) (by simp; omega) ?_
    · simp only [List.mem_map] at hd
      obtain ⟨p, hp, rfl⟩ := hd
      obtain ⟨m1, m2⟩ := zip_tail_mem hp
      refine ⟨_, rfl, ?_⟩
      refine w_cmp (w_v rfl (w_v rfl (cw_ltA (hx _ m1) (hx _ m2) ?_)))
      exact ⟨rfl, rfl⟩
    · refine w_nil ?_
      refine bi_all bls_ltP ?_
      rw [all_ltP]
      exact ⟨_, rfl, rfl, rfl, rfl⟩
  | false =>
    simp only [Bool.false_eq_true, if_false]
    (repeat' (first | refine w_v rfl ?_ | refine w_int ?_ | refine w_bl ?_ | refine w_non ?_ | refine w_str ?_ | refine w_cons ?_ | refine w_nil ?_ | refine w_bin ?_ | refine w_cmp ?_ | refine w_call ?_ | refine w_bi ?_ | refine w_isi ?_ | refine w_ix ?_ | refine w_and ?_ | refine w_or ?_ | refine w_not ?_ | refine w_chn ?_ | refine w_tup ?_ | refine w_lst ?_ | refine w_ite ?_ | refine w_neg ?_ | refine w_sl ?_ | refine sl_t ?_ | refine sl_n ?_ | refine sl_b ?_ | refine sl_l ?_ | refine w_rev ?_ | refine rv_t ?_ | refine rv_n ?_ | refine rv_l ?_ | refine rv_b ?_ | refine w_onone ?_ | refine w_osome ?_ | refine b_asg ?_ | refine b_ret ?_ | refine b_retN ?_ | refine b_expr ?_ | refine b_pass ?_ | refine b_ifs ?_ | refine b_for ?_ | refine b_asgO ?_ | refine b_asgR ?_ | refine bw_add ?_ | refine bw_sub ?_ | refine cw_lt ?_ | refine cw_le ?_ | refine cw_gt ?_ | refine cw_ge ?_ | refine cw_eqI ?_ | refine cw_neI ?_ | refine bl_w ?_ | refine if_t ?_ | refine if_f ?_ | refine w_comp ?_ | refine b_nil ?_ | refine b_par ?_ | refine b_par2 ?_ | refine b_appO rfl ?_ | refine b_extO rfl ?_ | refine fl_rt ?_ | refine fl_nx ?_ | refine And.intro (by assumption) ?_ | refine And.intro rfl ?_ | refine ⟨_, rfl, ?_⟩ | refine ⟨_, _, rfl, rfl, ?_⟩ | refine ⟨_, rfl, rfl, ?_⟩ | refine ⟨_, _, _, rfl, rfl, rfl, ?_⟩ | refine ⟨_, _, _, rfl, rfl, atD0, ?_⟩ | refine ⟨_, _, _, rfl, rfl, atD1, ?_⟩ | refine ⟨_, _, rfl, rfl, rfl, ?_⟩ | refine for_cons rfl ?_ | refine for_nil ?_ | dsimp only))
    rw [cut_tail]
    refine c_pure ltP (fun d hd => ?_) (by simp; omega) ?_
    · simp only [List.mem_map] at hd
      obtain ⟨p, hp, rfl⟩ := hd
      obtain ⟨m1, m2⟩ := zip_tail_mem hp
      refine ⟨_, rfl, ?_⟩
      refine w_cmp (w_v rfl (w_v rfl (cw_ltA (hx _ m1) (hx _ m2) ?_)))
      exact ⟨rfl, rfl⟩
    · refine w_nil ?_
      refine bi_all bls_ltP ?_
      rw [all_ltP]
      exact ⟨_, rfl, rfl, rfl, rfl⟩
end GV
set_option Elab.async false
set_option linter.all false
set_option maxRecDepth 100000
set_option maxHeartbeats 4000000
/-! GA4: which values are acts. -/
namespace GV
open PySem L2
def giveAt (es : List Ex) (n th : Int) : Int := ((es[n.toNat]?).bind fun e => e.2[th.toNat]?).getD 0
def actB (t : Int) (es : List Ex) : D → Bool
  | .tup [.str s, n] => isInt 0 ((es.length : Int) - 1) n && (s == "bar")
  | .tup [.str s, .int n, .int th, a] => isInt 0 ((es.length : Int) - 1) (.int n) && (!(s == "bar") && ((s == "fee") && (isInt 0 (t - 1) (.int th) && isInt 1 (giveAt es n th) a)))
  | _ => false
theorem isInt_int {lo hi : Int} {d : D} (h : isInt lo hi d = true) : ∃ i : Int, d = .int i ∧ lo ≤ i ∧ i ≤ hi := by
  cases d with
  | int i => simp only [isInt, Bool.and_eq_true, decide_eq_true_eq] at h; exact ⟨i, rfl, h.1, h.2⟩
  | _ => simp [isInt] at h
theorem actB_two {t : Int} {es : List Ex} {a b : D} : actB t es (.tup [a, b]) = (match a with | .str s => isInt 0 ((es.length : Int) - 1) b && (s == "bar") | _ => false) := by
  cases a <;> rfl
theorem actB_four {t : Int} {es : List Ex} {a b c d : D} : actB t es (.tup [a, b, c, d]) = (match a, b, c with | .str s, .int n, .int th => isInt 0 ((es.length : Int) - 1) (.int n) && (!(s == "bar") && ((s == "fee") && (isInt 0 (t - 1) (.int th) && isInt 1 (giveAt es n th) d))) | _, _, _ => false) := by
  cases a <;> first | rfl | (cases b <;> first | rfl | (cases c <;> rfl))
theorem actB_len {t : Int} {es : List Ex} {xs : List D} (h2 : xs.length ≠ 2) (h4 : xs.length ≠ 4) : actB t es (.tup xs) = false := by
  unfold actB
  split
  · rename_i e; cases e; simp at h2
  · rename_i e; cases e; simp at h4
  · rfl
theorem is_act_eq {p : Pg} (h1 : p.Pt 1 = some f_is_integer) (h71 : p.Pt 71 = some f_is_act) {n m : Nat} {t : Int} {es : List Ex} {d : D} {h : MH} (v : BV t es) (hd : d.okN m = true) : p.c (n + 2) 71 [.v (bD t es), .v d] h = .ok (.v (.bl (actB t es d))) h := by
  refine O.eq_of (Pg.call_wp h71 rfl ?_)
  unfold f_is_act b_is_act
  have hn := noObj_of hd
  cases d
  case obj => cases hn
  case tup xs =>
    obtain ⟨m, rfl, hx⟩ := ok_tup hd
    by_cases hl : 2 ≤ xs.length ∧ xs.length ≤ 4
    · obtain ⟨a, b, xs, rfl⟩ : ∃ a b r, xs = a :: b :: r := by
        match xs, hl with
        | a :: b :: r, _ => exact ⟨a, b, r, rfl⟩
      have ha : a.okN m = true := hx a (by simp)
      have hb : b.okN m = true := hx b (by simp)
      have hna := noObj_of ha
      have hnb := noObj_of hb
      simp only [List.length_cons] at hl
      have c1 : decide ((2 : Int) ≤ ((a :: b :: xs).length : Nat)) = true := decide_eq_true (by simp only [List.length_cons]; omega)
      have c2 : decide ((((a :: b :: xs).length : Nat) : Int) ≤ 4) = true := decide_eq_true (by simp only [List.length_cons]; omega)
      (repeat' (first | refine w_v rfl ?_ | refine w_int ?_ | refine w_bl ?_ | refine w_non ?_ | refine w_str ?_ | refine w_cons ?_ | refine w_nil ?_ | refine w_bin ?_ | refine w_cmp ?_ | refine w_call ?_ | refine w_bi ?_ | refine w_isi ?_ | refine w_ix ?_ | refine w_and ?_ | refine w_or ?_ | refine w_not ?_ | refine w_chn ?_ | refine w_tup ?_ | refine w_lst ?_ | refine w_ite ?_ | refine w_neg ?_ | refine w_sl ?_ | refine sl_t ?_ | refine sl_n ?_ | refine sl_b ?_ | refine sl_l ?_ | refine w_rev ?_ | refine rv_t ?_ | refine rv_n ?_ | refine rv_l ?_ | refine rv_b ?_ | refine w_onone ?_ | refine w_osome ?_ | refine b_asg ?_ | refine b_ret ?_ | refine b_retN ?_ | refine b_expr ?_ | refine b_pass ?_ | refine b_ifs ?_ | refine b_for ?_ | refine b_asgO ?_ | refine b_asgR ?_ | refine bw_add ?_ | refine bw_sub ?_ | refine cw_lt ?_ | refine cw_le ?_ | refine cw_gt ?_ | refine cw_ge ?_ | refine cw_eqI ?_ | refine cw_neI ?_ | refine bl_w ?_ | refine if_t ?_ | refine if_f ?_ | refine w_comp ?_ | refine b_nil ?_ | refine b_par ?_ | refine b_par2 ?_ | refine b_appO rfl ?_ | refine b_extO rfl ?_ | refine fl_rt ?_ | refine fl_nx ?_ | refine And.intro (by assumption) ?_ | refine And.intro rfl ?_ | refine ⟨_, rfl, ?_⟩ | refine ⟨_, _, rfl, rfl, ?_⟩ | refine ⟨_, rfl, rfl, ?_⟩ | refine ⟨_, _, _, rfl, rfl, rfl, ?_⟩ | refine ⟨_, _, _, rfl, rfl, atD0, ?_⟩ | refine ⟨_, _, _, rfl, rfl, atD1, ?_⟩ | refine ⟨_, _, rfl, rfl, rfl, ?_⟩ | refine for_cons rfl ?_ | refine for_nil ?_ | dsimp only))
      rw [c1]
      (repeat' (first | refine w_v rfl ?_ | refine w_int ?_ | refine w_bl ?_ | refine w_non ?_ | refine w_str ?_ | refine w_cons ?_ | refine w_nil ?_ | refine w_bin ?_ | refine w_cmp ?_ | refine w_call ?_ | refine w_bi ?_ | refine w_isi ?_ | refine w_ix ?_ | refine w_and ?_ | refine w_or ?_ | refine w_not ?_ | refine w_chn ?_ | refine w_tup ?_ | refine w_lst ?_ | refine w_ite ?_ | refine w_neg ?_ | refine w_sl ?_ | refine sl_t ?_ | refine sl_n ?_ | refine sl_b ?_ | refine sl_l ?_ | refine w_rev ?_ | refine rv_t ?_ | refine rv_n ?_ | refine rv_l ?_ | refine rv_b ?_ | refine w_onone ?_ | refine w_osome ?_ | refine b_asg ?_ | refine b_ret ?_ | refine b_retN ?_ | refine b_expr ?_ | refine b_pass ?_ | refine b_ifs ?_ | refine b_for ?_ | refine b_asgO ?_ | refine b_asgR ?_ | refine bw_add ?_ | refine bw_sub ?_ | refine cw_lt ?_ | refine cw_le ?_ | refine cw_gt ?_ | refine cw_ge ?_ | refine cw_eqI ?_ | refine cw_neI ?_ | refine bl_w ?_ | refine if_t ?_ | refine if_f ?_ | refine w_comp ?_ | refine b_nil ?_ | refine b_par ?_ | refine b_par2 ?_ | refine b_appO rfl ?_ | refine b_extO rfl ?_ | refine fl_rt ?_ | refine fl_nx ?_ | refine And.intro (by assumption) ?_ | refine And.intro rfl ?_ | refine ⟨_, rfl, ?_⟩ | refine ⟨_, _, rfl, rfl, ?_⟩ | refine ⟨_, rfl, rfl, ?_⟩ | refine ⟨_, _, _, rfl, rfl, rfl, ?_⟩ | refine ⟨_, _, _, rfl, rfl, atD0, ?_⟩ | refine ⟨_, _, _, rfl, rfl, atD1, ?_⟩ | refine ⟨_, _, rfl, rfl, rfl, ?_⟩ | refine for_cons rfl ?_ | refine for_nil ?_ | dsimp only))
      rw [c2]
      (repeat' (first | refine w_v rfl ?_ | refine w_int ?_ | refine w_bl ?_ | refine w_non ?_ | refine w_str ?_ | refine w_cons ?_ | refine w_nil ?_ | refine w_bin ?_ | refine w_cmp ?_ | refine w_call ?_ | refine w_bi ?_ | refine w_isi ?_ | refine w_ix ?_ | refine w_and ?_ | refine w_or ?_ | refine w_not ?_ | refine w_chn ?_ | refine w_tup ?_ | refine w_lst ?_ | refine w_ite ?_ | refine w_neg ?_ | refine w_sl ?_ | refine sl_t ?_ | refine sl_n ?_ | refine sl_b ?_ | refine sl_l ?_ | refine w_rev ?_ | refine rv_t ?_ | refine rv_n ?_ | refine rv_l ?_ | refine rv_b ?_ | refine w_onone ?_ | refine w_osome ?_ | refine b_asg ?_ | refine b_ret ?_ | refine b_retN ?_ | refine b_expr ?_ | refine b_pass ?_ | refine b_ifs ?_ | refine b_for ?_ | refine b_asgO ?_ | refine b_asgR ?_ | refine bw_add ?_ | refine bw_sub ?_ | refine cw_lt ?_ | refine cw_le ?_ | refine cw_gt ?_ | refine cw_ge ?_ | refine cw_eqI ?_ | refine cw_neI ?_ | refine bl_w ?_ | refine if_t ?_ | refine if_f ?_ | refine w_comp ?_ | refine b_nil ?_ | refine b_par ?_ | refine b_par2 ?_ | refine b_appO rfl ?_ | refine b_extO rfl ?_ | refine fl_rt ?_ | refine fl_nx ?_ | refine And.intro (by assumption) ?_ | refine And.intro rfl ?_ | refine ⟨_, rfl, ?_⟩ | refine ⟨_, _, rfl, rfl, ?_⟩ | refine ⟨_, rfl, rfl, ?_⟩ | refine ⟨_, _, _, rfl, rfl, rfl, ?_⟩ | refine ⟨_, _, _, rfl, rfl, atD0, ?_⟩ | refine ⟨_, _, _, rfl, rfl, atD1, ?_⟩ | refine ⟨_, _, rfl, rfl, rfl, ?_⟩ | refine for_cons rfl ?_ | refine for_nil ?_ | dsimp only))
      cases a
      case obj => cases hna
      case str s =>
        have hs : (D.str s).okN 60 = true := by
          have : strOkB s = true := by cases m <;> simpa [D.okN] using ha
          simpa [D.okN] using this
        (repeat' (first | refine w_v rfl ?_ | refine w_int ?_ | refine w_bl ?_ | refine w_non ?_ | refine w_str ?_ | refine w_cons ?_ | refine w_nil ?_ | refine w_bin ?_ | refine w_cmp ?_ | refine w_call ?_ | refine w_bi ?_ | refine w_isi ?_ | refine w_ix ?_ | refine w_and ?_ | refine w_or ?_ | refine w_not ?_ | refine w_chn ?_ | refine w_tup ?_ | refine w_lst ?_ | refine w_ite ?_ | refine w_neg ?_ | refine w_sl ?_ | refine sl_t ?_ | refine sl_n ?_ | refine sl_b ?_ | refine sl_l ?_ | refine w_rev ?_ | refine rv_t ?_ | refine rv_n ?_ | refine rv_l ?_ | refine rv_b ?_ | refine w_onone ?_ | refine w_osome ?_ | refine b_asg ?_ | refine b_ret ?_ | refine b_retN ?_ | refine b_expr ?_ | refine b_pass ?_ | refine b_ifs ?_ | refine b_for ?_ | refine b_asgO ?_ | refine b_asgR ?_ | refine bw_add ?_ | refine bw_sub ?_ | refine cw_lt ?_ | refine cw_le ?_ | refine cw_gt ?_ | refine cw_ge ?_ | refine cw_eqI ?_ | refine cw_neI ?_ | refine bl_w ?_ | refine if_t ?_ | refine if_f ?_ | refine w_comp ?_ | refine b_nil ?_ | refine b_par ?_ | refine b_par2 ?_ | refine b_appO rfl ?_ | refine b_extO rfl ?_ | refine fl_rt ?_ | refine fl_nx ?_ | refine And.intro (by assumption) ?_ | refine And.intro rfl ?_ | refine ⟨_, rfl, ?_⟩ | refine ⟨_, _, rfl, rfl, ?_⟩ | refine ⟨_, rfl, rfl, ?_⟩ | refine ⟨_, _, _, rfl, rfl, rfl, ?_⟩ | refine ⟨_, _, _, rfl, rfl, atD0, ?_⟩ | refine ⟨_, _, _, rfl, rfl, atD1, ?_⟩ | refine ⟨_, _, rfl, rfl, rfl, ?_⟩ | refine for_cons rfl ?_ | refine for_nil ?_ | dsimp only))
        refine O.wp_eq (is_integer_eq h1 hnb) ?_
        have el : ((es.map exD).length : Int) - 1 = (es.length : Int) - 1 := by simp
        rw [el]
        cases hi : isInt 0 ((es.length : Int) - 1) b with
        | false =>
          (repeat' (first | refine w_v rfl ?_ | refine w_int ?_ | refine w_bl ?_ | refine w_non ?_ | refine w_str ?_ | refine w_cons ?_ | refine w_nil ?_ | refine w_bin ?_ | refine w_cmp ?_ | refine w_call ?_ | refine w_bi ?_ | refine w_isi ?_ | refine w_ix ?_ | refine w_and ?_ | refine w_or ?_ | refine w_not ?_ | refine w_chn ?_ | refine w_tup ?_ | refine w_lst ?_ | refine w_ite ?_ | refine w_neg ?_ | refine w_sl ?_ | refine sl_t ?_ | refine sl_n ?_ | refine sl_b ?_ | refine sl_l ?_ | refine w_rev ?_ | refine rv_t ?_ | refine rv_n ?_ | refine rv_l ?_ | refine rv_b ?_ | refine w_onone ?_ | refine w_osome ?_ | refine b_asg ?_ | refine b_ret ?_ | refine b_retN ?_ | refine b_expr ?_ | refine b_pass ?_ | refine b_ifs ?_ | refine b_for ?_ | refine b_asgO ?_ | refine b_asgR ?_ | refine bw_add ?_ | refine bw_sub ?_ | refine cw_lt ?_ | refine cw_le ?_ | refine cw_gt ?_ | refine cw_ge ?_ | refine cw_eqI ?_ | refine cw_neI ?_ | refine bl_w ?_ | refine if_t ?_ | refine if_f ?_ | refine w_comp ?_ | refine b_nil ?_ | refine b_par ?_ | refine b_par2 ?_ | refine b_appO rfl ?_ | refine b_extO rfl ?_ | refine fl_rt ?_ | refine fl_nx ?_ | refine And.intro (by assumption) ?_ | refine And.intro rfl ?_ | refine ⟨_, rfl, ?_⟩ | refine ⟨_, _, rfl, rfl, ?_⟩ | refine ⟨_, rfl, rfl, ?_⟩ | refine ⟨_, _, _, rfl, rfl, rfl, ?_⟩ | refine ⟨_, _, _, rfl, rfl, atD0, ?_⟩ | refine ⟨_, _, _, rfl, rfl, atD1, ?_⟩ | refine ⟨_, _, rfl, rfl, rfl, ?_⟩ | refine for_cons rfl ?_ | refine for_nil ?_ | dsimp only))
          refine ⟨?_, rfl⟩
          congr 2
          symm
          match xs, hl with
          | [], _ => rw [actB_two]; simp [hi]
          | [c], _ => exact actB_len (by simp) (by simp)
          | [c, e], _ =>
            rw [actB_four]
            cases b <;> first | rfl | (cases c <;> simp [hi])
          | _ :: _ :: _ :: _, hl => simp at hl <;> omega
        | true =>
          obtain ⟨i, rfl, i0, i1⟩ := isInt_int hi
          (repeat' (first | refine w_v rfl ?_ | refine w_int ?_ | refine w_bl ?_ | refine w_non ?_ | refine w_str ?_ | refine w_cons ?_ | refine w_nil ?_ | refine w_bin ?_ | refine w_cmp ?_ | refine w_call ?_ | refine w_bi ?_ | refine w_isi ?_ | refine w_ix ?_ | refine w_and ?_ | refine w_or ?_ | refine w_not ?_ | refine w_chn ?_ | refine w_tup ?_ | refine w_lst ?_ | refine w_ite ?_ | refine w_neg ?_ | refine w_sl ?_ | refine sl_t ?_ | refine sl_n ?_ | refine sl_b ?_ | refine sl_l ?_ | refine w_rev ?_ | refine rv_t ?_ | refine rv_n ?_ | refine rv_l ?_ | refine rv_b ?_ | refine w_onone ?_ | refine w_osome ?_ | refine b_asg ?_ | refine b_ret ?_ | refine b_retN ?_ | refine b_expr ?_ | refine b_pass ?_ | refine b_ifs ?_ | refine b_for ?_ | refine b_asgO ?_ | refine b_asgR ?_ | refine bw_add ?_ | refine bw_sub ?_ | refine cw_lt ?_ | refine cw_le ?_ | refine cw_gt ?_ | refine cw_ge ?_ | refine cw_eqI ?_ | refine cw_neI ?_ | refine bl_w ?_ | refine if_t ?_ | refine if_f ?_ | refine w_comp ?_ | refine b_nil ?_ | refine b_par ?_ | refine b_par2 ?_ | refine b_appO rfl ?_ | refine b_extO rfl ?_ | refine fl_rt ?_ | refine fl_nx ?_ | refine And.intro (by assumption) ?_ | refine And.intro rfl ?_ | refine ⟨_, rfl, ?_⟩ | refine ⟨_, _, rfl, rfl, ?_⟩ | refine ⟨_, rfl, rfl, ?_⟩ | refine ⟨_, _, _, rfl, rfl, rfl, ?_⟩ | refine ⟨_, _, _, rfl, rfl, atD0, ?_⟩ | refine ⟨_, _, _, rfl, rfl, atD1, ?_⟩ | refine ⟨_, _, rfl, rfl, rfl, ?_⟩ | refine for_cons rfl ?_ | refine for_nil ?_ | dsimp only))
          refine cw_eq hs (by simp [R.rd, D.okN, strBar]) ?_
          have ebar : D.eqb (R.v (.str s)).rd (R.v (.str "bar")).rd = (s == "bar") := by simp [R.rd, D.eqb]
          rw [ebar]
          cases hb2 : (s == "bar") with
          | true =>
            (repeat' (first | refine w_v rfl ?_ | refine w_int ?_ | refine w_bl ?_ | refine w_non ?_ | refine w_str ?_ | refine w_cons ?_ | refine w_nil ?_ | refine w_bin ?_ | refine w_cmp ?_ | refine w_call ?_ | refine w_bi ?_ | refine w_isi ?_ | refine w_ix ?_ | refine w_and ?_ | refine w_or ?_ | refine w_not ?_ | refine w_chn ?_ | refine w_tup ?_ | refine w_lst ?_ | refine w_ite ?_ | refine w_neg ?_ | refine w_sl ?_ | refine sl_t ?_ | refine sl_n ?_ | refine sl_b ?_ | refine sl_l ?_ | refine w_rev ?_ | refine rv_t ?_ | refine rv_n ?_ | refine rv_l ?_ | refine rv_b ?_ | refine w_onone ?_ | refine w_osome ?_ | refine b_asg ?_ | refine b_ret ?_ | refine b_retN ?_ | refine b_expr ?_ | refine b_pass ?_ | refine b_ifs ?_ | refine b_for ?_ | refine b_asgO ?_ | refine b_asgR ?_ | refine bw_add ?_ | refine bw_sub ?_ | refine cw_lt ?_ | refine cw_le ?_ | refine cw_gt ?_ | refine cw_ge ?_ | refine cw_eqI ?_ | refine cw_neI ?_ | refine bl_w ?_ | refine if_t ?_ | refine if_f ?_ | refine w_comp ?_ | refine b_nil ?_ | refine b_par ?_ | refine b_par2 ?_ | refine b_appO rfl ?_ | refine b_extO rfl ?_ | refine fl_rt ?_ | refine fl_nx ?_ | refine And.intro (by assumption) ?_ | refine And.intro rfl ?_ | refine ⟨_, rfl, ?_⟩ | refine ⟨_, _, rfl, rfl, ?_⟩ | refine ⟨_, rfl, rfl, ?_⟩ | refine ⟨_, _, _, rfl, rfl, rfl, ?_⟩ | refine ⟨_, _, _, rfl, rfl, atD0, ?_⟩ | refine ⟨_, _, _, rfl, rfl, atD1, ?_⟩ | refine ⟨_, _, rfl, rfl, rfl, ?_⟩ | refine for_cons rfl ?_ | refine for_nil ?_ | dsimp only))
            refine ⟨?_, rfl⟩
            congr 2
            match xs, hl with
            | [], _ => rw [actB_two]; simp [hi, hb2]
            | [c], _ => rw [actB_len (by simp) (by simp)]; simp
            | [c, e], _ =>
              rw [actB_four]
              cases c <;> simp [hb2]
            | _ :: _ :: _ :: _, hl => simp at hl <;> omega
          | false =>
            (repeat' (first | refine w_v rfl ?_ | refine w_int ?_ | refine w_bl ?_ | refine w_non ?_ | refine w_str ?_ | refine w_cons ?_ | refine w_nil ?_ | refine w_bin ?_ | refine w_cmp ?_ | refine w_call ?_ | refine w_bi ?_ | refine w_isi ?_ | refine w_ix ?_ | refine w_and ?_ | refine w_or ?_ | refine w_not ?_ | refine w_chn ?_ | refine w_tup ?_ | refine w_lst ?_ | refine w_ite ?_ | refine w_neg ?_ | refine w_sl ?_ | refine sl_t ?_ | refine sl_n ?_ | refine sl_b ?_ | refine sl_l ?_ | refine w_rev ?_ | refine rv_t ?_ | refine rv_n ?_ | refine rv_l ?_ | refine rv_b ?_ | refine w_onone ?_ | refine w_osome ?_ | refine b_asg ?_ | refine b_ret ?_ | refine b_retN ?_ | refine b_expr ?_ | refine b_pass ?_ | refine b_ifs ?_ | refine b_for ?_ | refine b_asgO ?_ | refine b_asgR ?_ | refine bw_add ?_ | refine bw_sub ?_ | refine cw_lt ?_ | refine cw_le ?_ | refine cw_gt ?_ | refine cw_ge ?_ | refine cw_eqI ?_ | refine cw_neI ?_ | refine bl_w ?_ | refine if_t ?_ | refine if_f ?_ | refine w_comp ?_ | refine b_nil ?_ | refine b_par ?_ | refine b_par2 ?_ | refine b_appO rfl ?_ | refine b_extO rfl ?_ | refine fl_rt ?_ | refine fl_nx ?_ | refine And.intro (by assumption) ?_ | refine And.intro rfl ?_ | refine ⟨_, rfl, ?_⟩ | refine ⟨_, _, rfl, rfl, ?_⟩ | refine ⟨_, rfl, rfl, ?_⟩ | refine ⟨_, _, _, rfl, rfl, rfl, ?_⟩ | refine ⟨_, _, _, rfl, rfl, atD0, ?_⟩ | refine ⟨_, _, _, rfl, rfl, atD1, ?_⟩ | refine ⟨_, _, rfl, rfl, rfl, ?_⟩ | refine for_cons rfl ?_ | refine for_nil ?_ | dsimp only))
            refine cw_ne hs (by simp [R.rd, D.okN, strFee]) ?_
            have efee : D.eqb (R.v (.str s)).rd (R.v (.str "fee")).rd = (s == "fee") := by simp [R.rd, D.eqb]
            rw [efee]
            cases hf : (s == "fee") with
            | false =>
              (repeat' (first | refine w_v rfl ?_ | refine w_int ?_ | refine w_bl ?_ | refine w_non ?_ | refine w_str ?_ | refine w_cons ?_ | refine w_nil ?_ | refine w_bin ?_ | refine w_cmp ?_ | refine w_call ?_ | refine w_bi ?_ | refine w_isi ?_ | refine w_ix ?_ | refine w_and ?_ | refine w_or ?_ | refine w_not ?_ | refine w_chn ?_ | refine w_tup ?_ | refine w_lst ?_ | refine w_ite ?_ | refine w_neg ?_ | refine w_sl ?_ | refine sl_t ?_ | refine sl_n ?_ | refine sl_b ?_ | refine sl_l ?_ | refine w_rev ?_ | refine rv_t ?_ | refine rv_n ?_ | refine rv_l ?_ | refine rv_b ?_ | refine w_onone ?_ | refine w_osome ?_ | refine b_asg ?_ | refine b_ret ?_ | refine b_retN ?_ | refine b_expr ?_ | refine b_pass ?_ | refine b_ifs ?_ | refine b_for ?_ | refine b_asgO ?_ | refine b_asgR ?_ | refine bw_add ?_ | refine bw_sub ?_ | refine cw_lt ?_ | refine cw_le ?_ | refine cw_gt ?_ | refine cw_ge ?_ | refine cw_eqI ?_ | refine cw_neI ?_ | refine bl_w ?_ | refine if_t ?_ | refine if_f ?_ | refine w_comp ?_ | refine b_nil ?_ | refine b_par ?_ | refine b_par2 ?_ | refine b_appO rfl ?_ | refine b_extO rfl ?_ | refine fl_rt ?_ | refine fl_nx ?_ | refine And.intro (by assumption) ?_ | refine And.intro rfl ?_ | refine ⟨_, rfl, ?_⟩ | refine ⟨_, _, rfl, rfl, ?_⟩ | refine ⟨_, rfl, rfl, ?_⟩ | refine ⟨_, _, _, rfl, rfl, rfl, ?_⟩ | refine ⟨_, _, _, rfl, rfl, atD0, ?_⟩ | refine ⟨_, _, _, rfl, rfl, atD1, ?_⟩ | refine ⟨_, _, rfl, rfl, rfl, ?_⟩ | refine for_cons rfl ?_ | refine for_nil ?_ | dsimp only))
              refine ⟨?_, rfl⟩
              congr 2
              symm
              match xs, hl with
              | [], _ => rw [actB_two]; simp [hb2]
              | [c], _ => exact actB_len (by simp) (by simp)
              | [c, e], _ =>
                rw [actB_four]
                cases c <;> simp [hf]
              | _ :: _ :: _ :: _, hl => simp at hl <;> omega
            | true =>
              match xs, hl, hx with
              | [], _, _ =>
                (repeat' (first | refine w_v rfl ?_ | refine w_int ?_ | refine w_bl ?_ | refine w_non ?_ | refine w_str ?_ | refine w_cons ?_ | refine w_nil ?_ | refine w_bin ?_ | refine w_cmp ?_ | refine w_call ?_ | refine w_bi ?_ | refine w_isi ?_ | refine w_ix ?_ | refine w_and ?_ | refine w_or ?_ | refine w_not ?_ | refine w_chn ?_ | refine w_tup ?_ | refine w_lst ?_ | refine w_ite ?_ | refine w_neg ?_ | refine w_sl ?_ | refine sl_t ?_ | refine sl_n ?_ | refine sl_b ?_ | refine sl_l ?_ | refine w_rev ?_ | refine rv_t ?_ | refine rv_n ?_ | refine rv_l ?_ | refine rv_b ?_ | refine w_onone ?_ | refine w_osome ?_ | refine b_asg ?_ | refine b_ret ?_ | refine b_retN ?_ | refine b_expr ?_ | refine b_pass ?_ | refine b_ifs ?_ | refine b_for ?_ | refine b_asgO ?_ | refine b_asgR ?_ | refine bw_add ?_ | refine bw_sub ?_ | refine cw_lt ?_ | refine cw_le ?_ | refine cw_gt ?_ | refine cw_ge ?_ | refine cw_eqI ?_ | refine cw_neI ?_ | refine bl_w ?_ | refine if_t ?_ | refine if_f ?_ | refine w_comp ?_ | refine b_nil ?_ | refine b_par ?_ | refine b_par2 ?_ | refine b_appO rfl ?_ | refine b_extO rfl ?_ | refine fl_rt ?_ | refine fl_nx ?_ | refine And.intro (by assumption) ?_ | refine And.intro rfl ?_ | refine ⟨_, rfl, ?_⟩ | refine ⟨_, _, rfl, rfl, ?_⟩ | refine ⟨_, rfl, rfl, ?_⟩ | refine ⟨_, _, _, rfl, rfl, rfl, ?_⟩ | refine ⟨_, _, _, rfl, rfl, atD0, ?_⟩ | refine ⟨_, _, _, rfl, rfl, atD1, ?_⟩ | refine ⟨_, _, rfl, rfl, rfl, ?_⟩ | refine for_cons rfl ?_ | refine for_nil ?_ | dsimp only))
                rw [actB_two]; simp [hb2]
              | [c], _, _ =>
                (repeat' (first | refine w_v rfl ?_ | refine w_int ?_ | refine w_bl ?_ | refine w_non ?_ | refine w_str ?_ | refine w_cons ?_ | refine w_nil ?_ | refine w_bin ?_ | refine w_cmp ?_ | refine w_call ?_ | refine w_bi ?_ | refine w_isi ?_ | refine w_ix ?_ | refine w_and ?_ | refine w_or ?_ | refine w_not ?_ | refine w_chn ?_ | refine w_tup ?_ | refine w_lst ?_ | refine w_ite ?_ | refine w_neg ?_ | refine w_sl ?_ | refine sl_t ?_ | refine sl_n ?_ | refine sl_b ?_ | refine sl_l ?_ | refine w_rev ?_ | refine rv_t ?_ | refine rv_n ?_ | refine rv_l ?_ | refine rv_b ?_ | refine w_onone ?_ | refine w_osome ?_ | refine b_asg ?_ | refine b_ret ?_ | refine b_retN ?_ | refine b_expr ?_ | refine b_pass ?_ | refine b_ifs ?_ | refine b_for ?_ | refine b_asgO ?_ | refine b_asgR ?_ | refine bw_add ?_ | refine bw_sub ?_ | refine cw_lt ?_ | refine cw_le ?_ | refine cw_gt ?_ | refine cw_ge ?_ | refine cw_eqI ?_ | refine cw_neI ?_ | refine bl_w ?_ | refine if_t ?_ | refine if_f ?_ | refine w_comp ?_ | refine b_nil ?_ | refine b_par ?_ | refine b_par2 ?_ | refine b_appO rfl ?_ | refine b_extO rfl ?_ | refine fl_rt ?_ | refine fl_nx ?_ | refine And.intro (by assumption) ?_ | refine And.intro rfl ?_ | refine ⟨_, rfl, ?_⟩ | refine ⟨_, _, rfl, rfl, ?_⟩ | refine ⟨_, rfl, rfl, ?_⟩ | refine ⟨_, _, _, rfl, rfl, rfl, ?_⟩ | refine ⟨_, _, _, rfl, rfl, atD0, ?_⟩ | refine ⟨_, _, _, rfl, rfl, atD1, ?_⟩ | refine ⟨_, _, rfl, rfl, rfl, ?_⟩ | refine for_cons rfl ?_ | refine for_nil ?_ | dsimp only))
                rw [actB_len (by simp) (by simp)]; simp
              | _ :: _ :: _ :: _, hl, _ => simp at hl <;> omega
              | [c, e], _, hx =>
                have hc : c.okN m = true := hx c (by simp)
                have he : e.okN m = true := hx e (by simp)
                (repeat' (first | refine w_v rfl ?_ | refine w_int ?_ | refine w_bl ?_ | refine w_non ?_ | refine w_str ?_ | refine w_cons ?_ | refine w_nil ?_ | refine w_bin ?_ | refine w_cmp ?_ | refine w_call ?_ | refine w_bi ?_ | refine w_isi ?_ | refine w_ix ?_ | refine w_and ?_ | refine w_or ?_ | refine w_not ?_ | refine w_chn ?_ | refine w_tup ?_ | refine w_lst ?_ | refine w_ite ?_ | refine w_neg ?_ | refine w_sl ?_ | refine sl_t ?_ | refine sl_n ?_ | refine sl_b ?_ | refine sl_l ?_ | refine w_rev ?_ | refine rv_t ?_ | refine rv_n ?_ | refine rv_l ?_ | refine rv_b ?_ | refine w_onone ?_ | refine w_osome ?_ | refine b_asg ?_ | refine b_ret ?_ | refine b_retN ?_ | refine b_expr ?_ | refine b_pass ?_ | refine b_ifs ?_ | refine b_for ?_ | refine b_asgO ?_ | refine b_asgR ?_ | refine bw_add ?_ | refine bw_sub ?_ | refine cw_lt ?_ | refine cw_le ?_ | refine cw_gt ?_ | refine cw_ge ?_ | refine cw_eqI ?_ | refine cw_neI ?_ | refine bl_w ?_ | refine if_t ?_ | refine if_f ?_ | refine w_comp ?_ | refine b_nil ?_ | refine b_par ?_ | refine b_par2 ?_ | refine b_appO rfl ?_ | refine b_extO rfl ?_ | refine fl_rt ?_ | refine fl_nx ?_ | refine And.intro (by assumption) ?_ | refine And.intro rfl ?_ | refine ⟨_, rfl, ?_⟩ | refine ⟨_, _, rfl, rfl, ?_⟩ | refine ⟨_, rfl, rfl, ?_⟩ | refine ⟨_, _, _, rfl, rfl, rfl, ?_⟩ | refine ⟨_, _, _, rfl, rfl, atD0, ?_⟩ | refine ⟨_, _, _, rfl, rfl, atD1, ?_⟩ | refine ⟨_, _, rfl, rfl, rfl, ?_⟩ | refine for_cons rfl ?_ | refine for_nil ?_ | dsimp only))
                refine O.wp_eq (is_integer_eq h1 (noObj_of hc)) ?_
                rw [show (t + -1 : Int) = t - 1 from rfl]
                cases hi2 : isInt 0 (t - 1) c with
                | false =>
                  (repeat' (first | refine w_v rfl ?_ | refine w_int ?_ | refine w_bl ?_ | refine w_non ?_ | refine w_str ?_ | refine w_cons ?_ | refine w_nil ?_ | refine w_bin ?_ | refine w_cmp ?_ | refine w_call ?_ | refine w_bi ?_ | refine w_isi ?_ | refine w_ix ?_ | refine w_and ?_ | refine w_or ?_ | refine w_not ?_ | refine w_chn ?_ | refine w_tup ?_ | refine w_lst ?_ | refine w_ite ?_ | refine w_neg ?_ | refine w_sl ?_ | refine sl_t ?_ | refine sl_n ?_ | refine sl_b ?_ | refine sl_l ?_ | refine w_rev ?_ | refine rv_t ?_ | refine rv_n ?_ | refine rv_l ?_ | refine rv_b ?_ | refine w_onone ?_ | refine w_osome ?_ | refine b_asg ?_ | refine b_ret ?_ | refine b_retN ?_ | refine b_expr ?_ | refine b_pass ?_ | refine b_ifs ?_ | refine b_for ?_ | refine b_asgO ?_ | refine b_asgR ?_ | refine bw_add ?_ | refine bw_sub ?_ | refine cw_lt ?_ | refine cw_le ?_ | refine cw_gt ?_ | refine cw_ge ?_ | refine cw_eqI ?_ | refine cw_neI ?_ | refine bl_w ?_ | refine if_t ?_ | refine if_f ?_ | refine w_comp ?_ | refine b_nil ?_ | refine b_par ?_ | refine b_par2 ?_ | refine b_appO rfl ?_ | refine b_extO rfl ?_ | refine fl_rt ?_ | refine fl_nx ?_ | refine And.intro (by assumption) ?_ | refine And.intro rfl ?_ | refine ⟨_, rfl, ?_⟩ | refine ⟨_, _, rfl, rfl, ?_⟩ | refine ⟨_, rfl, rfl, ?_⟩ | refine ⟨_, _, _, rfl, rfl, rfl, ?_⟩ | refine ⟨_, _, _, rfl, rfl, atD0, ?_⟩ | refine ⟨_, _, _, rfl, rfl, atD1, ?_⟩ | refine ⟨_, _, rfl, rfl, rfl, ?_⟩ | refine for_cons rfl ?_ | refine for_nil ?_ | dsimp only))
                  refine ⟨?_, rfl⟩
                  congr 2
                  symm
                  rw [actB_four]
                  cases c <;> first | rfl | simp [hi2]
                | true =>
                  obtain ⟨j, rfl, j0, j1⟩ := isInt_int hi2
                  have hil : i.toNat < es.length := by omega
                  have ve := v.ex es[i.toNat] (List.getElem_mem hil)
                  have l2 := ve.l2
                  have hjl : j.toNat < es[i.toNat].2.length := by omega
                  have e1 : es[i.toNat]? = some es[i.toNat] := List.getElem?_eq_getElem hil
                  have e2 : es[i.toNat].2[j.toNat]? = some es[i.toNat].2[j.toNat] := List.getElem?_eq_getElem hjl
                  have a1 := atD_get (f := exD) i0 e1
                  have a2 := atD_get (f := D.int) j0 e2
                  have eg : giveAt es i j = es[i.toNat].2[j.toNat] := by unfold giveAt; rw [e1]; simp [e2]
                  (repeat' (first | refine w_v rfl ?_ | refine w_int ?_ | refine w_bl ?_ | refine w_non ?_ | refine w_str ?_ | refine w_cons ?_ | refine w_nil ?_ | refine w_bin ?_ | refine w_cmp ?_ | refine w_call ?_ | refine w_bi ?_ | refine w_isi ?_ | refine w_ix ?_ | refine w_and ?_ | refine w_or ?_ | refine w_not ?_ | refine w_chn ?_ | refine w_tup ?_ | refine w_lst ?_ | refine w_ite ?_ | refine w_neg ?_ | refine w_sl ?_ | refine sl_t ?_ | refine sl_n ?_ | refine sl_b ?_ | refine sl_l ?_ | refine w_rev ?_ | refine rv_t ?_ | refine rv_n ?_ | refine rv_l ?_ | refine rv_b ?_ | refine w_onone ?_ | refine w_osome ?_ | refine b_asg ?_ | refine b_ret ?_ | refine b_retN ?_ | refine b_expr ?_ | refine b_pass ?_ | refine b_ifs ?_ | refine b_for ?_ | refine b_asgO ?_ | refine b_asgR ?_ | refine bw_add ?_ | refine bw_sub ?_ | refine cw_lt ?_ | refine cw_le ?_ | refine cw_gt ?_ | refine cw_ge ?_ | refine cw_eqI ?_ | refine cw_neI ?_ | refine bl_w ?_ | refine if_t ?_ | refine if_f ?_ | refine w_comp ?_ | refine b_nil ?_ | refine b_par ?_ | refine b_par2 ?_ | refine b_appO rfl ?_ | refine b_extO rfl ?_ | refine fl_rt ?_ | refine fl_nx ?_ | refine And.intro (by assumption) ?_ | refine And.intro rfl ?_ | refine ⟨_, rfl, ?_⟩ | refine ⟨_, _, rfl, rfl, ?_⟩ | refine ⟨_, rfl, rfl, ?_⟩ | refine ⟨_, _, _, rfl, rfl, rfl, ?_⟩ | refine ⟨_, _, _, rfl, rfl, atD0, ?_⟩ | refine ⟨_, _, _, rfl, rfl, atD1, ?_⟩ | refine ⟨_, _, rfl, rfl, rfl, ?_⟩ | refine for_cons rfl ?_ | refine for_nil ?_ | dsimp only))
                  refine ⟨_, _, _, rfl, rfl, a1, ?_⟩
                  (repeat' (first | refine w_v rfl ?_ | refine w_int ?_ | refine w_bl ?_ | refine w_non ?_ | refine w_str ?_ | refine w_cons ?_ | refine w_nil ?_ | refine w_bin ?_ | refine w_cmp ?_ | refine w_call ?_ | refine w_bi ?_ | refine w_isi ?_ | refine w_ix ?_ | refine w_and ?_ | refine w_or ?_ | refine w_not ?_ | refine w_chn ?_ | refine w_tup ?_ | refine w_lst ?_ | refine w_ite ?_ | refine w_neg ?_ | refine w_sl ?_ | refine sl_t ?_ | refine sl_n ?_ | refine sl_b ?_ | refine sl_l ?_ | refine w_rev ?_ | refine rv_t ?_ | refine rv_n ?_ | refine rv_l ?_ | refine rv_b ?_ | refine w_onone ?_ | refine w_osome ?_ | refine b_asg ?_ | refine b_ret ?_ | refine b_retN ?_ | refine b_expr ?_ | refine b_pass ?_ | refine b_ifs ?_ | refine b_for ?_ | refine b_asgO ?_ | refine b_asgR ?_ | refine bw_add ?_ | refine bw_sub ?_ | refine cw_lt ?_ | refine cw_le ?_ | refine cw_gt ?_ | refine cw_ge ?_ | refine cw_eqI ?_ | refine cw_neI ?_ | refine bl_w ?_ | refine if_t ?_ | refine if_f ?_ | refine w_comp ?_ | refine b_nil ?_ | refine b_par ?_ | refine b_par2 ?_ | refine b_appO rfl ?_ | refine b_extO rfl ?_ | refine fl_rt ?_ | refine fl_nx ?_ | refine And.intro (by assumption) ?_ | refine And.intro rfl ?_ | refine ⟨_, rfl, ?_⟩ | refine ⟨_, _, rfl, rfl, ?_⟩ | refine ⟨_, rfl, rfl, ?_⟩ | refine ⟨_, _, _, rfl, rfl, rfl, ?_⟩ | refine ⟨_, _, _, rfl, rfl, atD0, ?_⟩ | refine ⟨_, _, _, rfl, rfl, atD1, ?_⟩ | refine ⟨_, _, rfl, rfl, rfl, ?_⟩ | refine for_cons rfl ?_ | refine for_nil ?_ | dsimp only))
                  refine ⟨_, _, _, rfl, rfl, a2, ?_⟩
                  (repeat' (first | refine w_v rfl ?_ | refine w_int ?_ | refine w_bl ?_ | refine w_non ?_ | refine w_str ?_ | refine w_cons ?_ | refine w_nil ?_ | refine w_bin ?_ | refine w_cmp ?_ | refine w_call ?_ | refine w_bi ?_ | refine w_isi ?_ | refine w_ix ?_ | refine w_and ?_ | refine w_or ?_ | refine w_not ?_ | refine w_chn ?_ | refine w_tup ?_ | refine w_lst ?_ | refine w_ite ?_ | refine w_neg ?_ | refine w_sl ?_ | refine sl_t ?_ | refine sl_n ?_ | refine sl_b ?_ | refine sl_l ?_ | refine w_rev ?_ | refine rv_t ?_ | refine rv_n ?_ | refine rv_l ?_ | refine rv_b ?_ | refine w_onone ?_ | refine w_osome ?_ | refine b_asg ?_ | refine b_ret ?_ | refine b_retN ?_ | refine b_expr ?_ | refine b_pass ?_ | refine b_ifs ?_ | refine b_for ?_ | refine b_asgO ?_ | refine b_asgR ?_ | refine bw_add ?_ | refine bw_sub ?_ | refine cw_lt ?_ | refine cw_le ?_ | refine cw_gt ?_ | refine cw_ge ?_ | refine cw_eqI ?_ | refine cw_neI ?_ | refine bl_w ?_ | refine if_t ?_ | refine if_f ?_ | refine w_comp ?_ | refine b_nil ?_ | refine b_par ?_ | refine b_par2 ?_ | refine b_appO rfl ?_ | refine b_extO rfl ?_ | refine fl_rt ?_ | refine fl_nx ?_ | refine And.intro (by assumption) ?_ | refine And.intro rfl ?_ | refine ⟨_, rfl, ?_⟩ | refine ⟨_, _, rfl, rfl, ?_⟩ | refine ⟨_, rfl, rfl, ?_⟩ | refine ⟨_, _, _, rfl, rfl, rfl, ?_⟩ | refine ⟨_, _, _, rfl, rfl, atD0, ?_⟩ | refine ⟨_, _, _, rfl, rfl, atD1, ?_⟩ | refine ⟨_, _, rfl, rfl, rfl, ?_⟩ | refine for_cons rfl ?_ | refine for_nil ?_ | dsimp only))
                  refine O.wp_eq (is_integer_eq h1 (noObj_of he)) ?_
                  rw [← eg]
                  (repeat' (first | refine w_v rfl ?_ | refine w_int ?_ | refine w_bl ?_ | refine w_non ?_ | refine w_str ?_ | refine w_cons ?_ | refine w_nil ?_ | refine w_bin ?_ | refine w_cmp ?_ | refine w_call ?_ | refine w_bi ?_ | refine w_isi ?_ | refine w_ix ?_ | refine w_and ?_ | refine w_or ?_ | refine w_not ?_ | refine w_chn ?_ | refine w_tup ?_ | refine w_lst ?_ | refine w_ite ?_ | refine w_neg ?_ | refine w_sl ?_ | refine sl_t ?_ | refine sl_n ?_ | refine sl_b ?_ | refine sl_l ?_ | refine w_rev ?_ | refine rv_t ?_ | refine rv_n ?_ | refine rv_l ?_ | refine rv_b ?_ | refine w_onone ?_ | refine w_osome ?_ | refine b_asg ?_ | refine b_ret ?_ | refine b_retN ?_ | refine b_expr ?_ | refine b_pass ?_ | refine b_ifs ?_ | refine b_for ?_ | refine b_asgO ?_ | refine b_asgR ?_ | refine bw_add ?_ | refine bw_sub ?_ | refine cw_lt ?_ | refine cw_le ?_ | refine cw_gt ?_ | refine cw_ge ?_ | refine cw_eqI ?_ | refine cw_neI ?_ | refine bl_w ?_ | refine if_t ?_ | refine if_f ?_ | refine w_comp ?_ | refine b_nil ?_ | refine b_par ?_ | refine b_par2 ?_ | refine b_appO rfl ?_ | refine b_extO rfl ?_ | refine fl_rt ?_ | refine fl_nx ?_ | refine And.intro (by assumption) ?_ | refine And.intro rfl ?_ | refine ⟨_, rfl, ?_⟩ | refine ⟨_, _, rfl, rfl, ?_⟩ | refine ⟨_, rfl, rfl, ?_⟩ | refine ⟨_, _, _, rfl, rfl, rfl, ?_⟩ | refine ⟨_, _, _, rfl, rfl, atD0, ?_⟩ | refine ⟨_, _, _, rfl, rfl, atD1, ?_⟩ | refine ⟨_, _, rfl, rfl, rfl, ?_⟩ | refine for_cons rfl ?_ | refine for_nil ?_ | dsimp only))
                  rw [actB_four]
                  simp [hi, hb2, hf, hi2]
      all_goals (repeat' (first | refine w_v rfl ?_ | refine w_int ?_ | refine w_bl ?_ | refine w_non ?_ | refine w_str ?_ | refine w_cons ?_ | refine w_nil ?_ | refine w_bin ?_ | refine w_cmp ?_ | refine w_call ?_ | refine w_bi ?_ | refine w_isi ?_ | refine w_ix ?_ | refine w_and ?_ | refine w_or ?_ | refine w_not ?_ | refine w_chn ?_ | refine w_tup ?_ | refine w_lst ?_ | refine w_ite ?_ | refine w_neg ?_ | refine w_sl ?_ | refine sl_t ?_ | refine sl_n ?_ | refine sl_b ?_ | refine sl_l ?_ | refine w_rev ?_ | refine rv_t ?_ | refine rv_n ?_ | refine rv_l ?_ | refine rv_b ?_ | refine w_onone ?_ | refine w_osome ?_ | refine b_asg ?_ | refine b_ret ?_ | refine b_retN ?_ | refine b_expr ?_ | refine b_pass ?_ | refine b_ifs ?_ | refine b_for ?_ | refine b_asgO ?_ | refine b_asgR ?_ | refine bw_add ?_ | refine bw_sub ?_ | refine cw_lt ?_ | refine cw_le ?_ | refine cw_gt ?_ | refine cw_ge ?_ | refine cw_eqI ?_ | refine cw_neI ?_ | refine bl_w ?_ | refine if_t ?_ | refine if_f ?_ | refine w_comp ?_ | refine b_nil ?_ | refine b_par ?_ | refine b_par2 ?_ | refine b_appO rfl ?_ | refine b_extO rfl ?_ | refine fl_rt ?_ | refine fl_nx ?_ | refine And.intro (by assumption) ?_ | refine And.intro rfl ?_ | refine ⟨_, rfl, ?_⟩ | refine ⟨_, _, rfl, rfl, ?_⟩ | refine ⟨_, rfl, rfl, ?_⟩ | refine ⟨_, _, _, rfl, rfl, rfl, ?_⟩ | refine ⟨_, _, _, rfl, rfl, atD0, ?_⟩ | refine ⟨_, _, _, rfl, rfl, atD1, ?_⟩ | refine ⟨_, _, rfl, rfl, rfl, ?_⟩ | refine for_cons rfl ?_ | refine for_nil ?_ | dsimp only))
    · have e := actB_len (t := t) (es := es) (xs := xs) (by omega) (by omega)
      (repeat' (first | refine w_v rfl ?_ | refine w_int ?_ | refine w_bl ?_ | refine w_non ?_ | refine w_str ?_ | refine w_cons ?_ | refine w_nil ?_ | refine w_bin ?_ | refine w_cmp ?_ | refine w_call ?_ | refine w_bi ?_ | refine w_isi ?_ | refine w_ix ?_ | refine w_and ?_ | refine w_or ?_ | refine w_not ?_ | refine w_chn ?_ | refine w_tup ?_ | refine w_lst ?_ | refine w_ite ?_ | refine w_neg ?_ | refine w_sl ?_ | refine sl_t ?_ | refine sl_n ?_ | refine sl_b ?_ | refine sl_l ?_ | refine w_rev ?_ | refine rv_t ?_ | refine rv_n ?_ | refine rv_l ?_ | refine rv_b ?_ | refine w_onone ?_ | refine w_osome ?_ | refine b_asg ?_ | refine b_ret ?_ | refine b_retN ?_ | refine b_expr ?_ | refine b_pass ?_ | refine b_ifs ?_ | refine b_for ?_ | refine b_asgO ?_ | refine b_asgR ?_ | refine bw_add ?_ | refine bw_sub ?_ | refine cw_lt ?_ | refine cw_le ?_ | refine cw_gt ?_ | refine cw_ge ?_ | refine cw_eqI ?_ | refine cw_neI ?_ | refine bl_w ?_ | refine if_t ?_ | refine if_f ?_ | refine w_comp ?_ | refine b_nil ?_ | refine b_par ?_ | refine b_par2 ?_ | refine b_appO rfl ?_ | refine b_extO rfl ?_ | refine fl_rt ?_ | refine fl_nx ?_ | refine And.intro (by assumption) ?_ | refine And.intro rfl ?_ | refine ⟨_, rfl, ?_⟩ | refine ⟨_, _, rfl, rfl, ?_⟩ | refine ⟨_, rfl, rfl, ?_⟩ | refine ⟨_, _, _, rfl, rfl, rfl, ?_⟩ | refine ⟨_, _, _, rfl, rfl, atD0, ?_⟩ | refine ⟨_, _, _, rfl, rfl, atD1, ?_⟩ | refine ⟨_, _, rfl, rfl, rfl, ?_⟩ | refine for_cons rfl ?_ | refine for_nil ?_ | dsimp only))
      by_cases h2 : (2 : Int) ≤ (xs.length : Nat)
      · rw [decide_eq_true h2]
        (repeat' (first | refine w_v rfl ?_ | refine w_int ?_ | refine w_bl ?_ | refine w_non ?_ | refine w_str ?_ | refine w_cons ?_ | refine w_nil ?_ | refine w_bin ?_ | refine w_cmp ?_ | refine w_call ?_ | refine w_bi ?_ | refine w_isi ?_ | refine w_ix ?_ | refine w_and ?_ | refine w_or ?_ | refine w_not ?_ | refine w_chn ?_ | refine w_tup ?_ | refine w_lst ?_ | refine w_ite ?_ | refine w_neg ?_ | refine w_sl ?_ | refine sl_t ?_ | refine sl_n ?_ | refine sl_b ?_ | refine sl_l ?_ | refine w_rev ?_ | refine rv_t ?_ | refine rv_n ?_ | refine rv_l ?_ | refine rv_b ?_ | refine w_onone ?_ | refine w_osome ?_ | refine b_asg ?_ | refine b_ret ?_ | refine b_retN ?_ | refine b_expr ?_ | refine b_pass ?_ | refine b_ifs ?_ | refine b_for ?_ | refine b_asgO ?_ | refine b_asgR ?_ | refine bw_add ?_ | refine bw_sub ?_ | refine cw_lt ?_ | refine cw_le ?_ | refine cw_gt ?_ | refine cw_ge ?_ | refine cw_eqI ?_ | refine cw_neI ?_ | refine bl_w ?_ | refine if_t ?_ | refine if_f ?_ | refine w_comp ?_ | refine b_nil ?_ | refine b_par ?_ | refine b_par2 ?_ | refine b_appO rfl ?_ | refine b_extO rfl ?_ | refine fl_rt ?_ | refine fl_nx ?_ | refine And.intro (by assumption) ?_ | refine And.intro rfl ?_ | refine ⟨_, rfl, ?_⟩ | refine ⟨_, _, rfl, rfl, ?_⟩ | refine ⟨_, rfl, rfl, ?_⟩ | refine ⟨_, _, _, rfl, rfl, rfl, ?_⟩ | refine ⟨_, _, _, rfl, rfl, atD0, ?_⟩ | refine ⟨_, _, _, rfl, rfl, atD1, ?_⟩ | refine ⟨_, _, rfl, rfl, rfl, ?_⟩ | refine for_cons rfl ?_ | refine for_nil ?_ | dsimp only))
        rw [decide_eq_false (by omega : ¬ ((xs.length : Nat) : Int) ≤ 4)]
        (repeat' (first | refine w_v rfl ?_ | refine w_int ?_ | refine w_bl ?_ | refine w_non ?_ | refine w_str ?_ | refine w_cons ?_ | refine w_nil ?_ | refine w_bin ?_ | refine w_cmp ?_ | refine w_call ?_ | refine w_bi ?_ | refine w_isi ?_ | refine w_ix ?_ | refine w_and ?_ | refine w_or ?_ | refine w_not ?_ | refine w_chn ?_ | refine w_tup ?_ | refine w_lst ?_ | refine w_ite ?_ | refine w_neg ?_ | refine w_sl ?_ | refine sl_t ?_ | refine sl_n ?_ | refine sl_b ?_ | refine sl_l ?_ | refine w_rev ?_ | refine rv_t ?_ | refine rv_n ?_ | refine rv_l ?_ | refine rv_b ?_ | refine w_onone ?_ | refine w_osome ?_ | refine b_asg ?_ | refine b_ret ?_ | refine b_retN ?_ | refine b_expr ?_ | refine b_pass ?_ | refine b_ifs ?_ | refine b_for ?_ | refine b_asgO ?_ | refine b_asgR ?_ | refine bw_add ?_ | refine bw_sub ?_ | refine cw_lt ?_ | refine cw_le ?_ | refine cw_gt ?_ | refine cw_ge ?_ | refine cw_eqI ?_ | refine cw_neI ?_ | refine bl_w ?_ | refine if_t ?_ | refine if_f ?_ | refine w_comp ?_ | refine b_nil ?_ | refine b_par ?_ | refine b_par2 ?_ | refine b_appO rfl ?_ | refine b_extO rfl ?_ | refine fl_rt ?_ | refine fl_nx ?_ | refine And.intro (by assumption) ?_ | refine And.intro rfl ?_ | refine ⟨_, rfl, ?_⟩ | refine ⟨_, _, rfl, rfl, ?_⟩ | refine ⟨_, rfl, rfl, ?_⟩ | refine ⟨_, _, _, rfl, rfl, rfl, ?_⟩ | refine ⟨_, _, _, rfl, rfl, atD0, ?_⟩ | refine ⟨_, _, _, rfl, rfl, atD1, ?_⟩ | refine ⟨_, _, rfl, rfl, rfl, ?_⟩ | refine for_cons rfl ?_ | refine for_nil ?_ | dsimp only))
        exact ⟨by rw [e], rfl⟩
      · rw [decide_eq_false h2]
        (repeat' (first | refine w_v rfl ?_ | refine w_int ?_ | refine w_bl ?_ | refine w_non ?_ | refine w_str ?_ | refine w_cons ?_ | refine w_nil ?_ | refine w_bin ?_ | refine w_cmp ?_ | refine w_call ?_ | refine w_bi ?_ | refine w_isi ?_ | refine w_ix ?_ | refine w_and ?_ | refine w_or ?_ | refine w_not ?_ | refine w_chn ?_ | refine w_tup ?_ | refine w_lst ?_ | refine w_ite ?_ | refine w_neg ?_ | refine w_sl ?_ | refine sl_t ?_ | refine sl_n ?_ | refine sl_b ?_ | refine sl_l ?_ | refine w_rev ?_ | refine rv_t ?_ | refine rv_n ?_ | refine rv_l ?_ | refine rv_b ?_ | refine w_onone ?_ | refine w_osome ?_ | refine b_asg ?_ | refine b_ret ?_ | refine b_retN ?_ | refine b_expr ?_ | refine b_pass ?_ | refine b_ifs ?_ | refine b_for ?_ | refine b_asgO ?_ | refine b_asgR ?_ | refine bw_add ?_ | refine bw_sub ?_ | refine cw_lt ?_ | refine cw_le ?_ | refine cw_gt ?_ | refine cw_ge ?_ | refine cw_eqI ?_ | refine cw_neI ?_ | refine bl_w ?_ | refine if_t ?_ | refine if_f ?_ | refine w_comp ?_ | refine b_nil ?_ | refine b_par ?_ | refine b_par2 ?_ | refine b_appO rfl ?_ | refine b_extO rfl ?_ | refine fl_rt ?_ | refine fl_nx ?_ | refine And.intro (by assumption) ?_ | refine And.intro rfl ?_ | refine ⟨_, rfl, ?_⟩ | refine ⟨_, _, rfl, rfl, ?_⟩ | refine ⟨_, rfl, rfl, ?_⟩ | refine ⟨_, _, _, rfl, rfl, rfl, ?_⟩ | refine ⟨_, _, _, rfl, rfl, atD0, ?_⟩ | refine ⟨_, _, _, rfl, rfl, atD1, ?_⟩ | refine ⟨_, _, rfl, rfl, rfl, ?_⟩ | refine for_cons rfl ?_ | refine for_nil ?_ | dsimp only))
        exact ⟨by rw [e], rfl⟩
  all_goals
    (repeat' (first | refine w_v rfl ?_ | refine w_int ?_ | refine w_bl ?_ | refine w_non ?_ | refine w_str ?_ | refine w_cons ?_ | refine w_nil ?_ | refine w_bin ?_ | refine w_cmp ?_ | refine w_call ?_ | refine w_bi ?_ | refine w_isi ?_ | refine w_ix ?_ | refine w_and ?_ | refine w_or ?_ | refine w_not ?_ | refine w_chn ?_ | refine w_tup ?_ | refine w_lst ?_ | refine w_ite ?_ | refine w_neg ?_ | refine w_sl ?_ | refine sl_t ?_ | refine sl_n ?_ | refine sl_b ?_ | refine sl_l ?_ | refine w_rev ?_ | refine rv_t ?_ | refine rv_n ?_ | refine rv_l ?_ | refine rv_b ?_ | refine w_onone ?_ | refine w_osome ?_ | refine b_asg ?_ | refine b_ret ?_ | refine b_retN ?_ | refine b_expr ?_ | refine b_pass ?_ | refine b_ifs ?_ | refine b_for ?_ | refine b_asgO ?_ | refine b_asgR ?_ | refine bw_add ?_ | refine bw_sub ?_ | refine cw_lt ?_ | refine cw_le ?_ | refine cw_gt ?_ | refine cw_ge ?_ | refine cw_eqI ?_ | refine cw_neI ?_ | refine bl_w ?_ | refine if_t ?_ | refine if_f ?_ | refine w_comp ?_ | refine b_nil ?_ | refine b_par ?_ | refine b_par2 ?_ | refine b_appO rfl ?_ | refine b_extO rfl ?_ | refine fl_rt ?_ | refine fl_nx ?_ | refine And.intro (by assumption) ?_ | refine And.intro rfl ?_ | refine ⟨_, rfl, ?_⟩ | refine ⟨_, _, rfl, rfl, ?_⟩ | refine ⟨_, rfl, rfl, ?_⟩ | refine ⟨_, _, _, rfl, rfl, rfl, ?_⟩ | refine ⟨_, _, _, rfl, rfl, atD0, ?_⟩ | refine ⟨_, _, _, rfl, rfl, atD1, ?_⟩ | refine ⟨_, _, rfl, rfl, rfl, ?_⟩ | refine for_cons rfl ?_ | refine for_nil ?_ | dsimp only))
    try simp [actB]
end GV
set_option Elab.async false
set_option linter.all false
set_option maxRecDepth 100000
set_option maxHeartbeats 4000000
/-! GA5: all acts of a board; some of them. -/
namespace GV
open PySem L2
def feeN (n th g : Int) : List D := (rngD 1 (g + 1)).map fun d => .tup [.str "fee", .int n, .int th, d]
def feesI (n : Int) (gs : List (Int × Nat)) : List D := gs.flatMap fun p => feeN n (p.2 : Nat) p.1
def blkI (n : Int) (e : Ex) : List D := barD n :: feesI n e.2.zipIdx
def actsTo (es : List (Ex × Nat)) : List D := es.flatMap fun p => blkI (p.2 : Nat) p.1
def actsOf (es : List Ex) : List D := actsTo es.zipIdx
theorem feeN_mem {n th g : Int} {d : D} (h : d ∈ feeN n th g) : ∃ a : Int, d = feeD n th a ∧ 1 ≤ a ∧ a ≤ g := by
  simp only [feeN, List.mem_map] at h
  obtain ⟨x, hx, rfl⟩ := h
  obtain ⟨i, rfl, i0, i1⟩ := rngD_mem hx
  exact ⟨i, rfl, i0, by omega⟩
theorem feeN_len {n th g : Int} (h : g ≤ 5) : (feeN n th g).length ≤ 5 := by
  simp only [feeN, List.length_map, rngD_len]
  omega
theorem feeN_nodup {n th g : Int} : (feeN n th g).Nodup := by
  unfold feeN rngD
  rw [List.map_map]
  have h := List.nodup_range (n := (g + 1 - 1).toNat)
  refine List.Pairwise.map _ (fun a b hab e => hab ?_) h
  simp only [Function.comp, D.tup.injEq, List.cons.injEq, D.int.injEq, and_true, true_and] at e
  omega
theorem zipIdx_pair {α : Type} (l : List α) (k : Nat) : (l.zipIdx k).Pairwise fun a b => a.2 ≠ b.2 := by
  have h : ((l.zipIdx k).map Prod.snd).Nodup := by rw [List.zipIdx_map_snd]; exact List.nodup_range'
  exact List.pairwise_map.mp h
theorem feesI_mem {n : Int} {gs : List (Int × Nat)} {d : D} (h : d ∈ feesI n gs) : ∃ (p : Int × Nat) (a : Int), p ∈ gs ∧ d = feeD n (p.2 : Nat) a ∧ 1 ≤ a ∧ a ≤ p.1 := by
  simp only [feesI, List.mem_flatMap] at h
  obtain ⟨p, hp, h⟩ := h
  obtain ⟨a, e, a0, a1⟩ := feeN_mem h
  exact ⟨p, a, hp, e, a0, a1⟩
theorem blkI_mem {n : Int} {e : Ex} {d : D} (h : d ∈ blkI n e) : d = barD n ∨ ∃ (th : Nat) (g a : Int), e.2[th]? = some g ∧ d = feeD n (th : Nat) a ∧ 1 ≤ a ∧ a ≤ g := by
  simp only [blkI, List.mem_cons] at h
  rcases h with h | h
  · exact .inl h
  · obtain ⟨⟨g, th⟩, a, hp, e1, a0, a1⟩ := feesI_mem h
    exact .inr ⟨th, g, a, List.mem_zipIdx_iff_getElem?.mp hp, e1, a0, a1⟩
theorem actsOf_mem {es : List Ex} {d : D} (h : d ∈ actsOf es) : ∃ (n : Nat) (e : Ex), es[n]? = some e ∧ (d = barD n ∨ ∃ (th : Nat) (g a : Int), e.2[th]? = some g ∧ d = feeD n (th : Nat) a ∧ 1 ≤ a ∧ a ≤ g) := by
  simp only [actsOf, actsTo, List.mem_flatMap] at h
  obtain ⟨⟨e, n⟩, hp, h⟩ := h
  exact ⟨n, e, List.mem_zipIdx_iff_getElem?.mp hp, blkI_mem h⟩
theorem actsOf_actL {es : List Ex} {d : D} (h : d ∈ actsOf es) : ActL d := by
  obtain ⟨n, e, _, rfl | ⟨th, g, a, _, rfl, _⟩⟩ := actsOf_mem h
  · exact .bar _
  · exact .fee _ _ _
theorem actsOf_actB {t : Int} {es : List Ex} {d : D} (v : BV t es) (h : d ∈ actsOf es) : actB t es d = true := by
  obtain ⟨n, e, hn, h⟩ := actsOf_mem h
  have hnl := (List.getElem?_eq_some_iff.mp hn).1
  have i1 : isInt 0 ((es.length : Int) - 1) (.int (n : Nat)) = true := by
    simp only [isInt, Bool.and_eq_true, decide_eq_true_eq]
    omega
  rcases h with rfl | ⟨th, g, a, hth, rfl, a0, a1⟩
  · unfold barD
    rw [actB_two]
    simp only [i1, Bool.true_and]
    decide +kernel
  · unfold feeD
    rw [actB_four]
    have htl := (List.getElem?_eq_some_iff.mp hth).1
    have l2 := (v.ex e (List.mem_of_getElem? hn)).l2
    have i2 : isInt 0 (t - 1) (.int (th : Nat)) = true := by
      simp only [isInt, Bool.and_eq_true, decide_eq_true_eq]
      omega
    have eg : giveAt es n th = g := by
      unfold giveAt
      simp [hn, hth]
    have i3 : isInt 1 (giveAt es n th) (.int a) = true := by
      rw [eg]
      simp only [isInt, Bool.and_eq_true, decide_eq_true_eq]
      exact ⟨a0, a1⟩
    simp only [i1, i2, i3, Bool.true_and, Bool.and_true]
    decide +kernel
theorem blk_nodup {n : Int} {e : Ex} : (blkI n e).Nodup := by
  unfold blkI
  rw [List.nodup_cons]
  refine ⟨fun h => ?_, ?_⟩
  · obtain ⟨p, a, _, e1, _⟩ := feesI_mem h
    simp [barD, feeD] at e1
  · unfold feesI
    refine List.pairwise_flatMap.mpr ⟨fun p _ => feeN_nodup, (zipIdx_pair _ _).imp fun {p q} hpq x hx y hy e => hpq ?_⟩
    obtain ⟨a, rfl, _⟩ := feeN_mem hx
    obtain ⟨b, rfl, _⟩ := feeN_mem hy
    simp only [feeD, D.tup.injEq, List.cons.injEq, D.int.injEq, and_true, true_and] at e
    omega
theorem blkI_num {n : Int} {e : Ex} {d : D} (h : d ∈ blkI n e) : ∃ s r, d = .tup (.str s :: .int n :: r) := by
  rcases blkI_mem h with rfl | ⟨th, g, a, _, rfl, _⟩
  · exact ⟨_, _, rfl⟩
  · exact ⟨_, _, rfl⟩
theorem actsOf_nodup {es : List Ex} : (actsOf es).Nodup := by
  unfold actsOf actsTo
  refine List.pairwise_flatMap.mpr ⟨fun p _ => blk_nodup, (zipIdx_pair _ _).imp fun {p q} hpq x hx y hy e => hpq ?_⟩
  obtain ⟨s, r, rfl⟩ := blkI_num hx
  obtain ⟨s', r', rfl⟩ := blkI_num hy
  simp only [D.tup.injEq, List.cons.injEq, D.int.injEq] at e
  omega
/-- all acts, sorted -/
def allA (es : List Ex) : List D := sortA (actsOf es)
theorem allA_srt {es : List Ex} : Srt (allA es) := sortA_lt (fun _ h => actsOf_actL h) actsOf_nodup
theorem allA_mem {es : List Ex} {d : D} : d ∈ allA es ↔ d ∈ actsOf es := sortA_mem
theorem allA_actL {es : List Ex} {d : D} (h : d ∈ allA es) : ActL d := actsOf_actL (allA_mem.mp h)
theorem allA_nodup {es : List Ex} : (allA es).Nodup := (sortA_perm _).nodup_iff.mpr actsOf_nodup
theorem flat_len {α β : Type} {f : α → List β} {c : Nat} : ∀ {l : List α}, (∀ a ∈ l, (f a).length ≤ c) → (l.flatMap f).length ≤ c * l.length
  | [], _ => by simp
  | a :: l, h => by
    have h1 := h a (by simp)
    have h2 := flat_len (l := l) fun b hb => h b (by simp [hb])
    simp only [List.flatMap_cons, List.length_append, List.length_cons, Nat.mul_succ]
    omega
theorem actsOf_len {t : Int} {es : List Ex} (v : BV t es) : (actsOf es).length ≤ 126 := by
  have h : (actsOf es).length ≤ 21 * es.zipIdx.length := by
    unfold actsOf actsTo
    refine flat_len fun p hp => ?_
    have ve := v.ex p.1 (List.mem_of_getElem? (List.mem_zipIdx_iff_getElem?.mp (show (p.1, p.2) ∈ es.zipIdx from hp)))
    have h2 : (feesI (p.2 : Nat) p.1.2.zipIdx).length ≤ 5 * p.1.2.zipIdx.length := by
      unfold feesI
      refine flat_len fun q hq => feeN_len ?_
      exact (ve.b2 q.1 (List.mem_of_getElem? (List.mem_zipIdx_iff_getElem?.mp (show (q.1, q.2) ∈ p.1.2.zipIdx from hq)))).2
    have l2 := ve.l2
    have t4 := v.t4
    simp only [List.length_zipIdx] at h2
    simp only [blkI, List.length_cons]
    omega
  have := v.len
  simp only [List.length_zipIdx] at h
  omega
theorem allA_len {t : Int} {es : List Ex} (v : BV t es) : (allA es).length ≤ 126 := by
  unfold allA
  rw [(sortA_perm _).length_eq]
  exact actsOf_len v
theorem take_flat {α β : Type} {f : α → List β} {l : List α} {i : Nat} {a : α} (h : l[i]? = some a) : (l.take (i + 1)).flatMap f = (l.take i).flatMap f ++ f a := by
  rw [List.take_succ, h]
  simp
theorem all_acts_eq {p : Pg} (h62 : p.Pt 62 = some f_law_all_acts) {n : Nat} {t : Int} {es : List Ex} {h : MH} (v : BV t es) : p.c (n + 1) 62 [.v (bD t es)] h = .ok (.nl (allA es)) h := by
  refine O.eq_of (Pg.call_wp h62 rfl ?_)
  unfold f_law_all_acts b_law_all_acts
  have hle := v.len
  (repeat' (first | refine w_v rfl ?_ | refine w_int ?_ | refine w_bl ?_ | refine w_non ?_ | refine w_str ?_ | refine w_cons ?_ | refine w_nil ?_ | refine w_bin ?_ | refine w_cmp ?_ | refine w_call ?_ | refine w_bi ?_ | refine w_isi ?_ | refine w_ix ?_ | refine w_and ?_ | refine w_or ?_ | refine w_not ?_ | refine w_chn ?_ | refine w_tup ?_ | refine w_lst ?_ | refine w_ite ?_ | refine w_neg ?_ | refine w_sl ?_ | refine sl_t ?_ | refine sl_n ?_ | refine sl_b ?_ | refine sl_l ?_ | refine w_rev ?_ | refine rv_t ?_ | refine rv_n ?_ | refine rv_l ?_ | refine rv_b ?_ | refine w_onone ?_ | refine w_osome ?_ | refine b_asg ?_ | refine b_ret ?_ | refine b_retN ?_ | refine b_expr ?_ | refine b_pass ?_ | refine b_ifs ?_ | refine b_for ?_ | refine b_asgO ?_ | refine b_asgR ?_ | refine bw_add ?_ | refine bw_sub ?_ | refine cw_lt ?_ | refine cw_le ?_ | refine cw_gt ?_ | refine cw_ge ?_ | refine cw_eqI ?_ | refine cw_neI ?_ | refine bl_w ?_ | refine if_t ?_ | refine if_f ?_ | refine w_comp ?_ | refine b_nil ?_ | refine b_par ?_ | refine b_par2 ?_ | refine b_appO rfl ?_ | refine b_extO rfl ?_ | refine fl_rt ?_ | refine fl_nx ?_ | refine And.intro (by assumption) ?_ | refine And.intro rfl ?_ | refine ⟨_, rfl, ?_⟩ | refine ⟨_, _, rfl, rfl, ?_⟩ | refine ⟨_, rfl, rfl, ?_⟩ | refine ⟨_, _, _, rfl, rfl, rfl, ?_⟩ | refine ⟨_, _, _, rfl, rfl, atD0, ?_⟩ | refine ⟨_, _, _, rfl, rfl, atD1, ?_⟩ | refine ⟨_, _, rfl, rfl, rfl, ?_⟩ | refine for_cons rfl ?_ | refine for_nil ?_ | dsimp only))
  refine for_inv (fun j ss h' => (∃ x2 x3 x4 x5 x6, ss = [some (.v (bD t es)), some (.own (actsTo (es.zipIdx.take j))), x2, x3, x4, x5, x6]) ∧ (actsTo (es.zipIdx.take j)).length ≤ 21 * j ∧ h' = h) ⟨⟨_, _, _, _, _, rfl⟩, by simp [actsTo], rfl⟩ (fun j d hd ss h' J => ?_) fun ss h' J => ?_
  · obtain ⟨⟨x2, x3, x4, x5, x6, rfl⟩, hlen, rfl⟩ := J
    have hj : ∃ e, es[j]? = some e ∧ d = .tup [.int (j : Nat), exD e] := by
      simp only [List.getElem?_map, List.getElem?_zipIdx, Option.map_eq_some_iff] at hd
      obtain ⟨a, ⟨b, ⟨e, e1, e2⟩, e3⟩, e4⟩ := hd
      subst e2 e3 e4
      exact ⟨e, e1, by simp⟩
    obtain ⟨e, e1, rfl⟩ := hj
    have ve := v.ex e (List.mem_of_getElem? e1)
    have hjl := (List.getElem?_eq_some_iff.mp e1).1
    have l2 := ve.l2
    have t4 := v.t4
    refine ⟨_, rfl, ?_⟩
    refine b_appO rfl ?_
    (repeat' (first | refine w_v rfl ?_ | refine w_int ?_ | refine w_bl ?_ | refine w_non ?_ | refine w_str ?_ | refine w_cons ?_ | refine w_nil ?_ | refine w_bin ?_ | refine w_cmp ?_ | refine w_call ?_ | refine w_bi ?_ | refine w_isi ?_ | refine w_ix ?_ | refine w_and ?_ | refine w_or ?_ | refine w_not ?_ | refine w_chn ?_ | refine w_tup ?_ | refine w_lst ?_ | refine w_ite ?_ | refine w_neg ?_ | refine w_sl ?_ | refine sl_t ?_ | refine sl_n ?_ | refine sl_b ?_ | refine sl_l ?_ | refine w_rev ?_ | refine rv_t ?_ | refine rv_n ?_ | refine rv_l ?_ | refine rv_b ?_ | refine w_onone ?_ | refine w_osome ?_ | refine b_asg ?_ | refine b_ret ?_ | refine b_retN ?_ | refine b_expr ?_ | refine b_pass ?_ | refine b_ifs ?_ | refine b_for ?_ | refine b_asgO ?_ | refine b_asgR ?_ | refine bw_add ?_ | refine bw_sub ?_ | refine cw_lt ?_ | refine cw_le ?_ | refine cw_gt ?_ | refine cw_ge ?_ | refine cw_eqI ?_ | refine cw_neI ?_ | refine bl_w ?_ | refine if_t ?_ | refine if_f ?_ | refine w_comp ?_ | refine b_nil ?_ | refine b_par ?_ | refine b_par2 ?_ | refine b_appO rfl ?_ | refine b_extO rfl ?_ | refine fl_rt ?_ | refine fl_nx ?_ | refine And.intro (by assumption) ?_ | refine And.intro rfl ?_ | refine ⟨_, rfl, ?_⟩ | refine ⟨_, _, rfl, rfl, ?_⟩ | refine ⟨_, rfl, rfl, ?_⟩ | refine ⟨_, _, _, rfl, rfl, rfl, ?_⟩ | refine ⟨_, _, _, rfl, rfl, atD0, ?_⟩ | refine ⟨_, _, _, rfl, rfl, atD1, ?_⟩ | refine ⟨_, _, rfl, rfl, rfl, ?_⟩ | refine for_cons rfl ?_ | refine for_nil ?_ | dsimp only))
    refine ⟨_, _, rfl, small_of (by omega), rfl, ?_⟩
    (repeat' (first | refine w_v rfl ?_ | refine w_int ?_ | refine w_bl ?_ | refine w_non ?_ | refine w_str ?_ | refine w_cons ?_ | refine w_nil ?_ | refine w_bin ?_ | refine w_cmp ?_ | refine w_call ?_ | refine w_bi ?_ | refine w_isi ?_ | refine w_ix ?_ | refine w_and ?_ | refine w_or ?_ | refine w_not ?_ | refine w_chn ?_ | refine w_tup ?_ | refine w_lst ?_ | refine w_ite ?_ | refine w_neg ?_ | refine w_sl ?_ | refine sl_t ?_ | refine sl_n ?_ | refine sl_b ?_ | refine sl_l ?_ | refine w_rev ?_ | refine rv_t ?_ | refine rv_n ?_ | refine rv_l ?_ | refine rv_b ?_ | refine w_onone ?_ | refine w_osome ?_ | refine b_asg ?_ | refine b_ret ?_ | refine b_retN ?_ | refine b_expr ?_ | refine b_pass ?_ | refine b_ifs ?_ | refine b_for ?_ | refine b_asgO ?_ | refine b_asgR ?_ | refine bw_add ?_ | refine bw_sub ?_ | refine cw_lt ?_ | refine cw_le ?_ | refine cw_gt ?_ | refine cw_ge ?_ | refine cw_eqI ?_ | refine cw_neI ?_ | refine bl_w ?_ | refine if_t ?_ | refine if_f ?_ | refine w_comp ?_ | refine b_nil ?_ | refine b_par ?_ | refine b_par2 ?_ | refine b_appO rfl ?_ | refine b_extO rfl ?_ | refine fl_rt ?_ | refine fl_nx ?_ | refine And.intro (by assumption) ?_ | refine And.intro rfl ?_ | refine ⟨_, rfl, ?_⟩ | refine ⟨_, _, rfl, rfl, ?_⟩ | refine ⟨_, rfl, rfl, ?_⟩ | refine ⟨_, _, _, rfl, rfl, rfl, ?_⟩ | refine ⟨_, _, _, rfl, rfl, atD0, ?_⟩ | refine ⟨_, _, _, rfl, rfl, atD1, ?_⟩ | refine ⟨_, _, rfl, rfl, rfl, ?_⟩ | refine for_cons rfl ?_ | refine for_nil ?_ | dsimp only))
    refine for_inv (fun i ss h2 => (∃ x4 x5 x6, ss = [some (.v (bD t es)), some (.own (actsTo (es.zipIdx.take j) ++ [barD (j : Nat)] ++ feesI (j : Nat) (e.2.zipIdx.take i))), some (.v (.int (j : Nat))), some (.v (exD e)), x4, x5, x6]) ∧ (feesI (j : Nat) (e.2.zipIdx.take i)).length ≤ 5 * i ∧ h2 = h') ⟨⟨_, _, _, by simp only [List.take_zero, feesI, List.flatMap_nil, List.append_nil]; rfl⟩, by simp [feesI], rfl⟩ (fun i d hd ss h' J => ?_) fun ss h' J => ?_
    · obtain ⟨⟨x4, x5, x6, rfl⟩, hlen2, rfl⟩ := J
      have hi : ∃ g, e.2[i]? = some g ∧ d = .tup [.int (i : Nat), .int g] := by
        simp only [List.getElem?_map, List.getElem?_zipIdx, Option.map_eq_some_iff] at hd
        obtain ⟨a, ⟨b, ⟨g, e1, e2⟩, e3⟩, e4⟩ := hd
        subst e2 e3 e4
        exact ⟨g, e1, by simp⟩
      obtain ⟨g, e2, rfl⟩ := hi
      have hil := (List.getElem?_eq_some_iff.mp e2).1
      have hg := ve.b2 g (List.mem_of_getElem? e2)
      refine ⟨_, rfl, ?_⟩
      refine b_extO rfl ?_
      (repeat' (first | refine w_v rfl ?_ | refine w_int ?_ | refine w_bl ?_ | refine w_non ?_ | refine w_str ?_ | refine w_cons ?_ | refine w_nil ?_ | refine w_bin ?_ | refine w_cmp ?_ | refine w_call ?_ | refine w_bi ?_ | refine w_isi ?_ | refine w_ix ?_ | refine w_and ?_ | refine w_or ?_ | refine w_not ?_ | refine w_chn ?_ | refine w_tup ?_ | refine w_lst ?_ | refine w_ite ?_ | refine w_neg ?_ | refine w_sl ?_ | refine sl_t ?_ | refine sl_n ?_ | refine sl_b ?_ | refine sl_l ?_ | refine w_rev ?_ | refine rv_t ?_ | refine rv_n ?_ | refine rv_l ?_ | refine rv_b ?_ | refine w_onone ?_ | refine w_osome ?_ | refine b_asg ?_ | refine b_ret ?_ | refine b_retN ?_ | refine b_expr ?_ | refine b_pass ?_ | refine b_ifs ?_ | refine b_for ?_ | refine b_asgO ?_ | refine b_asgR ?_ | refine bw_add ?_ | refine bw_sub ?_ | refine cw_lt ?_ | refine cw_le ?_ | refine cw_gt ?_ | refine cw_ge ?_ | refine cw_eqI ?_ | refine cw_neI ?_ | refine bl_w ?_ | refine if_t ?_ | refine if_f ?_ | refine w_comp ?_ | refine b_nil ?_ | refine b_par ?_ | refine b_par2 ?_ | refine b_appO rfl ?_ | refine b_extO rfl ?_ | refine fl_rt ?_ | refine fl_nx ?_ | refine And.intro (by assumption) ?_ | refine And.intro rfl ?_ | refine ⟨_, rfl, ?_⟩ | refine ⟨_, _, rfl, rfl, ?_⟩ | refine ⟨_, rfl, rfl, ?_⟩ | refine ⟨_, _, _, rfl, rfl, rfl, ?_⟩ | refine ⟨_, _, _, rfl, rfl, atD0, ?_⟩ | refine ⟨_, _, _, rfl, rfl, atD1, ?_⟩ | refine ⟨_, _, rfl, rfl, rfl, ?_⟩ | refine for_cons rfl ?_ | refine for_nil ?_ | dsimp only))
      refine it_rng2 (by decide) (by decide) (by omega) (by omega) ?_
      refine c_pure (fun d => .tup [.str "fee", .int (j : Nat), .int (i : Nat), d]) (fun d hd => ⟨_, rfl, ?_⟩) (by rw [rngD_len]; omega) ?_
      · obtain ⟨a, rfl, _⟩ := rngD_mem hd
        (repeat' (first | refine w_v rfl ?_ | refine w_int ?_ | refine w_bl ?_ | refine w_non ?_ | refine w_str ?_ | refine w_cons ?_ | refine w_nil ?_ | refine w_bin ?_ | refine w_cmp ?_ | refine w_call ?_ | refine w_bi ?_ | refine w_isi ?_ | refine w_ix ?_ | refine w_and ?_ | refine w_or ?_ | refine w_not ?_ | refine w_chn ?_ | refine w_tup ?_ | refine w_lst ?_ | refine w_ite ?_ | refine w_neg ?_ | refine w_sl ?_ | refine sl_t ?_ | refine sl_n ?_ | refine sl_b ?_ | refine sl_l ?_ | refine w_rev ?_ | refine rv_t ?_ | refine rv_n ?_ | refine rv_l ?_ | refine rv_b ?_ | refine w_onone ?_ | refine w_osome ?_ | refine b_asg ?_ | refine b_ret ?_ | refine b_retN ?_ | refine b_expr ?_ | refine b_pass ?_ | refine b_ifs ?_ | refine b_for ?_ | refine b_asgO ?_ | refine b_asgR ?_ | refine bw_add ?_ | refine bw_sub ?_ | refine cw_lt ?_ | refine cw_le ?_ | refine cw_gt ?_ | refine cw_ge ?_ | refine cw_eqI ?_ | refine cw_neI ?_ | refine bl_w ?_ | refine if_t ?_ | refine if_f ?_ | refine w_comp ?_ | refine b_nil ?_ | refine b_par ?_ | refine b_par2 ?_ | refine b_appO rfl ?_ | refine b_extO rfl ?_ | refine fl_rt ?_ | refine fl_nx ?_ | refine And.intro (by assumption) ?_ | refine And.intro rfl ?_ | refine ⟨_, rfl, ?_⟩ | refine ⟨_, _, rfl, rfl, ?_⟩ | refine ⟨_, rfl, rfl, ?_⟩ | refine ⟨_, _, _, rfl, rfl, rfl, ?_⟩ | refine ⟨_, _, _, rfl, rfl, atD0, ?_⟩ | refine ⟨_, _, _, rfl, rfl, atD1, ?_⟩ | refine ⟨_, _, rfl, rfl, rfl, ?_⟩ | refine for_cons rfl ?_ | refine for_nil ?_ | dsimp only))
      · have e3 : e.2.zipIdx[i]? = some (g, i) := by simp [List.getElem?_zipIdx, e2]
        have e4 : feesI (j : Nat) (e.2.zipIdx.take (i + 1)) = feesI (j : Nat) (e.2.zipIdx.take i) ++ feeN (j : Nat) (i : Nat) g := by
          unfold feesI
          exact take_flat (f := fun p : Int × Nat => feeN (j : Nat) (p.2 : Nat) p.1) e3
        have hf : (feeN (j : Nat) (i : Nat) g).length ≤ 5 := feeN_len hg.2
        refine ⟨feeN (j : Nat) (i : Nat) g, _, rfl, small_of ?_, rfl, ?_⟩
        · simp only [List.length_append, List.length_singleton]
          omega
        refine b_nil (fl_nx ⟨⟨some (.v (.int (i : Nat))), some (.v (.int g)), x6, ?_⟩, ?_, rfl⟩)
        · rw [e4, ← List.append_assoc]
          rfl
        · rw [e4, List.length_append]
          omega
    · obtain ⟨⟨x4, x5, x6, rfl⟩, hlen2, rfl⟩ := J
      have e3 : es.zipIdx[j]? = some (e, j) := by simp [List.getElem?_zipIdx, e1]
      have e4 : actsTo (es.zipIdx.take (j + 1)) = actsTo (es.zipIdx.take j) ++ blkI (j : Nat) e := by
        unfold actsTo
        exact take_flat (f := fun p : Ex × Nat => blkI (p.2 : Nat) p.1) e3
      have e5 : e.2.zipIdx.take ((e.2.map D.int).zipIdx.map fun p => D.tup [.int (p.2 : Nat), p.1]).length = e.2.zipIdx := List.take_of_length_le (by simp)
      have e6 : ((e.2.map D.int).zipIdx.map fun p => D.tup [.int (p.2 : Nat), p.1]).length = e.2.length := by simp
      refine b_nil (fl_nx ⟨⟨some (.v (.int (j : Nat))), some (.v (exD e)), x4, x5, x6, ?_⟩, ?_, rfl⟩)
      · rw [e4, e5]
        simp [blkI]
      · rw [e5, e6] at hlen2
        rw [e4, List.length_append]
        simp only [blkI, List.length_cons]
        omega
  · obtain ⟨⟨x2, x3, x4, x5, x6, rfl⟩, hlen, rfl⟩ := J
    have e5 : es.zipIdx.take ((es.map exD).zipIdx.map fun p => D.tup [.int (p.2 : Nat), p.1]).length = es.zipIdx := List.take_of_length_le (by simp)
    have e6 : ((es.map exD).zipIdx.map fun p => D.tup [.int (p.2 : Nat), p.1]).length = es.length := by simp
    rw [e5] at hlen ⊢
    rw [e6] at hlen
    (repeat' (first | refine w_v rfl ?_ | refine w_int ?_ | refine w_bl ?_ | refine w_non ?_ | refine w_str ?_ | refine w_cons ?_ | refine w_nil ?_ | refine w_bin ?_ | refine w_cmp ?_ | refine w_call ?_ | refine w_bi ?_ | refine w_isi ?_ | refine w_ix ?_ | refine w_and ?_ | refine w_or ?_ | refine w_not ?_ | refine w_chn ?_ | refine w_tup ?_ | refine w_lst ?_ | refine w_ite ?_ | refine w_neg ?_ | refine w_sl ?_ | refine sl_t ?_ | refine sl_n ?_ | refine sl_b ?_ | refine sl_l ?_ | refine w_rev ?_ | refine rv_t ?_ | refine rv_n ?_ | refine rv_l ?_ | refine rv_b ?_ | refine w_onone ?_ | refine w_osome ?_ | refine b_asg ?_ | refine b_ret ?_ | refine b_retN ?_ | refine b_expr ?_ | refine b_pass ?_ | refine b_ifs ?_ | refine b_for ?_ | refine b_asgO ?_ | refine b_asgR ?_ | refine bw_add ?_ | refine bw_sub ?_ | refine cw_lt ?_ | refine cw_le ?_ | refine cw_gt ?_ | refine cw_ge ?_ | refine cw_eqI ?_ | refine cw_neI ?_ | refine bl_w ?_ | refine if_t ?_ | refine if_f ?_ | refine w_comp ?_ | refine b_nil ?_ | refine b_par ?_ | refine b_par2 ?_ | refine b_appO rfl ?_ | refine b_extO rfl ?_ | refine fl_rt ?_ | refine fl_nx ?_ | refine And.intro (by assumption) ?_ | refine And.intro rfl ?_ | refine ⟨_, rfl, ?_⟩ | refine ⟨_, _, rfl, rfl, ?_⟩ | refine ⟨_, rfl, rfl, ?_⟩ | refine ⟨_, _, _, rfl, rfl, rfl, ?_⟩ | refine ⟨_, _, _, rfl, rfl, atD0, ?_⟩ | refine ⟨_, _, _, rfl, rfl, atD1, ?_⟩ | refine ⟨_, _, rfl, rfl, rfl, ?_⟩ | refine for_cons rfl ?_ | refine for_nil ?_ | dsimp only))
    refine bi_sort (xs := actsOf es) rfl (srtOk_acts (fun x hx => actsOf_actL hx) (by unfold actsOf; omega)) ?_
    exact ⟨_, rfl, rfl, rfl, rfl⟩
/-! ### some of a list -/
theorem erase_perm {α : Type} : ∀ {l : List α} {i : Nat} (h : i < l.length), (l[i] :: l.eraseIdx i).Perm l
  | x :: l, 0, _ => by simp
  | x :: l, i + 1, h => by
    have h' : i < l.length := by simpa using h
    have := erase_perm (l := l) (i := i) h'
    simp only [List.getElem_cons_succ, List.eraseIdx_cons_succ]
    exact (List.Perm.swap _ _ _).trans (this.cons x)

theorem some_of_wp {p : Pg} (L : PDr p) (h61 : p.Pt 61 = some f_law_some_of) {n i k : Nat} {h0 : MH} {ns : List Int} {xs : List D} {c : Int} {h : MH} (hs : Sta i h0 k h) (hk : k + xs.length < 1000000) (hl : ns.length ≤ 1000) (hx : ∀ x ∈ xs, ActL x) (nd : xs.Nodup) (hc : 0 ≤ c) (hw : xs.length < p.wf) :
    (p.c (n + 4) 61 [.v (scD ns), .v (.obj i), .v (.lst xs), .v (.int c)] h).wp fun r h' => (∃ ys, r = .v (.tup ys) ∧ (∀ y ∈ ys, y ∈ xs) ∧ Srt ys ∧ (ys.length : Int) ≤ c) ∧ Sta i h0 (k + xs.length) h' := by
  refine Pg.call_wp h61 rfl ?_
  unfold f_law_some_of b_law_some_of
  (repeat' (first | refine w_v rfl ?_ | refine w_int ?_ | refine w_bl ?_ | refine w_non ?_ | refine w_str ?_ | refine w_cons ?_ | refine w_nil ?_ | refine w_bin ?_ | refine w_cmp ?_ | refine w_call ?_ | refine w_bi ?_ | refine w_isi ?_ | refine w_ix ?_ | refine w_and ?_ | refine w_or ?_ | refine w_not ?_ | refine w_chn ?_ | refine w_tup ?_ | refine w_lst ?_ | refine w_ite ?_ | refine w_neg ?_ | refine w_sl ?_ | refine sl_t ?_ | refine sl_n ?_ | refine sl_b ?_ | refine sl_l ?_ | refine w_rev ?_ | refine rv_t ?_ | refine rv_n ?_ | refine rv_l ?_ | refine rv_b ?_ | refine w_onone ?_ | refine w_osome ?_ | refine b_asg ?_ | refine b_ret ?_ | refine b_retN ?_ | refine b_expr ?_ | refine b_pass ?_ | refine b_ifs ?_ | refine b_for ?_ | refine b_asgO ?_ | refine b_asgR ?_ | refine bw_add ?_ | refine bw_sub ?_ | refine cw_lt ?_ | refine cw_le ?_ | refine cw_gt ?_ | refine cw_ge ?_ | refine cw_eqI ?_ | refine cw_neI ?_ | refine bl_w ?_ | refine if_t ?_ | refine if_f ?_ | refine w_comp ?_ | refine b_nil ?_ | refine b_par ?_ | refine b_par2 ?_ | refine b_appO rfl ?_ | refine b_extO rfl ?_ | refine fl_rt ?_ | refine fl_nx ?_ | refine And.intro (by assumption) ?_ | refine And.intro rfl ?_ | refine ⟨_, rfl, ?_⟩ | refine ⟨_, _, rfl, rfl, ?_⟩ | refine ⟨_, rfl, rfl, ?_⟩ | refine ⟨_, _, _, rfl, rfl, rfl, ?_⟩ | refine ⟨_, _, _, rfl, rfl, atD0, ?_⟩ | refine ⟨_, _, _, rfl, rfl, atD1, ?_⟩ | refine ⟨_, _, rfl, rfl, rfl, ?_⟩ | refine for_cons rfl ?_ | refine for_nil ?_ | dsimp only))
  refine b_while (fun m ss h' => ∃ left found, ss = [some (.v (scD ns)), some (.v (.obj i)), some (.v (.lst xs)), some (.v (.int c)), some (.own left), some (.own found)] ∧ left.length = m ∧ (left ++ found).Perm xs ∧ (found.length : Int) ≤ c ∧ Sta i h0 (k + found.length) h') xs.length hw ⟨xs, [], rfl, rfl, by simp, by simpa using hc, hs⟩ fun m ss h' J => ?_
  obtain ⟨left, found, rfl, hm, hp, hf, s⟩ := J
  have fin : ∀ (ss : SS) (_ : ss = [some (.v (scD ns)), some (.v (.obj i)), some (.v (.lst xs)), some (.v (.int c)), some (.own left), some (.own found)]), xB (p.G (n + 3)) NX [.ret (.bi .tuple [(.bi .sorted [(.v 5)])])] ss h' (FlW (fun _ h' => h'.length = h.length ∧ (∃ ys, R.v .non = .v (.tup ys) ∧ (∀ y ∈ ys, y ∈ xs) ∧ Srt ys ∧ (ys.length : Int) ≤ c) ∧ Sta i h0 (k + xs.length) h') fun r h' => h'.length = h.length ∧ (∃ ys, r = .v (.tup ys) ∧ (∀ y ∈ ys, y ∈ xs) ∧ Srt ys ∧ (ys.length : Int) ≤ c) ∧ Sta i h0 (k + xs.length) h') := by
    intro ss e
    subst e
    have hl2 := hp.length_eq
    simp only [List.length_append] at hl2
    have hfx : ∀ y ∈ found, y ∈ xs := fun y hy => hp.mem_iff.mp (List.mem_append.mpr (.inr hy))
    have ndf : found.Nodup := ((List.nodup_append.mp (hp.nodup_iff.mpr nd)).2.1)
    (repeat' (first | refine w_v rfl ?_ | refine w_int ?_ | refine w_bl ?_ | refine w_non ?_ | refine w_str ?_ | refine w_cons ?_ | refine w_nil ?_ | refine w_bin ?_ | refine w_cmp ?_ | refine w_call ?_ | refine w_bi ?_ | refine w_isi ?_ | refine w_ix ?_ | refine w_and ?_ | refine w_or ?_ | refine w_not ?_ | refine w_chn ?_ | refine w_tup ?_ | refine w_lst ?_ | refine w_ite ?_ | refine w_neg ?_ | refine w_sl ?_ | refine sl_t ?_ | refine sl_n ?_ | refine sl_b ?_ | refine sl_l ?_ | refine w_rev ?_ | refine rv_t ?_ | refine rv_n ?_ | refine rv_l ?_ | refine rv_b ?_ | refine w_onone ?_ | refine w_osome ?_ | refine b_asg ?_ | refine b_ret ?_ | refine b_retN ?_ | refine b_expr ?_ | refine b_pass ?_ | refine b_ifs ?_ | refine b_for ?_ | refine b_asgO ?_ | refine b_asgR ?_ | refine bw_add ?_ | refine bw_sub ?_ | refine cw_lt ?_ | refine cw_le ?_ | refine cw_gt ?_ | refine cw_ge ?_ | refine cw_eqI ?_ | refine cw_neI ?_ | refine bl_w ?_ | refine if_t ?_ | refine if_f ?_ | refine w_comp ?_ | refine b_nil ?_ | refine b_par ?_ | refine b_par2 ?_ | refine b_appO rfl ?_ | refine b_extO rfl ?_ | refine fl_rt ?_ | refine fl_nx ?_ | refine And.intro (by assumption) ?_ | refine And.intro rfl ?_ | refine ⟨_, rfl, ?_⟩ | refine ⟨_, _, rfl, rfl, ?_⟩ | refine ⟨_, rfl, rfl, ?_⟩ | refine ⟨_, _, _, rfl, rfl, rfl, ?_⟩ | refine ⟨_, _, _, rfl, rfl, atD0, ?_⟩ | refine ⟨_, _, _, rfl, rfl, atD1, ?_⟩ | refine ⟨_, _, rfl, rfl, rfl, ?_⟩ | refine for_cons rfl ?_ | refine for_nil ?_ | dsimp only))
    refine bi_sort (xs := found) rfl (srtOk_acts (fun x hx' => hx x (hfx x hx')) (by omega)) ?_
    (repeat' (first | refine w_v rfl ?_ | refine w_int ?_ | refine w_bl ?_ | refine w_non ?_ | refine w_str ?_ | refine w_cons ?_ | refine w_nil ?_ | refine w_bin ?_ | refine w_cmp ?_ | refine w_call ?_ | refine w_bi ?_ | refine w_isi ?_ | refine w_ix ?_ | refine w_and ?_ | refine w_or ?_ | refine w_not ?_ | refine w_chn ?_ | refine w_tup ?_ | refine w_lst ?_ | refine w_ite ?_ | refine w_neg ?_ | refine w_sl ?_ | refine sl_t ?_ | refine sl_n ?_ | refine sl_b ?_ | refine sl_l ?_ | refine w_rev ?_ | refine rv_t ?_ | refine rv_n ?_ | refine rv_l ?_ | refine rv_b ?_ | refine w_onone ?_ | refine w_osome ?_ | refine b_asg ?_ | refine b_ret ?_ | refine b_retN ?_ | refine b_expr ?_ | refine b_pass ?_ | refine b_ifs ?_ | refine b_for ?_ | refine b_asgO ?_ | refine b_asgR ?_ | refine bw_add ?_ | refine bw_sub ?_ | refine cw_lt ?_ | refine cw_le ?_ | refine cw_gt ?_ | refine cw_ge ?_ | refine cw_eqI ?_ | refine cw_neI ?_ | refine bl_w ?_ | refine if_t ?_ | refine if_f ?_ | refine w_comp ?_ | refine b_nil ?_ | refine b_par ?_ | refine b_par2 ?_ | refine b_appO rfl ?_ | refine b_extO rfl ?_ | refine fl_rt ?_ | refine fl_nx ?_ | refine And.intro (by assumption) ?_ | refine And.intro rfl ?_ | refine ⟨_, rfl, ?_⟩ | refine ⟨_, _, rfl, rfl, ?_⟩ | refine ⟨_, rfl, rfl, ?_⟩ | refine ⟨_, _, _, rfl, rfl, rfl, ?_⟩ | refine ⟨_, _, _, rfl, rfl, atD0, ?_⟩ | refine ⟨_, _, _, rfl, rfl, atD1, ?_⟩ | refine ⟨_, _, rfl, rfl, rfl, ?_⟩ | refine for_cons rfl ?_ | refine for_nil ?_ | dsimp only))
    refine ⟨by rw [s.len, hs.len], ⟨sortA found, rfl, fun y hy => hfx y (sortA_mem.mp hy), sortA_lt (fun x hx' => hx x (hfx x hx')) ndf, ?_⟩, s.mono (by omega)⟩
    rw [(sortA_perm found).length_eq]
    exact hf
  have okl : (D.lst left).okN 60 = true := by
    simp only [D.okN, List.all_eq_true]
    exact fun x hx' => (hx x (hp.mem_iff.mp (List.mem_append.mpr (.inl hx')))).ok
  (repeat' (first | refine w_v rfl ?_ | refine w_int ?_ | refine w_bl ?_ | refine w_non ?_ | refine w_str ?_ | refine w_cons ?_ | refine w_nil ?_ | refine w_bin ?_ | refine w_cmp ?_ | refine w_call ?_ | refine w_bi ?_ | refine w_isi ?_ | refine w_ix ?_ | refine w_and ?_ | refine w_or ?_ | refine w_not ?_ | refine w_chn ?_ | refine w_tup ?_ | refine w_lst ?_ | refine w_ite ?_ | refine w_neg ?_ | refine w_sl ?_ | refine sl_t ?_ | refine sl_n ?_ | refine sl_b ?_ | refine sl_l ?_ | refine w_rev ?_ | refine rv_t ?_ | refine rv_n ?_ | refine rv_l ?_ | refine rv_b ?_ | refine w_onone ?_ | refine w_osome ?_ | refine b_asg ?_ | refine b_ret ?_ | refine b_retN ?_ | refine b_expr ?_ | refine b_pass ?_ | refine b_ifs ?_ | refine b_for ?_ | refine b_asgO ?_ | refine b_asgR ?_ | refine bw_add ?_ | refine bw_sub ?_ | refine cw_lt ?_ | refine cw_le ?_ | refine cw_gt ?_ | refine cw_ge ?_ | refine cw_eqI ?_ | refine cw_neI ?_ | refine bl_w ?_ | refine if_t ?_ | refine if_f ?_ | refine w_comp ?_ | refine b_nil ?_ | refine b_par ?_ | refine b_par2 ?_ | refine b_appO rfl ?_ | refine b_extO rfl ?_ | refine fl_rt ?_ | refine fl_nx ?_ | refine And.intro (by assumption) ?_ | refine And.intro rfl ?_ | refine ⟨_, rfl, ?_⟩ | refine ⟨_, _, rfl, rfl, ?_⟩ | refine ⟨_, rfl, rfl, ?_⟩ | refine ⟨_, _, _, rfl, rfl, rfl, ?_⟩ | refine ⟨_, _, _, rfl, rfl, atD0, ?_⟩ | refine ⟨_, _, _, rfl, rfl, atD1, ?_⟩ | refine ⟨_, _, rfl, rfl, rfl, ?_⟩ | refine for_cons rfl ?_ | refine for_nil ?_ | dsimp only))
  refine cw_ne okl rfl ?_
  cases left with
  | nil => exact bl_w (if_f (bl_w (if_f (fin _ rfl))))
  | cons y ys =>
    refine bl_w (if_t ?_)
    (repeat' (first | refine w_v rfl ?_ | refine w_int ?_ | refine w_bl ?_ | refine w_non ?_ | refine w_str ?_ | refine w_cons ?_ | refine w_nil ?_ | refine w_bin ?_ | refine w_cmp ?_ | refine w_call ?_ | refine w_bi ?_ | refine w_isi ?_ | refine w_ix ?_ | refine w_and ?_ | refine w_or ?_ | refine w_not ?_ | refine w_chn ?_ | refine w_tup ?_ | refine w_lst ?_ | refine w_ite ?_ | refine w_neg ?_ | refine w_sl ?_ | refine sl_t ?_ | refine sl_n ?_ | refine sl_b ?_ | refine sl_l ?_ | refine w_rev ?_ | refine rv_t ?_ | refine rv_n ?_ | refine rv_l ?_ | refine rv_b ?_ | refine w_onone ?_ | refine w_osome ?_ | refine bw_add ?_ | refine bw_sub ?_ | refine cw_lt ?_ | refine cw_le ?_ | refine cw_gt ?_ | refine cw_ge ?_ | refine cw_eqI ?_ | refine cw_neI ?_ | refine bl_w ?_ | refine if_t ?_ | refine if_f ?_ | refine w_comp ?_ | refine fl_rt ?_ | refine fl_nx ?_ | refine And.intro (by assumption) ?_ | refine And.intro rfl ?_ | refine ⟨_, rfl, ?_⟩ | refine ⟨_, _, rfl, rfl, ?_⟩ | refine ⟨_, rfl, rfl, ?_⟩ | refine ⟨_, _, _, rfl, rfl, rfl, ?_⟩ | refine ⟨_, _, _, rfl, rfl, atD0, ?_⟩ | refine ⟨_, _, _, rfl, rfl, atD1, ?_⟩ | refine ⟨_, _, rfl, rfl, rfl, ?_⟩ | dsimp only))
    refine if_s (fun q => ?_) (fun q => ?_)
    · have q' : (found.length : Int) < c := by simpa using q
      have hl2 := hp.length_eq
      simp only [List.length_append] at hl2
      refine ⟨ys.length, by rw [← hm]; simp, ?_⟩
      refine b_appPop rfl rfl (by decide) ?_
      (repeat' (first | refine w_v rfl ?_ | refine w_int ?_ | refine w_bl ?_ | refine w_non ?_ | refine w_str ?_ | refine w_cons ?_ | refine w_nil ?_ | refine w_bin ?_ | refine w_cmp ?_ | refine w_call ?_ | refine w_bi ?_ | refine w_isi ?_ | refine w_ix ?_ | refine w_and ?_ | refine w_or ?_ | refine w_not ?_ | refine w_chn ?_ | refine w_tup ?_ | refine w_lst ?_ | refine w_ite ?_ | refine w_neg ?_ | refine w_sl ?_ | refine sl_t ?_ | refine sl_n ?_ | refine sl_b ?_ | refine sl_l ?_ | refine w_rev ?_ | refine rv_t ?_ | refine rv_n ?_ | refine rv_l ?_ | refine rv_b ?_ | refine w_onone ?_ | refine w_osome ?_ | refine b_asg ?_ | refine b_ret ?_ | refine b_retN ?_ | refine b_expr ?_ | refine b_pass ?_ | refine b_ifs ?_ | refine b_for ?_ | refine b_asgO ?_ | refine b_asgR ?_ | refine bw_add ?_ | refine bw_sub ?_ | refine cw_lt ?_ | refine cw_le ?_ | refine cw_gt ?_ | refine cw_ge ?_ | refine cw_eqI ?_ | refine cw_neI ?_ | refine bl_w ?_ | refine if_t ?_ | refine if_f ?_ | refine w_comp ?_ | refine b_nil ?_ | refine b_par ?_ | refine b_par2 ?_ | refine b_appO rfl ?_ | refine b_extO rfl ?_ | refine fl_rt ?_ | refine fl_nx ?_ | refine And.intro (by assumption) ?_ | refine And.intro rfl ?_ | refine ⟨_, rfl, ?_⟩ | refine ⟨_, _, rfl, rfl, ?_⟩ | refine ⟨_, rfl, rfl, ?_⟩ | refine ⟨_, _, _, rfl, rfl, rfl, ?_⟩ | refine ⟨_, _, _, rfl, rfl, atD0, ?_⟩ | refine ⟨_, _, _, rfl, rfl, atD1, ?_⟩ | refine ⟨_, _, rfl, rfl, rfl, ?_⟩ | refine for_cons rfl ?_ | refine for_nil ?_ | dsimp only))
      refine O.wp_mono (draw_wp L s (by omega) (by simp only [List.length_cons]; omega) hl) fun r h2 z => ?_
      obtain ⟨⟨j, rfl, j0, j1⟩, s2⟩ := z
      have hj : j.toNat < (y :: ys).length := by omega
      have eg : (y :: ys)[j.toNat]? = some (y :: ys)[j.toNat] := List.getElem?_eq_getElem hj
      refine ⟨j, (y :: ys)[j.toNat], _, _, rfl, j0, j1, by omega, eg, small_of (by omega), rfl, rfl, ?_⟩
      refine b_nil (fl_nx ⟨(y :: ys).eraseIdx j.toNat, found ++ [(y :: ys)[j.toNat]], rfl, ?_, ?_, ?_, ?_⟩)
      · rw [List.length_eraseIdx_of_lt hj]
        simp
      · refine List.Perm.trans ?_ hp
        have h1 : ((y :: ys)[j.toNat] :: (y :: ys).eraseIdx j.toNat).Perm (y :: ys) := erase_perm hj
        have h2 : ((y :: ys).eraseIdx j.toNat ++ (found ++ [(y :: ys)[j.toNat]])).Perm ((y :: ys)[j.toNat] :: (y :: ys).eraseIdx j.toNat ++ found) := by
          rw [← List.append_assoc]
          exact List.perm_append_singleton _ _
        exact h2.trans (h1.append_right found)
      · simp only [List.length_append, List.length_singleton]
        omega
      · exact s2.mono (by simp only [List.length_append, List.length_singleton]; omega)
    · exact fin _ rfl
theorem some_acts_wp {p : Pg} (L : PDr p) (h61 : p.Pt 61 = some f_law_some_of) (h62 : p.Pt 62 = some f_law_all_acts) (h81 : p.Pt 81 = some f_law_some_acts) {n i k : Nat} {h0 : MH} {ns : List Int} {t : Int} {es : List Ex} {c : Int} {h : MH} (hs : Sta i h0 k h) (hk : k + 200 < 1000000) (hl : ns.length ≤ 1000) (v : BV t es) (hc : 0 ≤ c) (hw : 200 < p.wf) :
    (p.c (n + 5) 81 [.v (scD ns), .v (.obj i), .v (bD t es), .v (.int c)] h).wp fun r h' => (∃ ys, r = .v (.tup ys) ∧ (∀ y ∈ ys, y ∈ allA es) ∧ Srt ys ∧ (ys.length : Int) ≤ c) ∧ Sta i h0 (k + 200) h' := by
  refine Pg.call_wp h81 rfl ?_
  unfold f_law_some_acts b_law_some_acts
  have hal := allA_len v
  (repeat' (first | refine w_v rfl ?_ | refine w_int ?_ | refine w_bl ?_ | refine w_non ?_ | refine w_str ?_ | refine w_cons ?_ | refine w_nil ?_ | refine w_bin ?_ | refine w_cmp ?_ | refine w_call ?_ | refine w_bi ?_ | refine w_isi ?_ | refine w_ix ?_ | refine w_and ?_ | refine w_or ?_ | refine w_not ?_ | refine w_chn ?_ | refine w_tup ?_ | refine w_lst ?_ | refine w_ite ?_ | refine w_neg ?_ | refine w_sl ?_ | refine sl_t ?_ | refine sl_n ?_ | refine sl_b ?_ | refine sl_l ?_ | refine w_rev ?_ | refine rv_t ?_ | refine rv_n ?_ | refine rv_l ?_ | refine rv_b ?_ | refine w_onone ?_ | refine w_osome ?_ | refine b_asg ?_ | refine b_ret ?_ | refine b_retN ?_ | refine b_expr ?_ | refine b_pass ?_ | refine b_ifs ?_ | refine b_for ?_ | refine b_asgO ?_ | refine b_asgR ?_ | refine bw_add ?_ | refine bw_sub ?_ | refine cw_lt ?_ | refine cw_le ?_ | refine cw_gt ?_ | refine cw_ge ?_ | refine cw_eqI ?_ | refine cw_neI ?_ | refine bl_w ?_ | refine if_t ?_ | refine if_f ?_ | refine w_comp ?_ | refine b_nil ?_ | refine b_par ?_ | refine b_par2 ?_ | refine b_appO rfl ?_ | refine b_extO rfl ?_ | refine fl_rt ?_ | refine fl_nx ?_ | refine And.intro (by assumption) ?_ | refine And.intro rfl ?_ | refine ⟨_, rfl, ?_⟩ | refine ⟨_, _, rfl, rfl, ?_⟩ | refine ⟨_, rfl, rfl, ?_⟩ | refine ⟨_, _, _, rfl, rfl, rfl, ?_⟩ | refine ⟨_, _, _, rfl, rfl, atD0, ?_⟩ | refine ⟨_, _, _, rfl, rfl, atD1, ?_⟩ | refine ⟨_, _, rfl, rfl, rfl, ?_⟩ | refine for_cons rfl ?_ | refine for_nil ?_ | dsimp only))
  refine O.wp_eq (all_acts_eq h62 v) ?_
  have okl : (D.lst (allA es)).okN 60 = true := by
    simp only [D.okN, List.all_eq_true]
    exact fun x hx' => (allA_actL hx').ok
  (repeat' (first | refine w_v rfl ?_ | refine w_int ?_ | refine w_bl ?_ | refine w_non ?_ | refine w_str ?_ | refine w_cons ?_ | refine w_nil ?_ | refine w_bin ?_ | refine w_cmp ?_ | refine w_call ?_ | refine w_bi ?_ | refine w_isi ?_ | refine w_ix ?_ | refine w_and ?_ | refine w_or ?_ | refine w_not ?_ | refine w_chn ?_ | refine w_tup ?_ | refine w_lst ?_ | refine w_ite ?_ | refine w_neg ?_ | refine w_sl ?_ | refine sl_t ?_ | refine sl_n ?_ | refine sl_b ?_ | refine sl_l ?_ | refine w_rev ?_ | refine rv_t ?_ | refine rv_n ?_ | refine rv_l ?_ | refine rv_b ?_ | refine w_onone ?_ | refine w_osome ?_ | refine b_asg ?_ | refine b_ret ?_ | refine b_retN ?_ | refine b_expr ?_ | refine b_pass ?_ | refine b_ifs ?_ | refine b_for ?_ | refine b_asgO ?_ | refine b_asgR ?_ | refine bw_add ?_ | refine bw_sub ?_ | refine cw_lt ?_ | refine cw_le ?_ | refine cw_gt ?_ | refine cw_ge ?_ | refine cw_eqI ?_ | refine cw_neI ?_ | refine bl_w ?_ | refine if_t ?_ | refine if_f ?_ | refine w_comp ?_ | refine b_nil ?_ | refine b_par ?_ | refine b_par2 ?_ | refine b_appO rfl ?_ | refine b_extO rfl ?_ | refine fl_rt ?_ | refine fl_nx ?_ | refine And.intro (by assumption) ?_ | refine And.intro rfl ?_ | refine ⟨_, rfl, ?_⟩ | refine ⟨_, _, rfl, rfl, ?_⟩ | refine ⟨_, rfl, rfl, ?_⟩ | refine ⟨_, _, _, rfl, rfl, rfl, ?_⟩ | refine ⟨_, _, _, rfl, rfl, atD0, ?_⟩ | refine ⟨_, _, _, rfl, rfl, atD1, ?_⟩ | refine ⟨_, _, rfl, rfl, rfl, ?_⟩ | refine for_cons rfl ?_ | refine for_nil ?_ | dsimp only))
  refine cw_ne okl rfl ?_
  refine bl_w (if_s (fun q => ?_) (fun q => ?_))
  · (repeat' (first | refine w_v rfl ?_ | refine w_int ?_ | refine w_bl ?_ | refine w_non ?_ | refine w_str ?_ | refine w_cons ?_ | refine w_nil ?_ | refine w_bin ?_ | refine w_cmp ?_ | refine w_call ?_ | refine w_bi ?_ | refine w_isi ?_ | refine w_ix ?_ | refine w_and ?_ | refine w_or ?_ | refine w_not ?_ | refine w_chn ?_ | refine w_tup ?_ | refine w_lst ?_ | refine w_ite ?_ | refine w_neg ?_ | refine w_sl ?_ | refine sl_t ?_ | refine sl_n ?_ | refine sl_b ?_ | refine sl_l ?_ | refine w_rev ?_ | refine rv_t ?_ | refine rv_n ?_ | refine rv_l ?_ | refine rv_b ?_ | refine w_onone ?_ | refine w_osome ?_ | refine b_asg ?_ | refine b_ret ?_ | refine b_retN ?_ | refine b_expr ?_ | refine b_pass ?_ | refine b_ifs ?_ | refine b_for ?_ | refine b_asgO ?_ | refine b_asgR ?_ | refine bw_add ?_ | refine bw_sub ?_ | refine cw_lt ?_ | refine cw_le ?_ | refine cw_gt ?_ | refine cw_ge ?_ | refine cw_eqI ?_ | refine cw_neI ?_ | refine bl_w ?_ | refine if_t ?_ | refine if_f ?_ | refine w_comp ?_ | refine b_nil ?_ | refine b_par ?_ | refine b_par2 ?_ | refine b_appO rfl ?_ | refine b_extO rfl ?_ | refine fl_rt ?_ | refine fl_nx ?_ | refine And.intro (by assumption) ?_ | refine And.intro rfl ?_ | refine ⟨_, rfl, ?_⟩ | refine ⟨_, _, rfl, rfl, ?_⟩ | refine ⟨_, rfl, rfl, ?_⟩ | refine ⟨_, _, _, rfl, rfl, rfl, ?_⟩ | refine ⟨_, _, _, rfl, rfl, atD0, ?_⟩ | refine ⟨_, _, _, rfl, rfl, atD1, ?_⟩ | refine ⟨_, _, rfl, rfl, rfl, ?_⟩ | refine for_cons rfl ?_ | refine for_nil ?_ | dsimp only))
    refine O.wp_mono (draw_wp L hs (by omega) (by omega) hl) fun r h2 z => ?_
    obtain ⟨⟨j, rfl, j0, j1⟩, s2⟩ := z
    (repeat' (first | refine w_v rfl ?_ | refine w_int ?_ | refine w_bl ?_ | refine w_non ?_ | refine w_str ?_ | refine w_cons ?_ | refine w_nil ?_ | refine w_bin ?_ | refine w_cmp ?_ | refine w_call ?_ | refine w_bi ?_ | refine w_isi ?_ | refine w_ix ?_ | refine w_and ?_ | refine w_or ?_ | refine w_not ?_ | refine w_chn ?_ | refine w_tup ?_ | refine w_lst ?_ | refine w_ite ?_ | refine w_neg ?_ | refine w_sl ?_ | refine sl_t ?_ | refine sl_n ?_ | refine sl_b ?_ | refine sl_l ?_ | refine w_rev ?_ | refine rv_t ?_ | refine rv_n ?_ | refine rv_l ?_ | refine rv_b ?_ | refine w_onone ?_ | refine w_osome ?_ | refine b_asg ?_ | refine b_ret ?_ | refine b_retN ?_ | refine b_expr ?_ | refine b_pass ?_ | refine b_ifs ?_ | refine b_for ?_ | refine b_asgO ?_ | refine b_asgR ?_ | refine bw_add ?_ | refine bw_sub ?_ | refine cw_lt ?_ | refine cw_le ?_ | refine cw_gt ?_ | refine cw_ge ?_ | refine cw_eqI ?_ | refine cw_neI ?_ | refine bl_w ?_ | refine if_t ?_ | refine if_f ?_ | refine w_comp ?_ | refine b_nil ?_ | refine b_par ?_ | refine b_par2 ?_ | refine b_appO rfl ?_ | refine b_extO rfl ?_ | refine fl_rt ?_ | refine fl_nx ?_ | refine And.intro (by assumption) ?_ | refine And.intro rfl ?_ | refine ⟨_, rfl, ?_⟩ | refine ⟨_, _, rfl, rfl, ?_⟩ | refine ⟨_, rfl, rfl, ?_⟩ | refine ⟨_, _, _, rfl, rfl, rfl, ?_⟩ | refine ⟨_, _, _, rfl, rfl, atD0, ?_⟩ | refine ⟨_, _, _, rfl, rfl, atD1, ?_⟩ | refine ⟨_, _, rfl, rfl, rfl, ?_⟩ | refine for_cons rfl ?_ | refine for_nil ?_ | dsimp only))
    refine O.wp_mono (some_of_wp L h61 s2 (by omega) hl (fun x hx => allA_actL hx) allA_nodup j0 (by omega)) fun r h3 z => ?_
    obtain ⟨⟨ys, rfl, h4, h5, h6⟩, s3⟩ := z
    (repeat' (first | refine w_v rfl ?_ | refine w_int ?_ | refine w_bl ?_ | refine w_non ?_ | refine w_str ?_ | refine w_cons ?_ | refine w_nil ?_ | refine w_bin ?_ | refine w_cmp ?_ | refine w_call ?_ | refine w_bi ?_ | refine w_isi ?_ | refine w_ix ?_ | refine w_and ?_ | refine w_or ?_ | refine w_not ?_ | refine w_chn ?_ | refine w_tup ?_ | refine w_lst ?_ | refine w_ite ?_ | refine w_neg ?_ | refine w_sl ?_ | refine sl_t ?_ | refine sl_n ?_ | refine sl_b ?_ | refine sl_l ?_ | refine w_rev ?_ | refine rv_t ?_ | refine rv_n ?_ | refine rv_l ?_ | refine rv_b ?_ | refine w_onone ?_ | refine w_osome ?_ | refine b_asg ?_ | refine b_ret ?_ | refine b_retN ?_ | refine b_expr ?_ | refine b_pass ?_ | refine b_ifs ?_ | refine b_for ?_ | refine b_asgO ?_ | refine b_asgR ?_ | refine bw_add ?_ | refine bw_sub ?_ | refine cw_lt ?_ | refine cw_le ?_ | refine cw_gt ?_ | refine cw_ge ?_ | refine cw_eqI ?_ | refine cw_neI ?_ | refine bl_w ?_ | refine if_t ?_ | refine if_f ?_ | refine w_comp ?_ | refine b_nil ?_ | refine b_par ?_ | refine b_par2 ?_ | refine b_appO rfl ?_ | refine b_extO rfl ?_ | refine fl_rt ?_ | refine fl_nx ?_ | refine And.intro (by assumption) ?_ | refine And.intro rfl ?_ | refine ⟨_, rfl, ?_⟩ | refine ⟨_, _, rfl, rfl, ?_⟩ | refine ⟨_, rfl, rfl, ?_⟩ | refine ⟨_, _, _, rfl, rfl, rfl, ?_⟩ | refine ⟨_, _, _, rfl, rfl, atD0, ?_⟩ | refine ⟨_, _, _, rfl, rfl, atD1, ?_⟩ | refine ⟨_, _, rfl, rfl, rfl, ?_⟩ | refine for_cons rfl ?_ | refine for_nil ?_ | dsimp only))
    exact ⟨by rw [s3.len, hs.len], ⟨ys, rfl, h4, h5, by omega⟩, s3.mono (by omega)⟩
  · (repeat' (first | refine w_v rfl ?_ | refine w_int ?_ | refine w_bl ?_ | refine w_non ?_ | refine w_str ?_ | refine w_cons ?_ | refine w_nil ?_ | refine w_bin ?_ | refine w_cmp ?_ | refine w_call ?_ | refine w_bi ?_ | refine w_isi ?_ | refine w_ix ?_ | refine w_and ?_ | refine w_or ?_ | refine w_not ?_ | refine w_chn ?_ | refine w_tup ?_ | refine w_lst ?_ | refine w_ite ?_ | refine w_neg ?_ | refine w_sl ?_ | refine sl_t ?_ | refine sl_n ?_ | refine sl_b ?_ | refine sl_l ?_ | refine w_rev ?_ | refine rv_t ?_ | refine rv_n ?_ | refine rv_l ?_ | refine rv_b ?_ | refine w_onone ?_ | refine w_osome ?_ | refine b_asg ?_ | refine b_ret ?_ | refine b_retN ?_ | refine b_expr ?_ | refine b_pass ?_ | refine b_ifs ?_ | refine b_for ?_ | refine b_asgO ?_ | refine b_asgR ?_ | refine bw_add ?_ | refine bw_sub ?_ | refine cw_lt ?_ | refine cw_le ?_ | refine cw_gt ?_ | refine cw_ge ?_ | refine cw_eqI ?_ | refine cw_neI ?_ | refine bl_w ?_ | refine if_t ?_ | refine if_f ?_ | refine w_comp ?_ | refine b_nil ?_ | refine b_par ?_ | refine b_par2 ?_ | refine b_appO rfl ?_ | refine b_extO rfl ?_ | refine fl_rt ?_ | refine fl_nx ?_ | refine And.intro (by assumption) ?_ | refine And.intro rfl ?_ | refine ⟨_, rfl, ?_⟩ | refine ⟨_, _, rfl, rfl, ?_⟩ | refine ⟨_, rfl, rfl, ?_⟩ | refine ⟨_, _, _, rfl, rfl, rfl, ?_⟩ | refine ⟨_, _, _, rfl, rfl, atD0, ?_⟩ | refine ⟨_, _, _, rfl, rfl, atD1, ?_⟩ | refine ⟨_, _, rfl, rfl, rfl, ?_⟩ | refine for_cons rfl ?_ | refine for_nil ?_ | dsimp only))
    exact ⟨⟨[], rfl, by simp, List.Pairwise.nil, by simpa using hc⟩, hs.mono (by omega)⟩
end GV
set_option Elab.async false
set_option linter.all false
set_option maxRecDepth 100000
set_option maxHeartbeats 4000000
/-! GA6: rows of acts, offers. -/
namespace GV
open PySem L2
theorem actB_actL {t : Int} {es : List Ex} {d : D} (h : actB t es d = true) : ActL d := by
  unfold actB at h
  split at h
  · simp only [Bool.and_eq_true, beq_iff_eq] at h
    obtain ⟨i, rfl, _⟩ := isInt_int h.1
    rw [h.2]
    exact .bar i
  · simp only [Bool.and_eq_true, beq_iff_eq] at h
    obtain ⟨i, e, _⟩ := isInt_int h.2.2.2.2
    rw [h.2.2.1, e]
    exact .fee _ _ i
  · cases h
structure PAct (p : Pg) : Prop where
  h1 : p.Pt 1 = some f_is_integer
  h2 : p.Pt 2 = some f_are_numbers
  h3 : p.Pt 3 = some f_is_exchange
  h4 : p.Pt 4 = some f_stands
  h13 : p.Pt 13 = some f_need_board
  h70 : p.Pt 70 = some f_rises
  h71 : p.Pt 71 = some f_is_act
def actsB (t : Int) (es : List Ex) : D → Bool
  | .tup xs => decide (xs.length ≤ 10) && (xs.all (actB t es) && risD xs)
  | _ => false
theorem acts_stand_eq {p : Pg} (L : PAct p) (h105 : p.Pt 105 = some f_acts_stand) {n m : Nat} {t : Int} {es : List Ex} {d : D} {h : MH} (v : BV t es) (hd : d.okN m = true) : p.c (n + 3) 105 [.v (bD t es), .v d] h = .ok (.v (.bl (actsB t es d))) h := by
  refine O.eq_of (Pg.call_wp h105 rfl ?_)
  unfold f_acts_stand b_acts_stand
  have hn := noObj_of hd
  cases d
  case obj => cases hn
  case tup xs =>
    obtain ⟨m, rfl, hx⟩ := ok_tup hd
    by_cases hl : xs.length ≤ 10
    · (repeat' (first | refine w_v rfl ?_ | refine w_int ?_ | refine w_bl ?_ | refine w_non ?_ | refine w_str ?_ | refine w_cons ?_ | refine w_nil ?_ | refine w_bin ?_ | refine w_cmp ?_ | refine w_call ?_ | refine w_bi ?_ | refine w_isi ?_ | refine w_ix ?_ | refine w_and ?_ | refine w_or ?_ | refine w_not ?_ | refine w_chn ?_ | refine w_tup ?_ | refine w_lst ?_ | refine w_ite ?_ | refine w_neg ?_ | refine w_sl ?_ | refine sl_t ?_ | refine sl_n ?_ | refine sl_b ?_ | refine sl_l ?_ | refine w_rev ?_ | refine rv_t ?_ | refine rv_n ?_ | refine rv_l ?_ | refine rv_b ?_ | refine w_onone ?_ | refine w_osome ?_ | refine b_asg ?_ | refine b_ret ?_ | refine b_retN ?_ | refine b_expr ?_ | refine b_pass ?_ | refine b_ifs ?_ | refine b_for ?_ | refine b_asgO ?_ | refine b_asgR ?_ | refine bw_add ?_ | refine bw_sub ?_ | refine cw_lt ?_ | refine cw_le ?_ | refine cw_gt ?_ | refine cw_ge ?_ | refine cw_eqI ?_ | refine cw_neI ?_ | refine bl_w ?_ | refine if_t ?_ | refine if_f ?_ | refine w_comp ?_ | refine b_nil ?_ | refine b_par ?_ | refine b_par2 ?_ | refine b_appO rfl ?_ | refine b_extO rfl ?_ | refine fl_rt ?_ | refine fl_nx ?_ | refine And.intro (by assumption) ?_ | refine And.intro rfl ?_ | refine ⟨_, rfl, ?_⟩ | refine ⟨_, _, rfl, rfl, ?_⟩ | refine ⟨_, rfl, rfl, ?_⟩ | refine ⟨_, _, _, rfl, rfl, rfl, ?_⟩ | refine ⟨_, _, _, rfl, rfl, atD0, ?_⟩ | refine ⟨_, _, _, rfl, rfl, atD1, ?_⟩ | refine ⟨_, _, rfl, rfl, rfl, ?_⟩ | refine for_cons rfl ?_ | refine for_nil ?_ | dsimp only))
      rw [decide_eq_false (by omega : ¬ (10 : Int) < (xs.length : Nat))]
      (repeat' (first | refine w_v rfl ?_ | refine w_int ?_ | refine w_bl ?_ | refine w_non ?_ | refine w_str ?_ | refine w_cons ?_ | refine w_nil ?_ | refine w_bin ?_ | refine w_cmp ?_ | refine w_call ?_ | refine w_bi ?_ | refine w_isi ?_ | refine w_ix ?_ | refine w_and ?_ | refine w_or ?_ | refine w_not ?_ | refine w_chn ?_ | refine w_tup ?_ | refine w_lst ?_ | refine w_ite ?_ | refine w_neg ?_ | refine w_sl ?_ | refine sl_t ?_ | refine sl_n ?_ | refine sl_b ?_ | refine sl_l ?_ | refine w_rev ?_ | refine rv_t ?_ | refine rv_n ?_ | refine rv_l ?_ | refine rv_b ?_ | refine w_onone ?_ | refine w_osome ?_ | refine b_asg ?_ | refine b_ret ?_ | refine b_retN ?_ | refine b_expr ?_ | refine b_pass ?_ | refine b_ifs ?_ | refine b_for ?_ | refine b_asgO ?_ | refine b_asgR ?_ | refine bw_add ?_ | refine bw_sub ?_ | refine cw_lt ?_ | refine cw_le ?_ | refine cw_gt ?_ | refine cw_ge ?_ | refine cw_eqI ?_ | refine cw_neI ?_ | refine bl_w ?_ | refine if_t ?_ | refine if_f ?_ | refine w_comp ?_ | refine b_nil ?_ | refine b_par ?_ | refine b_par2 ?_ | refine b_appO rfl ?_ | refine b_extO rfl ?_ | refine fl_rt ?_ | refine fl_nx ?_ | refine And.intro (by assumption) ?_ | refine And.intro rfl ?_ | refine ⟨_, rfl, ?_⟩ | refine ⟨_, _, rfl, rfl, ?_⟩ | refine ⟨_, rfl, rfl, ?_⟩ | refine ⟨_, _, _, rfl, rfl, rfl, ?_⟩ | refine ⟨_, _, _, rfl, rfl, atD0, ?_⟩ | refine ⟨_, _, _, rfl, rfl, atD1, ?_⟩ | refine ⟨_, _, rfl, rfl, rfl, ?_⟩ | refine for_cons rfl ?_ | refine for_nil ?_ | dsimp only))
      refine c_pure (fun d => .bl (actB t es d)) (fun d hd => ⟨_, rfl, ?_⟩) (by omega) ?_
      · (repeat' (first | refine w_v rfl ?_ | refine w_int ?_ | refine w_bl ?_ | refine w_non ?_ | refine w_str ?_ | refine w_cons ?_ | refine w_nil ?_ | refine w_bin ?_ | refine w_cmp ?_ | refine w_call ?_ | refine w_bi ?_ | refine w_isi ?_ | refine w_ix ?_ | refine w_and ?_ | refine w_or ?_ | refine w_not ?_ | refine w_chn ?_ | refine w_tup ?_ | refine w_lst ?_ | refine w_ite ?_ | refine w_neg ?_ | refine w_sl ?_ | refine sl_t ?_ | refine sl_n ?_ | refine sl_b ?_ | refine sl_l ?_ | refine w_rev ?_ | refine rv_t ?_ | refine rv_n ?_ | refine rv_l ?_ | refine rv_b ?_ | refine w_onone ?_ | refine w_osome ?_ | refine b_asg ?_ | refine b_ret ?_ | refine b_retN ?_ | refine b_expr ?_ | refine b_pass ?_ | refine b_ifs ?_ | refine b_for ?_ | refine b_asgO ?_ | refine b_asgR ?_ | refine bw_add ?_ | refine bw_sub ?_ | refine cw_lt ?_ | refine cw_le ?_ | refine cw_gt ?_ | refine cw_ge ?_ | refine cw_eqI ?_ | refine cw_neI ?_ | refine bl_w ?_ | refine if_t ?_ | refine if_f ?_ | refine w_comp ?_ | refine b_nil ?_ | refine b_par ?_ | refine b_par2 ?_ | refine b_appO rfl ?_ | refine b_extO rfl ?_ | refine fl_rt ?_ | refine fl_nx ?_ | refine And.intro (by assumption) ?_ | refine And.intro rfl ?_ | refine ⟨_, rfl, ?_⟩ | refine ⟨_, _, rfl, rfl, ?_⟩ | refine ⟨_, rfl, rfl, ?_⟩ | refine ⟨_, _, _, rfl, rfl, rfl, ?_⟩ | refine ⟨_, _, _, rfl, rfl, atD0, ?_⟩ | refine ⟨_, _, _, rfl, rfl, atD1, ?_⟩ | refine ⟨_, _, rfl, rfl, rfl, ?_⟩ | refine for_cons rfl ?_ | refine for_nil ?_ | dsimp only))
        exact O.wp_eq (is_act_eq L.h1 L.h71 v (hx d hd)) ⟨rfl, rfl⟩
      · refine w_nil (bi_all bls_map ?_)
        have e : (xs.map (actB t es)).all id = xs.all (actB t es) := by simp [List.all_map, Function.comp_def]
        rw [e]
        cases ha : xs.all (actB t es) with
        | false =>
          (repeat' (first | refine w_v rfl ?_ | refine w_int ?_ | refine w_bl ?_ | refine w_non ?_ | refine w_str ?_ | refine w_cons ?_ | refine w_nil ?_ | refine w_bin ?_ | refine w_cmp ?_ | refine w_call ?_ | refine w_bi ?_ | refine w_isi ?_ | refine w_ix ?_ | refine w_and ?_ | refine w_or ?_ | refine w_not ?_ | refine w_chn ?_ | refine w_tup ?_ | refine w_lst ?_ | refine w_ite ?_ | refine w_neg ?_ | refine w_sl ?_ | refine sl_t ?_ | refine sl_n ?_ | refine sl_b ?_ | refine sl_l ?_ | refine w_rev ?_ | refine rv_t ?_ | refine rv_n ?_ | refine rv_l ?_ | refine rv_b ?_ | refine w_onone ?_ | refine w_osome ?_ | refine b_asg ?_ | refine b_ret ?_ | refine b_retN ?_ | refine b_expr ?_ | refine b_pass ?_ | refine b_ifs ?_ | refine b_for ?_ | refine b_asgO ?_ | refine b_asgR ?_ | refine bw_add ?_ | refine bw_sub ?_ | refine cw_lt ?_ | refine cw_le ?_ | refine cw_gt ?_ | refine cw_ge ?_ | refine cw_eqI ?_ | refine cw_neI ?_ | refine bl_w ?_ | refine if_t ?_ | refine if_f ?_ | refine w_comp ?_ | refine b_nil ?_ | refine b_par ?_ | refine b_par2 ?_ | refine b_appO rfl ?_ | refine b_extO rfl ?_ | refine fl_rt ?_ | refine fl_nx ?_ | refine And.intro (by assumption) ?_ | refine And.intro rfl ?_ | refine ⟨_, rfl, ?_⟩ | refine ⟨_, _, rfl, rfl, ?_⟩ | refine ⟨_, rfl, rfl, ?_⟩ | refine ⟨_, _, _, rfl, rfl, rfl, ?_⟩ | refine ⟨_, _, _, rfl, rfl, atD0, ?_⟩ | refine ⟨_, _, _, rfl, rfl, atD1, ?_⟩ | refine ⟨_, _, rfl, rfl, rfl, ?_⟩ | refine for_cons rfl ?_ | refine for_nil ?_ | dsimp only))
          exact ⟨by simp [actsB, ha], rfl⟩
        | true =>
          (repeat' (first | refine w_v rfl ?_ | refine w_int ?_ | refine w_bl ?_ | refine w_non ?_ | refine w_str ?_ | refine w_cons ?_ | refine w_nil ?_ | refine w_bin ?_ | refine w_cmp ?_ | refine w_call ?_ | refine w_bi ?_ | refine w_isi ?_ | refine w_ix ?_ | refine w_and ?_ | refine w_or ?_ | refine w_not ?_ | refine w_chn ?_ | refine w_tup ?_ | refine w_lst ?_ | refine w_ite ?_ | refine w_neg ?_ | refine w_sl ?_ | refine sl_t ?_ | refine sl_n ?_ | refine sl_b ?_ | refine sl_l ?_ | refine w_rev ?_ | refine rv_t ?_ | refine rv_n ?_ | refine rv_l ?_ | refine rv_b ?_ | refine w_onone ?_ | refine w_osome ?_ | refine b_asg ?_ | refine b_ret ?_ | refine b_retN ?_ | refine b_expr ?_ | refine b_pass ?_ | refine b_ifs ?_ | refine b_for ?_ | refine b_asgO ?_ | refine b_asgR ?_ | refine bw_add ?_ | refine bw_sub ?_ | refine cw_lt ?_ | refine cw_le ?_ | refine cw_gt ?_ | refine cw_ge ?_ | refine cw_eqI ?_ | refine cw_neI ?_ | refine bl_w ?_ | refine if_t ?_ | refine if_f ?_ | refine w_comp ?_ | refine b_nil ?_ | refine b_par ?_ | refine b_par2 ?_ | refine b_appO rfl ?_ | refine b_extO rfl ?_ | refine fl_rt ?_ | refine fl_nx ?_ | refine And.intro (by assumption) ?_ | refine And.intro rfl ?_ | refine ⟨_, rfl, ?_⟩ | refine ⟨_, _, rfl, rfl, ?_⟩ | refine ⟨_, rfl, rfl, ?_⟩ | refine ⟨_, _, _, rfl, rfl, rfl, ?_⟩ | refine ⟨_, _, _, rfl, rfl, atD0, ?_⟩ | refine ⟨_, _, _, rfl, rfl, atD1, ?_⟩ | refine ⟨_, _, rfl, rfl, rfl, ?_⟩ | refine for_cons rfl ?_ | refine for_nil ?_ | dsimp only))
          refine O.wp_eq (rises_eq (b := true) L.h70 (fun x hx => actB_actL (List.all_eq_true.mp ha x hx)) (by omega)) ?_
          (repeat' (first | refine w_v rfl ?_ | refine w_int ?_ | refine w_bl ?_ | refine w_non ?_ | refine w_str ?_ | refine w_cons ?_ | refine w_nil ?_ | refine w_bin ?_ | refine w_cmp ?_ | refine w_call ?_ | refine w_bi ?_ | refine w_isi ?_ | refine w_ix ?_ | refine w_and ?_ | refine w_or ?_ | refine w_not ?_ | refine w_chn ?_ | refine w_tup ?_ | refine w_lst ?_ | refine w_ite ?_ | refine w_neg ?_ | refine w_sl ?_ | refine sl_t ?_ | refine sl_n ?_ | refine sl_b ?_ | refine sl_l ?_ | refine w_rev ?_ | refine rv_t ?_ | refine rv_n ?_ | refine rv_l ?_ | refine rv_b ?_ | refine w_onone ?_ | refine w_osome ?_ | refine b_asg ?_ | refine b_ret ?_ | refine b_retN ?_ | refine b_expr ?_ | refine b_pass ?_ | refine b_ifs ?_ | refine b_for ?_ | refine b_asgO ?_ | refine b_asgR ?_ | refine bw_add ?_ | refine bw_sub ?_ | refine cw_lt ?_ | refine cw_le ?_ | refine cw_gt ?_ | refine cw_ge ?_ | refine cw_eqI ?_ | refine cw_neI ?_ | refine bl_w ?_ | refine if_t ?_ | refine if_f ?_ | refine w_comp ?_ | refine b_nil ?_ | refine b_par ?_ | refine b_par2 ?_ | refine b_appO rfl ?_ | refine b_extO rfl ?_ | refine fl_rt ?_ | refine fl_nx ?_ | refine And.intro (by assumption) ?_ | refine And.intro rfl ?_ | refine ⟨_, rfl, ?_⟩ | refine ⟨_, _, rfl, rfl, ?_⟩ | refine ⟨_, rfl, rfl, ?_⟩ | refine ⟨_, _, _, rfl, rfl, rfl, ?_⟩ | refine ⟨_, _, _, rfl, rfl, atD0, ?_⟩ | refine ⟨_, _, _, rfl, rfl, atD1, ?_⟩ | refine ⟨_, _, rfl, rfl, rfl, ?_⟩ | refine for_cons rfl ?_ | refine for_nil ?_ | dsimp only))
          exact ⟨by simp [actsB, ha, hl], rfl⟩
    · (repeat' (first | refine w_v rfl ?_ | refine w_int ?_ | refine w_bl ?_ | refine w_non ?_ | refine w_str ?_ | refine w_cons ?_ | refine w_nil ?_ | refine w_bin ?_ | refine w_cmp ?_ | refine w_call ?_ | refine w_bi ?_ | refine w_isi ?_ | refine w_ix ?_ | refine w_and ?_ | refine w_or ?_ | refine w_not ?_ | refine w_chn ?_ | refine w_tup ?_ | refine w_lst ?_ | refine w_ite ?_ | refine w_neg ?_ | refine w_sl ?_ | refine sl_t ?_ | refine sl_n ?_ | refine sl_b ?_ | refine sl_l ?_ | refine w_rev ?_ | refine rv_t ?_ | refine rv_n ?_ | refine rv_l ?_ | refine rv_b ?_ | refine w_onone ?_ | refine w_osome ?_ | refine b_asg ?_ | refine b_ret ?_ | refine b_retN ?_ | refine b_expr ?_ | refine b_pass ?_ | refine b_ifs ?_ | refine b_for ?_ | refine b_asgO ?_ | refine b_asgR ?_ | refine bw_add ?_ | refine bw_sub ?_ | refine cw_lt ?_ | refine cw_le ?_ | refine cw_gt ?_ | refine cw_ge ?_ | refine cw_eqI ?_ | refine cw_neI ?_ | refine bl_w ?_ | refine if_t ?_ | refine if_f ?_ | refine w_comp ?_ | refine b_nil ?_ | refine b_par ?_ | refine b_par2 ?_ | refine b_appO rfl ?_ | refine b_extO rfl ?_ | refine fl_rt ?_ | refine fl_nx ?_ | refine And.intro (by assumption) ?_ | refine And.intro rfl ?_ | refine ⟨_, rfl, ?_⟩ | refine ⟨_, _, rfl, rfl, ?_⟩ | refine ⟨_, rfl, rfl, ?_⟩ | refine ⟨_, _, _, rfl, rfl, rfl, ?_⟩ | refine ⟨_, _, _, rfl, rfl, atD0, ?_⟩ | refine ⟨_, _, _, rfl, rfl, atD1, ?_⟩ | refine ⟨_, _, rfl, rfl, rfl, ?_⟩ | refine for_cons rfl ?_ | refine for_nil ?_ | dsimp only))
      rw [decide_eq_true (by omega : (10 : Int) < (xs.length : Nat))]
      (repeat' (first | refine w_v rfl ?_ | refine w_int ?_ | refine w_bl ?_ | refine w_non ?_ | refine w_str ?_ | refine w_cons ?_ | refine w_nil ?_ | refine w_bin ?_ | refine w_cmp ?_ | refine w_call ?_ | refine w_bi ?_ | refine w_isi ?_ | refine w_ix ?_ | refine w_and ?_ | refine w_or ?_ | refine w_not ?_ | refine w_chn ?_ | refine w_tup ?_ | refine w_lst ?_ | refine w_ite ?_ | refine w_neg ?_ | refine w_sl ?_ | refine sl_t ?_ | refine sl_n ?_ | refine sl_b ?_ | refine sl_l ?_ | refine w_rev ?_ | refine rv_t ?_ | refine rv_n ?_ | refine rv_l ?_ | refine rv_b ?_ | refine w_onone ?_ | refine w_osome ?_ | refine b_asg ?_ | refine b_ret ?_ | refine b_retN ?_ | refine b_expr ?_ | refine b_pass ?_ | refine b_ifs ?_ | refine b_for ?_ | refine b_asgO ?_ | refine b_asgR ?_ | refine bw_add ?_ | refine bw_sub ?_ | refine cw_lt ?_ | refine cw_le ?_ | refine cw_gt ?_ | refine cw_ge ?_ | refine cw_eqI ?_ | refine cw_neI ?_ | refine bl_w ?_ | refine if_t ?_ | refine if_f ?_ | refine w_comp ?_ | refine b_nil ?_ | refine b_par ?_ | refine b_par2 ?_ | refine b_appO rfl ?_ | refine b_extO rfl ?_ | refine fl_rt ?_ | refine fl_nx ?_ | refine And.intro (by assumption) ?_ | refine And.intro rfl ?_ | refine ⟨_, rfl, ?_⟩ | refine ⟨_, _, rfl, rfl, ?_⟩ | refine ⟨_, rfl, rfl, ?_⟩ | refine ⟨_, _, _, rfl, rfl, rfl, ?_⟩ | refine ⟨_, _, _, rfl, rfl, atD0, ?_⟩ | refine ⟨_, _, _, rfl, rfl, atD1, ?_⟩ | refine ⟨_, _, rfl, rfl, rfl, ?_⟩ | refine for_cons rfl ?_ | refine for_nil ?_ | dsimp only))
      exact ⟨by simp [actsB, hl], rfl⟩
  all_goals (repeat' (first | refine w_v rfl ?_ | refine w_int ?_ | refine w_bl ?_ | refine w_non ?_ | refine w_str ?_ | refine w_cons ?_ | refine w_nil ?_ | refine w_bin ?_ | refine w_cmp ?_ | refine w_call ?_ | refine w_bi ?_ | refine w_isi ?_ | refine w_ix ?_ | refine w_and ?_ | refine w_or ?_ | refine w_not ?_ | refine w_chn ?_ | refine w_tup ?_ | refine w_lst ?_ | refine w_ite ?_ | refine w_neg ?_ | refine w_sl ?_ | refine sl_t ?_ | refine sl_n ?_ | refine sl_b ?_ | refine sl_l ?_ | refine w_rev ?_ | refine rv_t ?_ | refine rv_n ?_ | refine rv_l ?_ | refine rv_b ?_ | refine w_onone ?_ | refine w_osome ?_ | refine b_asg ?_ | refine b_ret ?_ | refine b_retN ?_ | refine b_expr ?_ | refine b_pass ?_ | refine b_ifs ?_ | refine b_for ?_ | refine b_asgO ?_ | refine b_asgR ?_ | refine bw_add ?_ | refine bw_sub ?_ | refine cw_lt ?_ | refine cw_le ?_ | refine cw_gt ?_ | refine cw_ge ?_ | refine cw_eqI ?_ | refine cw_neI ?_ | refine bl_w ?_ | refine if_t ?_ | refine if_f ?_ | refine w_comp ?_ | refine b_nil ?_ | refine b_par ?_ | refine b_par2 ?_ | refine b_appO rfl ?_ | refine b_extO rfl ?_ | refine fl_rt ?_ | refine fl_nx ?_ | refine And.intro (by assumption) ?_ | refine And.intro rfl ?_ | refine ⟨_, rfl, ?_⟩ | refine ⟨_, _, rfl, rfl, ?_⟩ | refine ⟨_, rfl, rfl, ?_⟩ | refine ⟨_, _, _, rfl, rfl, rfl, ?_⟩ | refine ⟨_, _, _, rfl, rfl, atD0, ?_⟩ | refine ⟨_, _, _, rfl, rfl, atD1, ?_⟩ | refine ⟨_, _, rfl, rfl, rfl, ?_⟩ | refine for_cons rfl ?_ | refine for_nil ?_ | dsimp only))
theorem need_board2 {p : Pg} (L : PAct p) {n : Nat} {t : Int} {es : List Ex} {h : MH} (v : BV t es) : p.c (n + 5) 13 [.v (bD t es)] h = .ok (.v .non) h := need_board_eq L.h1 L.h2 L.h3 L.h4 L.h13 (ok_bD (n := 0)) (stands_bD v)
theorem are_acts_eq {p : Pg} (L : PAct p) (h105 : p.Pt 105 = some f_acts_stand) (h106 : p.Pt 106 = some f_are_acts) {n m : Nat} {t : Int} {es : List Ex} {d : D} {h : MH} (v : BV t es) (hd : d.okN m = true) : p.c (n + 6) 106 [.v (bD t es), .v d] h = .ok (.v (.bl (actsB t es d))) h := by
  refine O.eq_of (Pg.call_wp h106 rfl ?_)
  unfold f_are_acts b_are_acts
  (repeat' (first | refine w_v rfl ?_ | refine w_int ?_ | refine w_bl ?_ | refine w_non ?_ | refine w_str ?_ | refine w_cons ?_ | refine w_nil ?_ | refine w_bin ?_ | refine w_cmp ?_ | refine w_call ?_ | refine w_bi ?_ | refine w_isi ?_ | refine w_ix ?_ | refine w_and ?_ | refine w_or ?_ | refine w_not ?_ | refine w_chn ?_ | refine w_tup ?_ | refine w_lst ?_ | refine w_ite ?_ | refine w_neg ?_ | refine w_sl ?_ | refine sl_t ?_ | refine sl_n ?_ | refine sl_b ?_ | refine sl_l ?_ | refine w_rev ?_ | refine rv_t ?_ | refine rv_n ?_ | refine rv_l ?_ | refine rv_b ?_ | refine w_onone ?_ | refine w_osome ?_ | refine b_asg ?_ | refine b_ret ?_ | refine b_retN ?_ | refine b_expr ?_ | refine b_pass ?_ | refine b_ifs ?_ | refine b_for ?_ | refine b_asgO ?_ | refine b_asgR ?_ | refine bw_add ?_ | refine bw_sub ?_ | refine cw_lt ?_ | refine cw_le ?_ | refine cw_gt ?_ | refine cw_ge ?_ | refine cw_eqI ?_ | refine cw_neI ?_ | refine bl_w ?_ | refine if_t ?_ | refine if_f ?_ | refine w_comp ?_ | refine b_nil ?_ | refine b_par ?_ | refine b_par2 ?_ | refine b_appO rfl ?_ | refine b_extO rfl ?_ | refine fl_rt ?_ | refine fl_nx ?_ | refine And.intro (by assumption) ?_ | refine And.intro rfl ?_ | refine ⟨_, rfl, ?_⟩ | refine ⟨_, _, rfl, rfl, ?_⟩ | refine ⟨_, rfl, rfl, ?_⟩ | refine ⟨_, _, _, rfl, rfl, rfl, ?_⟩ | refine ⟨_, _, _, rfl, rfl, atD0, ?_⟩ | refine ⟨_, _, _, rfl, rfl, atD1, ?_⟩ | refine ⟨_, _, rfl, rfl, rfl, ?_⟩ | refine for_cons rfl ?_ | refine for_nil ?_ | dsimp only))
  refine O.wp_eq (need_board2 L v) ?_
  (repeat' (first | refine w_v rfl ?_ | refine w_int ?_ | refine w_bl ?_ | refine w_non ?_ | refine w_str ?_ | refine w_cons ?_ | refine w_nil ?_ | refine w_bin ?_ | refine w_cmp ?_ | refine w_call ?_ | refine w_bi ?_ | refine w_isi ?_ | refine w_ix ?_ | refine w_and ?_ | refine w_or ?_ | refine w_not ?_ | refine w_chn ?_ | refine w_tup ?_ | refine w_lst ?_ | refine w_ite ?_ | refine w_neg ?_ | refine w_sl ?_ | refine sl_t ?_ | refine sl_n ?_ | refine sl_b ?_ | refine sl_l ?_ | refine w_rev ?_ | refine rv_t ?_ | refine rv_n ?_ | refine rv_l ?_ | refine rv_b ?_ | refine w_onone ?_ | refine w_osome ?_ | refine b_asg ?_ | refine b_ret ?_ | refine b_retN ?_ | refine b_expr ?_ | refine b_pass ?_ | refine b_ifs ?_ | refine b_for ?_ | refine b_asgO ?_ | refine b_asgR ?_ | refine bw_add ?_ | refine bw_sub ?_ | refine cw_lt ?_ | refine cw_le ?_ | refine cw_gt ?_ | refine cw_ge ?_ | refine cw_eqI ?_ | refine cw_neI ?_ | refine bl_w ?_ | refine if_t ?_ | refine if_f ?_ | refine w_comp ?_ | refine b_nil ?_ | refine b_par ?_ | refine b_par2 ?_ | refine b_appO rfl ?_ | refine b_extO rfl ?_ | refine fl_rt ?_ | refine fl_nx ?_ | refine And.intro (by assumption) ?_ | refine And.intro rfl ?_ | refine ⟨_, rfl, ?_⟩ | refine ⟨_, _, rfl, rfl, ?_⟩ | refine ⟨_, rfl, rfl, ?_⟩ | refine ⟨_, _, _, rfl, rfl, rfl, ?_⟩ | refine ⟨_, _, _, rfl, rfl, atD0, ?_⟩ | refine ⟨_, _, _, rfl, rfl, atD1, ?_⟩ | refine ⟨_, _, rfl, rfl, rfl, ?_⟩ | refine for_cons rfl ?_ | refine for_nil ?_ | dsimp only))
  refine O.wp_eq (acts_stand_eq L h105 v hd) ?_
  (repeat' (first | refine w_v rfl ?_ | refine w_int ?_ | refine w_bl ?_ | refine w_non ?_ | refine w_str ?_ | refine w_cons ?_ | refine w_nil ?_ | refine w_bin ?_ | refine w_cmp ?_ | refine w_call ?_ | refine w_bi ?_ | refine w_isi ?_ | refine w_ix ?_ | refine w_and ?_ | refine w_or ?_ | refine w_not ?_ | refine w_chn ?_ | refine w_tup ?_ | refine w_lst ?_ | refine w_ite ?_ | refine w_neg ?_ | refine w_sl ?_ | refine sl_t ?_ | refine sl_n ?_ | refine sl_b ?_ | refine sl_l ?_ | refine w_rev ?_ | refine rv_t ?_ | refine rv_n ?_ | refine rv_l ?_ | refine rv_b ?_ | refine w_onone ?_ | refine w_osome ?_ | refine b_asg ?_ | refine b_ret ?_ | refine b_retN ?_ | refine b_expr ?_ | refine b_pass ?_ | refine b_ifs ?_ | refine b_for ?_ | refine b_asgO ?_ | refine b_asgR ?_ | refine bw_add ?_ | refine bw_sub ?_ | refine cw_lt ?_ | refine cw_le ?_ | refine cw_gt ?_ | refine cw_ge ?_ | refine cw_eqI ?_ | refine cw_neI ?_ | refine bl_w ?_ | refine if_t ?_ | refine if_f ?_ | refine w_comp ?_ | refine b_nil ?_ | refine b_par ?_ | refine b_par2 ?_ | refine b_appO rfl ?_ | refine b_extO rfl ?_ | refine fl_rt ?_ | refine fl_nx ?_ | refine And.intro (by assumption) ?_ | refine And.intro rfl ?_ | refine ⟨_, rfl, ?_⟩ | refine ⟨_, _, rfl, rfl, ?_⟩ | refine ⟨_, rfl, rfl, ?_⟩ | refine ⟨_, _, _, rfl, rfl, rfl, ?_⟩ | refine ⟨_, _, _, rfl, rfl, atD0, ?_⟩ | refine ⟨_, _, _, rfl, rfl, atD1, ?_⟩ | refine ⟨_, _, rfl, rfl, rfl, ?_⟩ | refine for_cons rfl ?_ | refine for_nil ?_ | dsimp only))
/-! ### offers -/
def off1 (t : Int) (es : List Ex) : D → Bool
  | .tup [a, c] => actB t es a && isInt 1 9 c
  | _ => false
def fstD : D → D
  | .tup (a :: _) => a
  | _ => .non
def offB (t : Int) (es : List Ex) : D → Bool
  | .tup xs => decide (xs.length ≤ 7) && (xs.all (off1 t es) && risD (xs.map fstD))
  | _ => false
theorem off1_len {t : Int} {es : List Ex} {xs : List D} (h : xs.length ≠ 2) : off1 t es (.tup xs) = false := by
  unfold off1
  split
  · rename_i e; cases e; simp at h
  · rfl
theorem offers_stand_eq {p : Pg} (L : PAct p) (h73 : p.Pt 73 = some f_offers_stand) {n m : Nat} {t : Int} {es : List Ex} {d : D} {h : MH} (v : BV t es) (hd : d.okN m = true) : p.c (n + 3) 73 [.v (bD t es), .v d] h = .ok (.v (.bl (offB t es d))) h := by
  refine O.eq_of (Pg.call_wp h73 rfl ?_)
  unfold f_offers_stand b_offers_stand
  have hn := noObj_of hd
  cases d
  case obj => cases hn
  case tup xs =>
    obtain ⟨m, rfl, hx⟩ := ok_tup hd
    by_cases hl : xs.length ≤ 7
    · (repeat' (first | refine w_v rfl ?_ | refine w_int ?_ | refine w_bl ?_ | refine w_non ?_ | refine w_str ?_ | refine w_cons ?_ | refine w_nil ?_ | refine w_bin ?_ | refine w_cmp ?_ | refine w_call ?_ | refine w_bi ?_ | refine w_isi ?_ | refine w_ix ?_ | refine w_and ?_ | refine w_or ?_ | refine w_not ?_ | refine w_chn ?_ | refine w_tup ?_ | refine w_lst ?_ | refine w_ite ?_ | refine w_neg ?_ | refine w_sl ?_ | refine sl_t ?_ | refine sl_n ?_ | refine sl_b ?_ | refine sl_l ?_ | refine w_rev ?_ | refine rv_t ?_ | refine rv_n ?_ | refine rv_l ?_ | refine rv_b ?_ | refine w_onone ?_ | refine w_osome ?_ | refine b_asg ?_ | refine b_ret ?_ | refine b_retN ?_ | refine b_expr ?_ | refine b_pass ?_ | refine b_ifs ?_ | refine b_for ?_ | refine b_asgO ?_ | refine b_asgR ?_ | refine bw_add ?_ | refine bw_sub ?_ | refine cw_lt ?_ | refine cw_le ?_ | refine cw_gt ?_ | refine cw_ge ?_ | refine cw_eqI ?_ | refine cw_neI ?_ | refine bl_w ?_ | refine if_t ?_ | refine if_f ?_ | refine w_comp ?_ | refine b_nil ?_ | refine b_par ?_ | refine b_par2 ?_ | refine b_appO rfl ?_ | refine b_extO rfl ?_ | refine fl_rt ?_ | refine fl_nx ?_ | refine And.intro (by assumption) ?_ | refine And.intro rfl ?_ | refine ⟨_, rfl, ?_⟩ | refine ⟨_, _, rfl, rfl, ?_⟩ | refine ⟨_, rfl, rfl, ?_⟩ | refine ⟨_, _, _, rfl, rfl, rfl, ?_⟩ | refine ⟨_, _, _, rfl, rfl, atD0, ?_⟩ | refine ⟨_, _, _, rfl, rfl, atD1, ?_⟩ | refine ⟨_, _, rfl, rfl, rfl, ?_⟩ | refine for_cons rfl ?_ | refine for_nil ?_ | dsimp only))
      rw [decide_eq_false (by omega : ¬ (7 : Int) < (xs.length : Nat))]
      (repeat' (first | refine w_v rfl ?_ | refine w_int ?_ | refine w_bl ?_ | refine w_non ?_ | refine w_str ?_ | refine w_cons ?_ | refine w_nil ?_ | refine w_bin ?_ | refine w_cmp ?_ | refine w_call ?_ | refine w_bi ?_ | refine w_isi ?_ | refine w_ix ?_ | refine w_and ?_ | refine w_or ?_ | refine w_not ?_ | refine w_chn ?_ | refine w_tup ?_ | refine w_lst ?_ | refine w_ite ?_ | refine w_neg ?_ | refine w_sl ?_ | refine sl_t ?_ | refine sl_n ?_ | refine sl_b ?_ | refine sl_l ?_ | refine w_rev ?_ | refine rv_t ?_ | refine rv_n ?_ | refine rv_l ?_ | refine rv_b ?_ | refine w_onone ?_ | refine w_osome ?_ | refine b_asg ?_ | refine b_ret ?_ | refine b_retN ?_ | refine b_expr ?_ | refine b_pass ?_ | refine b_ifs ?_ | refine b_for ?_ | refine b_asgO ?_ | refine b_asgR ?_ | refine bw_add ?_ | refine bw_sub ?_ | refine cw_lt ?_ | refine cw_le ?_ | refine cw_gt ?_ | refine cw_ge ?_ | refine cw_eqI ?_ | refine cw_neI ?_ | refine bl_w ?_ | refine if_t ?_ | refine if_f ?_ | refine w_comp ?_ | refine b_nil ?_ | refine b_par ?_ | refine b_par2 ?_ | refine b_appO rfl ?_ | refine b_extO rfl ?_ | refine fl_rt ?_ | refine fl_nx ?_ | refine And.intro (by assumption) ?_ | refine And.intro rfl ?_ | refine ⟨_, rfl, ?_⟩ | refine ⟨_, _, rfl, rfl, ?_⟩ | refine ⟨_, rfl, rfl, ?_⟩ | refine ⟨_, _, _, rfl, rfl, rfl, ?_⟩ | refine ⟨_, _, _, rfl, rfl, atD0, ?_⟩ | refine ⟨_, _, _, rfl, rfl, atD1, ?_⟩ | refine ⟨_, _, rfl, rfl, rfl, ?_⟩ | refine for_cons rfl ?_ | refine for_nil ?_ | dsimp only))
      refine for_inv (fun j ss h' => (∃ x2, ss = [some (.v (bD t es)), some (.v (.tup xs)), x2]) ∧ (xs.take j).all (off1 t es) = true ∧ h' = h) ⟨⟨_, rfl⟩, by simp, rfl⟩ (fun j d hd ss h' J => ?_) fun ss h' J => ?_
      · obtain ⟨⟨x2, rfl⟩, ha, rfl⟩ := J
        have mem : d ∈ xs := List.mem_of_getElem? hd
        have okd := hx d mem
        have hnd := noObj_of okd
        have bad : off1 t es d = false → offB t es (.tup xs) = false := fun q => by
          have : xs.all (off1 t es) = false := by
            rw [List.all_eq_false]
            exact ⟨d, mem, by simp [q]⟩
          simp [offB, this]
        have good : off1 t es d = true → (xs.take (j + 1)).all (off1 t es) = true := fun q => by
          rw [List.take_succ, hd, List.all_append, ha]
          simp [q]
        refine ⟨_, rfl, ?_⟩
        cases d
        case obj => cases hnd
        case tup ys =>
          obtain ⟨m, rfl, hy⟩ := ok_tup okd
          by_cases hl2 : ys.length = 2
          · obtain ⟨a, c, rfl⟩ := len2 hl2
            (repeat' (first | refine w_v rfl ?_ | refine w_int ?_ | refine w_bl ?_ | refine w_non ?_ | refine w_str ?_ | refine w_cons ?_ | refine w_nil ?_ | refine w_bin ?_ | refine w_cmp ?_ | refine w_call ?_ | refine w_bi ?_ | refine w_isi ?_ | refine w_ix ?_ | refine w_and ?_ | refine w_or ?_ | refine w_not ?_ | refine w_chn ?_ | refine w_tup ?_ | refine w_lst ?_ | refine w_ite ?_ | refine w_neg ?_ | refine w_sl ?_ | refine sl_t ?_ | refine sl_n ?_ | refine sl_b ?_ | refine sl_l ?_ | refine w_rev ?_ | refine rv_t ?_ | refine rv_n ?_ | refine rv_l ?_ | refine rv_b ?_ | refine w_onone ?_ | refine w_osome ?_ | refine b_asg ?_ | refine b_ret ?_ | refine b_retN ?_ | refine b_expr ?_ | refine b_pass ?_ | refine b_ifs ?_ | refine b_for ?_ | refine b_asgO ?_ | refine b_asgR ?_ | refine bw_add ?_ | refine bw_sub ?_ | refine cw_lt ?_ | refine cw_le ?_ | refine cw_gt ?_ | refine cw_ge ?_ | refine cw_eqI ?_ | refine cw_neI ?_ | refine bl_w ?_ | refine if_t ?_ | refine if_f ?_ | refine w_comp ?_ | refine b_nil ?_ | refine b_par ?_ | refine b_par2 ?_ | refine b_appO rfl ?_ | refine b_extO rfl ?_ | refine fl_rt ?_ | refine fl_nx ?_ | refine And.intro (by assumption) ?_ | refine And.intro rfl ?_ | refine ⟨_, rfl, ?_⟩ | refine ⟨_, _, rfl, rfl, ?_⟩ | refine ⟨_, rfl, rfl, ?_⟩ | refine ⟨_, _, _, rfl, rfl, rfl, ?_⟩ | refine ⟨_, _, _, rfl, rfl, atD0, ?_⟩ | refine ⟨_, _, _, rfl, rfl, atD1, ?_⟩ | refine ⟨_, _, rfl, rfl, rfl, ?_⟩ | refine for_cons rfl ?_ | refine for_nil ?_ | dsimp only))
            refine O.wp_eq (is_act_eq L.h1 L.h71 v (hy a (by simp))) ?_
            cases qa : actB t es a with
            | false =>
              (repeat' (first | refine w_v rfl ?_ | refine w_int ?_ | refine w_bl ?_ | refine w_non ?_ | refine w_str ?_ | refine w_cons ?_ | refine w_nil ?_ | refine w_bin ?_ | refine w_cmp ?_ | refine w_call ?_ | refine w_bi ?_ | refine w_isi ?_ | refine w_ix ?_ | refine w_and ?_ | refine w_or ?_ | refine w_not ?_ | refine w_chn ?_ | refine w_tup ?_ | refine w_lst ?_ | refine w_ite ?_ | refine w_neg ?_ | refine w_sl ?_ | refine sl_t ?_ | refine sl_n ?_ | refine sl_b ?_ | refine sl_l ?_ | refine w_rev ?_ | refine rv_t ?_ | refine rv_n ?_ | refine rv_l ?_ | refine rv_b ?_ | refine w_onone ?_ | refine w_osome ?_ | refine b_asg ?_ | refine b_ret ?_ | refine b_retN ?_ | refine b_expr ?_ | refine b_pass ?_ | refine b_ifs ?_ | refine b_for ?_ | refine b_asgO ?_ | refine b_asgR ?_ | refine bw_add ?_ | refine bw_sub ?_ | refine cw_lt ?_ | refine cw_le ?_ | refine cw_gt ?_ | refine cw_ge ?_ | refine cw_eqI ?_ | refine cw_neI ?_ | refine bl_w ?_ | refine if_t ?_ | refine if_f ?_ | refine w_comp ?_ | refine b_nil ?_ | refine b_par ?_ | refine b_par2 ?_ | refine b_appO rfl ?_ | refine b_extO rfl ?_ | refine fl_rt ?_ | refine fl_nx ?_ | refine And.intro (by assumption) ?_ | refine And.intro rfl ?_ | refine ⟨_, rfl, ?_⟩ | refine ⟨_, _, rfl, rfl, ?_⟩ | refine ⟨_, rfl, rfl, ?_⟩ | refine ⟨_, _, _, rfl, rfl, rfl, ?_⟩ | refine ⟨_, _, _, rfl, rfl, atD0, ?_⟩ | refine ⟨_, _, _, rfl, rfl, atD1, ?_⟩ | refine ⟨_, _, rfl, rfl, rfl, ?_⟩ | refine for_cons rfl ?_ | refine for_nil ?_ | dsimp only))
              exact ⟨by rw [bad (by simp [off1, qa])], rfl⟩
            | true =>
              (repeat' (first | refine w_v rfl ?_ | refine w_int ?_ | refine w_bl ?_ | refine w_non ?_ | refine w_str ?_ | refine w_cons ?_ | refine w_nil ?_ | refine w_bin ?_ | refine w_cmp ?_ | refine w_call ?_ | refine w_bi ?_ | refine w_isi ?_ | refine w_ix ?_ | refine w_and ?_ | refine w_or ?_ | refine w_not ?_ | refine w_chn ?_ | refine w_tup ?_ | refine w_lst ?_ | refine w_ite ?_ | refine w_neg ?_ | refine w_sl ?_ | refine sl_t ?_ | refine sl_n ?_ | refine sl_b ?_ | refine sl_l ?_ | refine w_rev ?_ | refine rv_t ?_ | refine rv_n ?_ | refine rv_l ?_ | refine rv_b ?_ | refine w_onone ?_ | refine w_osome ?_ | refine b_asg ?_ | refine b_ret ?_ | refine b_retN ?_ | refine b_expr ?_ | refine b_pass ?_ | refine b_ifs ?_ | refine b_for ?_ | refine b_asgO ?_ | refine b_asgR ?_ | refine bw_add ?_ | refine bw_sub ?_ | refine cw_lt ?_ | refine cw_le ?_ | refine cw_gt ?_ | refine cw_ge ?_ | refine cw_eqI ?_ | refine cw_neI ?_ | refine bl_w ?_ | refine if_t ?_ | refine if_f ?_ | refine w_comp ?_ | refine b_nil ?_ | refine b_par ?_ | refine b_par2 ?_ | refine b_appO rfl ?_ | refine b_extO rfl ?_ | refine fl_rt ?_ | refine fl_nx ?_ | refine And.intro (by assumption) ?_ | refine And.intro rfl ?_ | refine ⟨_, rfl, ?_⟩ | refine ⟨_, _, rfl, rfl, ?_⟩ | refine ⟨_, rfl, rfl, ?_⟩ | refine ⟨_, _, _, rfl, rfl, rfl, ?_⟩ | refine ⟨_, _, _, rfl, rfl, atD0, ?_⟩ | refine ⟨_, _, _, rfl, rfl, atD1, ?_⟩ | refine ⟨_, _, rfl, rfl, rfl, ?_⟩ | refine for_cons rfl ?_ | refine for_nil ?_ | dsimp only))
              refine O.wp_eq (is_integer_eq L.h1 (noObj_of (hy c (by simp)))) ?_
              cases qc : isInt 1 9 c with
              | false =>
                (repeat' (first | refine w_v rfl ?_ | refine w_int ?_ | refine w_bl ?_ | refine w_non ?_ | refine w_str ?_ | refine w_cons ?_ | refine w_nil ?_ | refine w_bin ?_ | refine w_cmp ?_ | refine w_call ?_ | refine w_bi ?_ | refine w_isi ?_ | refine w_ix ?_ | refine w_and ?_ | refine w_or ?_ | refine w_not ?_ | refine w_chn ?_ | refine w_tup ?_ | refine w_lst ?_ | refine w_ite ?_ | refine w_neg ?_ | refine w_sl ?_ | refine sl_t ?_ | refine sl_n ?_ | refine sl_b ?_ | refine sl_l ?_ | refine w_rev ?_ | refine rv_t ?_ | refine rv_n ?_ | refine rv_l ?_ | refine rv_b ?_ | refine w_onone ?_ | refine w_osome ?_ | refine b_asg ?_ | refine b_ret ?_ | refine b_retN ?_ | refine b_expr ?_ | refine b_pass ?_ | refine b_ifs ?_ | refine b_for ?_ | refine b_asgO ?_ | refine b_asgR ?_ | refine bw_add ?_ | refine bw_sub ?_ | refine cw_lt ?_ | refine cw_le ?_ | refine cw_gt ?_ | refine cw_ge ?_ | refine cw_eqI ?_ | refine cw_neI ?_ | refine bl_w ?_ | refine if_t ?_ | refine if_f ?_ | refine w_comp ?_ | refine b_nil ?_ | refine b_par ?_ | refine b_par2 ?_ | refine b_appO rfl ?_ | refine b_extO rfl ?_ | refine fl_rt ?_ | refine fl_nx ?_ | refine And.intro (by assumption) ?_ | refine And.intro rfl ?_ | refine ⟨_, rfl, ?_⟩ | refine ⟨_, _, rfl, rfl, ?_⟩ | refine ⟨_, rfl, rfl, ?_⟩ | refine ⟨_, _, _, rfl, rfl, rfl, ?_⟩ | refine ⟨_, _, _, rfl, rfl, atD0, ?_⟩ | refine ⟨_, _, _, rfl, rfl, atD1, ?_⟩ | refine ⟨_, _, rfl, rfl, rfl, ?_⟩ | refine for_cons rfl ?_ | refine for_nil ?_ | dsimp only))
                exact ⟨by rw [bad (by simp [off1, qa, qc])], rfl⟩
              | true =>
                (repeat' (first | refine w_v rfl ?_ | refine w_int ?_ | refine w_bl ?_ | refine w_non ?_ | refine w_str ?_ | refine w_cons ?_ | refine w_nil ?_ | refine w_bin ?_ | refine w_cmp ?_ | refine w_call ?_ | refine w_bi ?_ | refine w_isi ?_ | refine w_ix ?_ | refine w_and ?_ | refine w_or ?_ | refine w_not ?_ | refine w_chn ?_ | refine w_tup ?_ | refine w_lst ?_ | refine w_ite ?_ | refine w_neg ?_ | refine w_sl ?_ | refine sl_t ?_ | refine sl_n ?_ | refine sl_b ?_ | refine sl_l ?_ | refine w_rev ?_ | refine rv_t ?_ | refine rv_n ?_ | refine rv_l ?_ | refine rv_b ?_ | refine w_onone ?_ | refine w_osome ?_ | refine b_asg ?_ | refine b_ret ?_ | refine b_retN ?_ | refine b_expr ?_ | refine b_pass ?_ | refine b_ifs ?_ | refine b_for ?_ | refine b_asgO ?_ | refine b_asgR ?_ | refine bw_add ?_ | refine bw_sub ?_ | refine cw_lt ?_ | refine cw_le ?_ | refine cw_gt ?_ | refine cw_ge ?_ | refine cw_eqI ?_ | refine cw_neI ?_ | refine bl_w ?_ | refine if_t ?_ | refine if_f ?_ | refine w_comp ?_ | refine b_nil ?_ | refine b_par ?_ | refine b_par2 ?_ | refine b_appO rfl ?_ | refine b_extO rfl ?_ | refine fl_rt ?_ | refine fl_nx ?_ | refine And.intro (by assumption) ?_ | refine And.intro rfl ?_ | refine ⟨_, rfl, ?_⟩ | refine ⟨_, _, rfl, rfl, ?_⟩ | refine ⟨_, rfl, rfl, ?_⟩ | refine ⟨_, _, _, rfl, rfl, rfl, ?_⟩ | refine ⟨_, _, _, rfl, rfl, atD0, ?_⟩ | refine ⟨_, _, _, rfl, rfl, atD1, ?_⟩ | refine ⟨_, _, rfl, rfl, rfl, ?_⟩ | refine for_cons rfl ?_ | refine for_nil ?_ | dsimp only))
                exact ⟨⟨_, rfl⟩, good (by simp [off1, qa, qc]), rfl⟩
          · (repeat' (first | refine w_v rfl ?_ | refine w_int ?_ | refine w_bl ?_ | refine w_non ?_ | refine w_str ?_ | refine w_cons ?_ | refine w_nil ?_ | refine w_bin ?_ | refine w_cmp ?_ | refine w_call ?_ | refine w_bi ?_ | refine w_isi ?_ | refine w_ix ?_ | refine w_and ?_ | refine w_or ?_ | refine w_not ?_ | refine w_chn ?_ | refine w_tup ?_ | refine w_lst ?_ | refine w_ite ?_ | refine w_neg ?_ | refine w_sl ?_ | refine sl_t ?_ | refine sl_n ?_ | refine sl_b ?_ | refine sl_l ?_ | refine w_rev ?_ | refine rv_t ?_ | refine rv_n ?_ | refine rv_l ?_ | refine rv_b ?_ | refine w_onone ?_ | refine w_osome ?_ | refine b_asg ?_ | refine b_ret ?_ | refine b_retN ?_ | refine b_expr ?_ | refine b_pass ?_ | refine b_ifs ?_ | refine b_for ?_ | refine b_asgO ?_ | refine b_asgR ?_ | refine bw_add ?_ | refine bw_sub ?_ | refine cw_lt ?_ | refine cw_le ?_ | refine cw_gt ?_ | refine cw_ge ?_ | refine cw_eqI ?_ | refine cw_neI ?_ | refine bl_w ?_ | refine if_t ?_ | refine if_f ?_ | refine w_comp ?_ | refine b_nil ?_ | refine b_par ?_ | refine b_par2 ?_ | refine b_appO rfl ?_ | refine b_extO rfl ?_ | refine fl_rt ?_ | refine fl_nx ?_ | refine And.intro (by assumption) ?_ | refine And.intro rfl ?_ | refine ⟨_, rfl, ?_⟩ | refine ⟨_, _, rfl, rfl, ?_⟩ | refine ⟨_, rfl, rfl, ?_⟩ | refine ⟨_, _, _, rfl, rfl, rfl, ?_⟩ | refine ⟨_, _, _, rfl, rfl, atD0, ?_⟩ | refine ⟨_, _, _, rfl, rfl, atD1, ?_⟩ | refine ⟨_, _, rfl, rfl, rfl, ?_⟩ | refine for_cons rfl ?_ | refine for_nil ?_ | dsimp only))
            rw [decide_eq_false (by omega : ¬ ((ys.length : Nat) : Int) = 2)]
            (repeat' (first | refine w_v rfl ?_ | refine w_int ?_ | refine w_bl ?_ | refine w_non ?_ | refine w_str ?_ | refine w_cons ?_ | refine w_nil ?_ | refine w_bin ?_ | refine w_cmp ?_ | refine w_call ?_ | refine w_bi ?_ | refine w_isi ?_ | refine w_ix ?_ | refine w_and ?_ | refine w_or ?_ | refine w_not ?_ | refine w_chn ?_ | refine w_tup ?_ | refine w_lst ?_ | refine w_ite ?_ | refine w_neg ?_ | refine w_sl ?_ | refine sl_t ?_ | refine sl_n ?_ | refine sl_b ?_ | refine sl_l ?_ | refine w_rev ?_ | refine rv_t ?_ | refine rv_n ?_ | refine rv_l ?_ | refine rv_b ?_ | refine w_onone ?_ | refine w_osome ?_ | refine b_asg ?_ | refine b_ret ?_ | refine b_retN ?_ | refine b_expr ?_ | refine b_pass ?_ | refine b_ifs ?_ | refine b_for ?_ | refine b_asgO ?_ | refine b_asgR ?_ | refine bw_add ?_ | refine bw_sub ?_ | refine cw_lt ?_ | refine cw_le ?_ | refine cw_gt ?_ | refine cw_ge ?_ | refine cw_eqI ?_ | refine cw_neI ?_ | refine bl_w ?_ | refine if_t ?_ | refine if_f ?_ | refine w_comp ?_ | refine b_nil ?_ | refine b_par ?_ | refine b_par2 ?_ | refine b_appO rfl ?_ | refine b_extO rfl ?_ | refine fl_rt ?_ | refine fl_nx ?_ | refine And.intro (by assumption) ?_ | refine And.intro rfl ?_ | refine ⟨_, rfl, ?_⟩ | refine ⟨_, _, rfl, rfl, ?_⟩ | refine ⟨_, rfl, rfl, ?_⟩ | refine ⟨_, _, _, rfl, rfl, rfl, ?_⟩ | refine ⟨_, _, _, rfl, rfl, atD0, ?_⟩ | refine ⟨_, _, _, rfl, rfl, atD1, ?_⟩ | refine ⟨_, _, rfl, rfl, rfl, ?_⟩ | refine for_cons rfl ?_ | refine for_nil ?_ | dsimp only))
            exact ⟨by rw [bad (off1_len hl2)], rfl⟩
        all_goals
          (repeat' (first | refine w_v rfl ?_ | refine w_int ?_ | refine w_bl ?_ | refine w_non ?_ | refine w_str ?_ | refine w_cons ?_ | refine w_nil ?_ | refine w_bin ?_ | refine w_cmp ?_ | refine w_call ?_ | refine w_bi ?_ | refine w_isi ?_ | refine w_ix ?_ | refine w_and ?_ | refine w_or ?_ | refine w_not ?_ | refine w_chn ?_ | refine w_tup ?_ | refine w_lst ?_ | refine w_ite ?_ | refine w_neg ?_ | refine w_sl ?_ | refine sl_t ?_ | refine sl_n ?_ | refine sl_b ?_ | refine sl_l ?_ | refine w_rev ?_ | refine rv_t ?_ | refine rv_n ?_ | refine rv_l ?_ | refine rv_b ?_ | refine w_onone ?_ | refine w_osome ?_ | refine b_asg ?_ | refine b_ret ?_ | refine b_retN ?_ | refine b_expr ?_ | refine b_pass ?_ | refine b_ifs ?_ | refine b_for ?_ | refine b_asgO ?_ | refine b_asgR ?_ | refine bw_add ?_ | refine bw_sub ?_ | refine cw_lt ?_ | refine cw_le ?_ | refine cw_gt ?_ | refine cw_ge ?_ | refine cw_eqI ?_ | refine cw_neI ?_ | refine bl_w ?_ | refine if_t ?_ | refine if_f ?_ | refine w_comp ?_ | refine b_nil ?_ | refine b_par ?_ | refine b_par2 ?_ | refine b_appO rfl ?_ | refine b_extO rfl ?_ | refine fl_rt ?_ | refine fl_nx ?_ | refine And.intro (by assumption) ?_ | refine And.intro rfl ?_ | refine ⟨_, rfl, ?_⟩ | refine ⟨_, _, rfl, rfl, ?_⟩ | refine ⟨_, rfl, rfl, ?_⟩ | refine ⟨_, _, _, rfl, rfl, rfl, ?_⟩ | refine ⟨_, _, _, rfl, rfl, atD0, ?_⟩ | refine ⟨_, _, _, rfl, rfl, atD1, ?_⟩ | refine ⟨_, _, rfl, rfl, rfl, ?_⟩ | refine for_cons rfl ?_ | refine for_nil ?_ | dsimp only))
          exact ⟨by rw [bad rfl], rfl⟩
      · obtain ⟨⟨x2, rfl⟩, ha, rfl⟩ := J
        rw [List.take_length] at ha
        have hf : ∀ x ∈ xs, ∃ a c, x = .tup [a, c] ∧ ActL a := fun x hx' => by
          have q := List.all_eq_true.mp ha x hx'
          unfold off1 at q
          split at q
          · rename_i a c
            simp only [Bool.and_eq_true] at q
            exact ⟨a, c, rfl, actB_actL q.1⟩
          · cases q
        (repeat' (first | refine w_v rfl ?_ | refine w_int ?_ | refine w_bl ?_ | refine w_non ?_ | refine w_str ?_ | refine w_cons ?_ | refine w_nil ?_ | refine w_bin ?_ | refine w_cmp ?_ | refine w_call ?_ | refine w_bi ?_ | refine w_isi ?_ | refine w_ix ?_ | refine w_and ?_ | refine w_or ?_ | refine w_not ?_ | refine w_chn ?_ | refine w_tup ?_ | refine w_lst ?_ | refine w_ite ?_ | refine w_neg ?_ | refine w_sl ?_ | refine sl_t ?_ | refine sl_n ?_ | refine sl_b ?_ | refine sl_l ?_ | refine w_rev ?_ | refine rv_t ?_ | refine rv_n ?_ | refine rv_l ?_ | refine rv_b ?_ | refine w_onone ?_ | refine w_osome ?_ | refine b_asg ?_ | refine b_ret ?_ | refine b_retN ?_ | refine b_expr ?_ | refine b_pass ?_ | refine b_ifs ?_ | refine b_for ?_ | refine b_asgO ?_ | refine b_asgR ?_ | refine bw_add ?_ | refine bw_sub ?_ | refine cw_lt ?_ | refine cw_le ?_ | refine cw_gt ?_ | refine cw_ge ?_ | refine cw_eqI ?_ | refine cw_neI ?_ | refine bl_w ?_ | refine if_t ?_ | refine if_f ?_ | refine w_comp ?_ | refine b_nil ?_ | refine b_par ?_ | refine b_par2 ?_ | refine b_appO rfl ?_ | refine b_extO rfl ?_ | refine fl_rt ?_ | refine fl_nx ?_ | refine And.intro (by assumption) ?_ | refine And.intro rfl ?_ | refine ⟨_, rfl, ?_⟩ | refine ⟨_, _, rfl, rfl, ?_⟩ | refine ⟨_, rfl, rfl, ?_⟩ | refine ⟨_, _, _, rfl, rfl, rfl, ?_⟩ | refine ⟨_, _, _, rfl, rfl, atD0, ?_⟩ | refine ⟨_, _, _, rfl, rfl, atD1, ?_⟩ | refine ⟨_, _, rfl, rfl, rfl, ?_⟩ | refine for_cons rfl ?_ | refine for_nil ?_ | dsimp only))
        refine c_pure fstD (fun d hd => ⟨_, rfl, ?_⟩) (by omega) ?_
        · obtain ⟨a, c, rfl, _⟩ := hf d hd
          (repeat' (first | refine w_v rfl ?_ | refine w_int ?_ | refine w_bl ?_ | refine w_non ?_ | refine w_str ?_ | refine w_cons ?_ | refine w_nil ?_ | refine w_bin ?_ | refine w_cmp ?_ | refine w_call ?_ | refine w_bi ?_ | refine w_isi ?_ | refine w_ix ?_ | refine w_and ?_ | refine w_or ?_ | refine w_not ?_ | refine w_chn ?_ | refine w_tup ?_ | refine w_lst ?_ | refine w_ite ?_ | refine w_neg ?_ | refine w_sl ?_ | refine sl_t ?_ | refine sl_n ?_ | refine sl_b ?_ | refine sl_l ?_ | refine w_rev ?_ | refine rv_t ?_ | refine rv_n ?_ | refine rv_l ?_ | refine rv_b ?_ | refine w_onone ?_ | refine w_osome ?_ | refine b_asg ?_ | refine b_ret ?_ | refine b_retN ?_ | refine b_expr ?_ | refine b_pass ?_ | refine b_ifs ?_ | refine b_for ?_ | refine b_asgO ?_ | refine b_asgR ?_ | refine bw_add ?_ | refine bw_sub ?_ | refine cw_lt ?_ | refine cw_le ?_ | refine cw_gt ?_ | refine cw_ge ?_ | refine cw_eqI ?_ | refine cw_neI ?_ | refine bl_w ?_ | refine if_t ?_ | refine if_f ?_ | refine w_comp ?_ | refine b_nil ?_ | refine b_par ?_ | refine b_par2 ?_ | refine b_appO rfl ?_ | refine b_extO rfl ?_ | refine fl_rt ?_ | refine fl_nx ?_ | refine And.intro (by assumption) ?_ | refine And.intro rfl ?_ | refine ⟨_, rfl, ?_⟩ | refine ⟨_, _, rfl, rfl, ?_⟩ | refine ⟨_, rfl, rfl, ?_⟩ | refine ⟨_, _, _, rfl, rfl, rfl, ?_⟩ | refine ⟨_, _, _, rfl, rfl, atD0, ?_⟩ | refine ⟨_, _, _, rfl, rfl, atD1, ?_⟩ | refine ⟨_, _, rfl, rfl, rfl, ?_⟩ | refine for_cons rfl ?_ | refine for_nil ?_ | dsimp only))
        · (repeat' (first | refine w_v rfl ?_ | refine w_int ?_ | refine w_bl ?_ | refine w_non ?_ | refine w_str ?_ | refine w_cons ?_ | refine w_nil ?_ | refine w_bin ?_ | refine w_cmp ?_ | refine w_call ?_ | refine w_bi ?_ | refine w_isi ?_ | refine w_ix ?_ | refine w_and ?_ | refine w_or ?_ | refine w_not ?_ | refine w_chn ?_ | refine w_tup ?_ | refine w_lst ?_ | refine w_ite ?_ | refine w_neg ?_ | refine w_sl ?_ | refine sl_t ?_ | refine sl_n ?_ | refine sl_b ?_ | refine sl_l ?_ | refine w_rev ?_ | refine rv_t ?_ | refine rv_n ?_ | refine rv_l ?_ | refine rv_b ?_ | refine w_onone ?_ | refine w_osome ?_ | refine b_asg ?_ | refine b_ret ?_ | refine b_retN ?_ | refine b_expr ?_ | refine b_pass ?_ | refine b_ifs ?_ | refine b_for ?_ | refine b_asgO ?_ | refine b_asgR ?_ | refine bw_add ?_ | refine bw_sub ?_ | refine cw_lt ?_ | refine cw_le ?_ | refine cw_gt ?_ | refine cw_ge ?_ | refine cw_eqI ?_ | refine cw_neI ?_ | refine bl_w ?_ | refine if_t ?_ | refine if_f ?_ | refine w_comp ?_ | refine b_nil ?_ | refine b_par ?_ | refine b_par2 ?_ | refine b_appO rfl ?_ | refine b_extO rfl ?_ | refine fl_rt ?_ | refine fl_nx ?_ | refine And.intro (by assumption) ?_ | refine And.intro rfl ?_ | refine ⟨_, rfl, ?_⟩ | refine ⟨_, _, rfl, rfl, ?_⟩ | refine ⟨_, rfl, rfl, ?_⟩ | refine ⟨_, _, _, rfl, rfl, rfl, ?_⟩ | refine ⟨_, _, _, rfl, rfl, atD0, ?_⟩ | refine ⟨_, _, _, rfl, rfl, atD1, ?_⟩ | refine ⟨_, _, rfl, rfl, rfl, ?_⟩ | refine for_cons rfl ?_ | refine for_nil ?_ | dsimp only))
          refine O.wp_eq (rises_eq (b := false) L.h70 (fun x hx' => ?_) (by simp; omega)) ?_
          · obtain ⟨y, hy, rfl⟩ := List.mem_map.mp hx'
            obtain ⟨a, c, rfl, q⟩ := hf y hy
            exact q
          · (repeat' (first | refine w_v rfl ?_ | refine w_int ?_ | refine w_bl ?_ | refine w_non ?_ | refine w_str ?_ | refine w_cons ?_ | refine w_nil ?_ | refine w_bin ?_ | refine w_cmp ?_ | refine w_call ?_ | refine w_bi ?_ | refine w_isi ?_ | refine w_ix ?_ | refine w_and ?_ | refine w_or ?_ | refine w_not ?_ | refine w_chn ?_ | refine w_tup ?_ | refine w_lst ?_ | refine w_ite ?_ | refine w_neg ?_ | refine w_sl ?_ | refine sl_t ?_ | refine sl_n ?_ | refine sl_b ?_ | refine sl_l ?_ | refine w_rev ?_ | refine rv_t ?_ | refine rv_n ?_ | refine rv_l ?_ | refine rv_b ?_ | refine w_onone ?_ | refine w_osome ?_ | refine b_asg ?_ | refine b_ret ?_ | refine b_retN ?_ | refine b_expr ?_ | refine b_pass ?_ | refine b_ifs ?_ | refine b_for ?_ | refine b_asgO ?_ | refine b_asgR ?_ | refine bw_add ?_ | refine bw_sub ?_ | refine cw_lt ?_ | refine cw_le ?_ | refine cw_gt ?_ | refine cw_ge ?_ | refine cw_eqI ?_ | refine cw_neI ?_ | refine bl_w ?_ | refine if_t ?_ | refine if_f ?_ | refine w_comp ?_ | refine b_nil ?_ | refine b_par ?_ | refine b_par2 ?_ | refine b_appO rfl ?_ | refine b_extO rfl ?_ | refine fl_rt ?_ | refine fl_nx ?_ | refine And.intro (by assumption) ?_ | refine And.intro rfl ?_ | refine ⟨_, rfl, ?_⟩ | refine ⟨_, _, rfl, rfl, ?_⟩ | refine ⟨_, rfl, rfl, ?_⟩ | refine ⟨_, _, _, rfl, rfl, rfl, ?_⟩ | refine ⟨_, _, _, rfl, rfl, atD0, ?_⟩ | refine ⟨_, _, _, rfl, rfl, atD1, ?_⟩ | refine ⟨_, _, rfl, rfl, rfl, ?_⟩ | refine for_cons rfl ?_ | refine for_nil ?_ | dsimp only))
            exact ⟨by simp [offB, ha, hl], rfl⟩
    · (repeat' (first | refine w_v rfl ?_ | refine w_int ?_ | refine w_bl ?_ | refine w_non ?_ | refine w_str ?_ | refine w_cons ?_ | refine w_nil ?_ | refine w_bin ?_ | refine w_cmp ?_ | refine w_call ?_ | refine w_bi ?_ | refine w_isi ?_ | refine w_ix ?_ | refine w_and ?_ | refine w_or ?_ | refine w_not ?_ | refine w_chn ?_ | refine w_tup ?_ | refine w_lst ?_ | refine w_ite ?_ | refine w_neg ?_ | refine w_sl ?_ | refine sl_t ?_ | refine sl_n ?_ | refine sl_b ?_ | refine sl_l ?_ | refine w_rev ?_ | refine rv_t ?_ | refine rv_n ?_ | refine rv_l ?_ | refine rv_b ?_ | refine w_onone ?_ | refine w_osome ?_ | refine b_asg ?_ | refine b_ret ?_ | refine b_retN ?_ | refine b_expr ?_ | refine b_pass ?_ | refine b_ifs ?_ | refine b_for ?_ | refine b_asgO ?_ | refine b_asgR ?_ | refine bw_add ?_ | refine bw_sub ?_ | refine cw_lt ?_ | refine cw_le ?_ | refine cw_gt ?_ | refine cw_ge ?_ | refine cw_eqI ?_ | refine cw_neI ?_ | refine bl_w ?_ | refine if_t ?_ | refine if_f ?_ | refine w_comp ?_ | refine b_nil ?_ | refine b_par ?_ | refine b_par2 ?_ | refine b_appO rfl ?_ | refine b_extO rfl ?_ | refine fl_rt ?_ | refine fl_nx ?_ | refine And.intro (by assumption) ?_ | refine And.intro rfl ?_ | refine ⟨_, rfl, ?_⟩ | refine ⟨_, _, rfl, rfl, ?_⟩ | refine ⟨_, rfl, rfl, ?_⟩ | refine ⟨_, _, _, rfl, rfl, rfl, ?_⟩ | refine ⟨_, _, _, rfl, rfl, atD0, ?_⟩ | refine ⟨_, _, _, rfl, rfl, atD1, ?_⟩ | refine ⟨_, _, rfl, rfl, rfl, ?_⟩ | refine for_cons rfl ?_ | refine for_nil ?_ | dsimp only))
      rw [decide_eq_true (by omega : (7 : Int) < (xs.length : Nat))]
      (repeat' (first | refine w_v rfl ?_ | refine w_int ?_ | refine w_bl ?_ | refine w_non ?_ | refine w_str ?_ | refine w_cons ?_ | refine w_nil ?_ | refine w_bin ?_ | refine w_cmp ?_ | refine w_call ?_ | refine w_bi ?_ | refine w_isi ?_ | refine w_ix ?_ | refine w_and ?_ | refine w_or ?_ | refine w_not ?_ | refine w_chn ?_ | refine w_tup ?_ | refine w_lst ?_ | refine w_ite ?_ | refine w_neg ?_ | refine w_sl ?_ | refine sl_t ?_ | refine sl_n ?_ | refine sl_b ?_ | refine sl_l ?_ | refine w_rev ?_ | refine rv_t ?_ | refine rv_n ?_ | refine rv_l ?_ | refine rv_b ?_ | refine w_onone ?_ | refine w_osome ?_ | refine b_asg ?_ | refine b_ret ?_ | refine b_retN ?_ | refine b_expr ?_ | refine b_pass ?_ | refine b_ifs ?_ | refine b_for ?_ | refine b_asgO ?_ | refine b_asgR ?_ | refine bw_add ?_ | refine bw_sub ?_ | refine cw_lt ?_ | refine cw_le ?_ | refine cw_gt ?_ | refine cw_ge ?_ | refine cw_eqI ?_ | refine cw_neI ?_ | refine bl_w ?_ | refine if_t ?_ | refine if_f ?_ | refine w_comp ?_ | refine b_nil ?_ | refine b_par ?_ | refine b_par2 ?_ | refine b_appO rfl ?_ | refine b_extO rfl ?_ | refine fl_rt ?_ | refine fl_nx ?_ | refine And.intro (by assumption) ?_ | refine And.intro rfl ?_ | refine ⟨_, rfl, ?_⟩ | refine ⟨_, _, rfl, rfl, ?_⟩ | refine ⟨_, rfl, rfl, ?_⟩ | refine ⟨_, _, _, rfl, rfl, rfl, ?_⟩ | refine ⟨_, _, _, rfl, rfl, atD0, ?_⟩ | refine ⟨_, _, _, rfl, rfl, atD1, ?_⟩ | refine ⟨_, _, rfl, rfl, rfl, ?_⟩ | refine for_cons rfl ?_ | refine for_nil ?_ | dsimp only))
      exact ⟨by simp [offB, hl], rfl⟩
  all_goals (repeat' (first | refine w_v rfl ?_ | refine w_int ?_ | refine w_bl ?_ | refine w_non ?_ | refine w_str ?_ | refine w_cons ?_ | refine w_nil ?_ | refine w_bin ?_ | refine w_cmp ?_ | refine w_call ?_ | refine w_bi ?_ | refine w_isi ?_ | refine w_ix ?_ | refine w_and ?_ | refine w_or ?_ | refine w_not ?_ | refine w_chn ?_ | refine w_tup ?_ | refine w_lst ?_ | refine w_ite ?_ | refine w_neg ?_ | refine w_sl ?_ | refine sl_t ?_ | refine sl_n ?_ | refine sl_b ?_ | refine sl_l ?_ | refine w_rev ?_ | refine rv_t ?_ | refine rv_n ?_ | refine rv_l ?_ | refine rv_b ?_ | refine w_onone ?_ | refine w_osome ?_ | refine b_asg ?_ | refine b_ret ?_ | refine b_retN ?_ | refine b_expr ?_ | refine b_pass ?_ | refine b_ifs ?_ | refine b_for ?_ | refine b_asgO ?_ | refine b_asgR ?_ | refine bw_add ?_ | refine bw_sub ?_ | refine cw_lt ?_ | refine cw_le ?_ | refine cw_gt ?_ | refine cw_ge ?_ | refine cw_eqI ?_ | refine cw_neI ?_ | refine bl_w ?_ | refine if_t ?_ | refine if_f ?_ | refine w_comp ?_ | refine b_nil ?_ | refine b_par ?_ | refine b_par2 ?_ | refine b_appO rfl ?_ | refine b_extO rfl ?_ | refine fl_rt ?_ | refine fl_nx ?_ | refine And.intro (by assumption) ?_ | refine And.intro rfl ?_ | refine ⟨_, rfl, ?_⟩ | refine ⟨_, _, rfl, rfl, ?_⟩ | refine ⟨_, rfl, rfl, ?_⟩ | refine ⟨_, _, _, rfl, rfl, rfl, ?_⟩ | refine ⟨_, _, _, rfl, rfl, atD0, ?_⟩ | refine ⟨_, _, _, rfl, rfl, atD1, ?_⟩ | refine ⟨_, _, rfl, rfl, rfl, ?_⟩ | refine for_cons rfl ?_ | refine for_nil ?_ | dsimp only))
theorem are_offers_eq {p : Pg} (L : PAct p) (h73 : p.Pt 73 = some f_offers_stand) (h112 : p.Pt 112 = some f_are_offers) {n m : Nat} {t : Int} {es : List Ex} {d : D} {h : MH} (v : BV t es) (hd : d.okN m = true) : p.c (n + 6) 112 [.v (bD t es), .v d] h = .ok (.v (.bl (offB t es d))) h := by
  refine O.eq_of (Pg.call_wp h112 rfl ?_)
  unfold f_are_offers b_are_offers
  (repeat' (first | refine w_v rfl ?_ | refine w_int ?_ | refine w_bl ?_ | refine w_non ?_ | refine w_str ?_ | refine w_cons ?_ | refine w_nil ?_ | refine w_bin ?_ | refine w_cmp ?_ | refine w_call ?_ | refine w_bi ?_ | refine w_isi ?_ | refine w_ix ?_ | refine w_and ?_ | refine w_or ?_ | refine w_not ?_ | refine w_chn ?_ | refine w_tup ?_ | refine w_lst ?_ | refine w_ite ?_ | refine w_neg ?_ | refine w_sl ?_ | refine sl_t ?_ | refine sl_n ?_ | refine sl_b ?_ | refine sl_l ?_ | refine w_rev ?_ | refine rv_t ?_ | refine rv_n ?_ | refine rv_l ?_ | refine rv_b ?_ | refine w_onone ?_ | refine w_osome ?_ | refine b_asg ?_ | refine b_ret ?_ | refine b_retN ?_ | refine b_expr ?_ | refine b_pass ?_ | refine b_ifs ?_ | refine b_for ?_ | refine b_asgO ?_ | refine b_asgR ?_ | refine bw_add ?_ | refine bw_sub ?_ | refine cw_lt ?_ | refine cw_le ?_ | refine cw_gt ?_ | refine cw_ge ?_ | refine cw_eqI ?_ | refine cw_neI ?_ | refine bl_w ?_ | refine if_t ?_ | refine if_f ?_ | refine w_comp ?_ | refine b_nil ?_ | refine b_par ?_ | refine b_par2 ?_ | refine b_appO rfl ?_ | refine b_extO rfl ?_ | refine fl_rt ?_ | refine fl_nx ?_ | refine And.intro (by assumption) ?_ | refine And.intro rfl ?_ | refine ⟨_, rfl, ?_⟩ | refine ⟨_, _, rfl, rfl, ?_⟩ | refine ⟨_, rfl, rfl, ?_⟩ | refine ⟨_, _, _, rfl, rfl, rfl, ?_⟩ | refine ⟨_, _, _, rfl, rfl, atD0, ?_⟩ | refine ⟨_, _, _, rfl, rfl, atD1, ?_⟩ | refine ⟨_, _, rfl, rfl, rfl, ?_⟩ | refine for_cons rfl ?_ | refine for_nil ?_ | dsimp only))
  refine O.wp_eq (need_board2 L v) ?_
  (repeat' (first | refine w_v rfl ?_ | refine w_int ?_ | refine w_bl ?_ | refine w_non ?_ | refine w_str ?_ | refine w_cons ?_ | refine w_nil ?_ | refine w_bin ?_ | refine w_cmp ?_ | refine w_call ?_ | refine w_bi ?_ | refine w_isi ?_ | refine w_ix ?_ | refine w_and ?_ | refine w_or ?_ | refine w_not ?_ | refine w_chn ?_ | refine w_tup ?_ | refine w_lst ?_ | refine w_ite ?_ | refine w_neg ?_ | refine w_sl ?_ | refine sl_t ?_ | refine sl_n ?_ | refine sl_b ?_ | refine sl_l ?_ | refine w_rev ?_ | refine rv_t ?_ | refine rv_n ?_ | refine rv_l ?_ | refine rv_b ?_ | refine w_onone ?_ | refine w_osome ?_ | refine b_asg ?_ | refine b_ret ?_ | refine b_retN ?_ | refine b_expr ?_ | refine b_pass ?_ | refine b_ifs ?_ | refine b_for ?_ | refine b_asgO ?_ | refine b_asgR ?_ | refine bw_add ?_ | refine bw_sub ?_ | refine cw_lt ?_ | refine cw_le ?_ | refine cw_gt ?_ | refine cw_ge ?_ | refine cw_eqI ?_ | refine cw_neI ?_ | refine bl_w ?_ | refine if_t ?_ | refine if_f ?_ | refine w_comp ?_ | refine b_nil ?_ | refine b_par ?_ | refine b_par2 ?_ | refine b_appO rfl ?_ | refine b_extO rfl ?_ | refine fl_rt ?_ | refine fl_nx ?_ | refine And.intro (by assumption) ?_ | refine And.intro rfl ?_ | refine ⟨_, rfl, ?_⟩ | refine ⟨_, _, rfl, rfl, ?_⟩ | refine ⟨_, rfl, rfl, ?_⟩ | refine ⟨_, _, _, rfl, rfl, rfl, ?_⟩ | refine ⟨_, _, _, rfl, rfl, atD0, ?_⟩ | refine ⟨_, _, _, rfl, rfl, atD1, ?_⟩ | refine ⟨_, _, rfl, rfl, rfl, ?_⟩ | refine for_cons rfl ?_ | refine for_nil ?_ | dsimp only))
  refine O.wp_eq (offers_stand_eq L h73 v hd) ?_
  (repeat' (first | refine w_v rfl ?_ | refine w_int ?_ | refine w_bl ?_ | refine w_non ?_ | refine w_str ?_ | refine w_cons ?_ | refine w_nil ?_ | refine w_bin ?_ | refine w_cmp ?_ | refine w_call ?_ | refine w_bi ?_ | refine w_isi ?_ | refine w_ix ?_ | refine w_and ?_ | refine w_or ?_ | refine w_not ?_ | refine w_chn ?_ | refine w_tup ?_ | refine w_lst ?_ | refine w_ite ?_ | refine w_neg ?_ | refine w_sl ?_ | refine sl_t ?_ | refine sl_n ?_ | refine sl_b ?_ | refine sl_l ?_ | refine w_rev ?_ | refine rv_t ?_ | refine rv_n ?_ | refine rv_l ?_ | refine rv_b ?_ | refine w_onone ?_ | refine w_osome ?_ | refine b_asg ?_ | refine b_ret ?_ | refine b_retN ?_ | refine b_expr ?_ | refine b_pass ?_ | refine b_ifs ?_ | refine b_for ?_ | refine b_asgO ?_ | refine b_asgR ?_ | refine bw_add ?_ | refine bw_sub ?_ | refine cw_lt ?_ | refine cw_le ?_ | refine cw_gt ?_ | refine cw_ge ?_ | refine cw_eqI ?_ | refine cw_neI ?_ | refine bl_w ?_ | refine if_t ?_ | refine if_f ?_ | refine w_comp ?_ | refine b_nil ?_ | refine b_par ?_ | refine b_par2 ?_ | refine b_appO rfl ?_ | refine b_extO rfl ?_ | refine fl_rt ?_ | refine fl_nx ?_ | refine And.intro (by assumption) ?_ | refine And.intro rfl ?_ | refine ⟨_, rfl, ?_⟩ | refine ⟨_, _, rfl, rfl, ?_⟩ | refine ⟨_, rfl, rfl, ?_⟩ | refine ⟨_, _, _, rfl, rfl, rfl, ?_⟩ | refine ⟨_, _, _, rfl, rfl, atD0, ?_⟩ | refine ⟨_, _, _, rfl, rfl, atD1, ?_⟩ | refine ⟨_, _, rfl, rfl, rfl, ?_⟩ | refine for_cons rfl ?_ | refine for_nil ?_ | dsimp only))
end GV
set_option Elab.async false
set_option linter.all false
set_option maxRecDepth 100000
set_option maxHeartbeats 4000000
/-! GA7: random boards with offers. -/
namespace GV
open PySem L2
def b_need_offers : List S := [
  .expr (.call 13 [(.v 0)]),
  .ifs (.not (.call 73 [(.v 0), (.v 1)])) [
    .raise 8] []]
def n_need_offers : List Str := ["board", "offers"]
def f_need_offers : FD := ⟨2, 2, b_need_offers⟩
def b_is_bought : List S := [
  .asg (.n 2) (.comp .seq [(.v 0)] (.t [(.n 3), (.n 4)]) [3, 4] [] (.v 3)),
  .ifs (.or (.not (.isi (.v 1) .tuple)) (.not (.bi .all [(.comp .seq [(.v 1)] (.n 5) [5] [] (.and (.isi (.v 5) .tuple) (.cmp .isin (.v 5) (.v 2))))]))) [
    .ret (.bl false)] [],
  .ret (.and (.not (.bi .any [(.comp .seq [(.v 1)] (.n 5) [5] [] (.bi .any [(.comp .seq [(.v 5)] (.n 6) [6] [] (.isi (.v 6) .bool))]))])) (.call 70 [(.v 1)]))]
def n_is_bought : List Str := ["offers", "value", "own", "act", "cost", "one", "part"]
def f_is_bought : FD := ⟨7, 2, b_is_bought⟩
def b_need_bought : List S := [
  .ifs (.not (.call 113 [(.v 0), (.v 1)])) [
    .raise 6] []]
def n_need_bought : List Str := ["offers", "acts"]
def f_need_bought : FD := ⟨2, 2, b_need_bought⟩
def b_cost_of : List S := [
  .ret (.bi .sum [(.comp .seq [(.v 0)] (.t [(.n 2), (.n 3)]) [2, 3] [(.cmp .isin (.v 2) (.v 1))] (.v 3))])]
def n_cost_of : List Str := ["offers", "acts", "act", "cost"]
def f_cost_of : FD := ⟨4, 2, b_cost_of⟩
def b_price_of : List S := [
  .expr (.call 74 [(.v 0), (.v 1)]),
  .expr (.call 114 [(.v 1), (.v 2)]),
  .ret (.call 75 [(.v 1), (.v 2)])]
def n_price_of : List Str := ["board", "offers", "acts"]
def f_price_of : FD := ⟨3, 3, b_price_of⟩
def b_law_some_case : List S := [
  .asg (.n 3) (.call 12 [(.v 0), (.v 1)]),
  .ifs (.cmp .gt (.call 8 [(.v 0), (.v 1), (.int 3)]) (.int 0)) [
    .asg (.n 4) (.bin .add (.int 1) (.call 8 [(.v 0), (.v 1), (.int 3)])),
    .asg (.n 5) (.tup [(.tup [(.tup [(.v 4), (.int 0)]), (.tup [(.int 0), (.bin .add (.int 1) (.call 8 [(.v 0), (.v 1), (.int 4)]))])]), (.tup [(.tup [(.int 0), (.bin .add (.int 1) (.call 8 [(.v 0), (.v 1), (.int 2)]))]), (.tup [(.v 4), (.int 0)])])]),
    .asg (.n 6) (.bin .mul (.tup [(.int 0)]) (.bin .sub (.ix (.v 3) (.int 0)) (.int 2))),
    .asg (.n 5) (.bi .tuple [(.comp .seq [(.v 5)] (.t [(.n 9), (.n 10)]) [9, 10] [] (.tup [(.bin .add (.v 9) (.v 6)), (.bin .add (.v 10) (.v 6))]))]),
    .asg (.n 3) (.tup [(.ix (.v 3) (.int 0)), (.sl (.bin .add (.ix (.v 3) (.int 1)) (.v 5)) none (some (.int 6)))])] [],
  .par [7, 8] [(.call 62 [(.v 3)]), (.tup [])],
  .ifs (.cmp .ne (.v 7) (.lst [])) [
    .asg (.n 8) (.call 61 [(.v 0), (.v 1), (.v 7), (.bin .sub (.v 2) (.call 8 [(.v 0), (.v 1), (.int 2)]))])] [],
  .ret (.tup [(.v 3), (.bi .tuple [(.comp .seq [(.v 8)] (.n 11) [11] [] (.tup [(.v 11), (.bin .add (.int 1) (.call 8 [(.v 0), (.v 1), (.int 4)]))]))])])]
def n_law_some_case : List Str := ["script", "state", "most", "board", "price", "more", "fill", "some", "acts", "takes", "gives", "act"]
def f_law_some_case : FD := ⟨12, 3, b_law_some_case⟩
def b_law_price : List S := [
  .tryW (.call 115 [(.v 0), (.v 1), (.v 2)]) 3]
def n_law_price : List Str := ["board", "offers", "acts", "e"]
def f_law_price : FD := ⟨4, 3, b_law_price⟩
def prD (d : D) (c : Int) : D := .tup [d, .int c]
structure OffV (es : List Ex) (offers : List D) (most : Nat) : Prop where
  el : ∀ x ∈ offers, ∃ d c, x = prD d c ∧ d ∈ allA es ∧ 1 ≤ c ∧ c ≤ 4
  srt : Srt (offers.map fstD)
  len : offers.length ≤ most
theorem rep_flat (k : Nat) (x : D) : (List.replicate k [x]).flatten = List.replicate k x := by
  induction k with
  | zero => rfl
  | succ k ih => simp [List.replicate_succ, ih]
theorem cw_ne_self {d : D} {C : Bool → Prop} (ok : d.okN 60 = true) (q : C false) : CmpW .ne (.v d) (.v d) C := by
  refine cw_ne ok ok ?_
  rw [show D.eqb (R.v d).rd (R.v d).rd = true from eqb_self ok]
  exact q
theorem cw_eq_self {d : D} {C : Bool → Prop} (ok : d.okN 60 = true) (q : C true) : CmpW .eq (.v d) (.v d) C := by
  refine cw_eq ok ok ?_
  rw [show D.eqb (R.v d).rd (R.v d).rd = true from eqb_self ok]
  exact q
/-- with the board in hand -/
theorem case_tail {p : Pg} (L : PLaw p) (h61 : p.Pt 61 = some f_law_some_of) (h62 : p.Pt 62 = some f_law_all_acts) {n i k : Nat} {h0 h : MH} {ns : List Int} {t : Int} {es : List Ex} {most : Nat} {x4 x5 x6 : Option Sl} {Q : Fl → MH → Prop} (v : BV t es) (hs : Sta i h0 k h) (hk : k + 400 < 1000000) (hl : ns.length ≤ 1000) (hm : 1 ≤ most) (hm2 : most ≤ 100) (hw : 200 < p.wf)
    (q : ∀ offers h', OffV es offers most → Sta i h0 (k + 300) h' → Q (.rt (.v (.tup [bD t es, .tup offers]))) h') :
    xB (p.G (n + 4)) NX [.par [7, 8] [(.call 62 [(.v 3)]), (.tup [])],
  .ifs (.cmp .ne (.v 7) (.lst [])) [
    .asg (.n 8) (.call 61 [(.v 0), (.v 1), (.v 7), (.bin .sub (.v 2) (.call 8 [(.v 0), (.v 1), (.int 2)]))])] [],
  .ret (.tup [(.v 3), (.bi .tuple [(.comp .seq [(.v 8)] (.n 11) [11] [] (.tup [(.v 11), (.bin .add (.int 1) (.call 8 [(.v 0), (.v 1), (.int 4)]))]))])])]
      [some (.v (scD ns)), some (.v (.obj i)), some (.v (.int (most : Int))), some (.v (bD t es)), x4, x5, x6, none, none, none, none, none] h Q := by
  have hal := allA_len v
  refine b_par ?_
  (repeat' (first | refine w_v rfl ?_ | refine w_int ?_ | refine w_bl ?_ | refine w_non ?_ | refine w_str ?_ | refine w_cons ?_ | refine w_nil ?_ | refine w_bin ?_ | refine w_cmp ?_ | refine w_call ?_ | refine w_bi ?_ | refine w_isi ?_ | refine w_ix ?_ | refine w_and ?_ | refine w_or ?_ | refine w_not ?_ | refine w_chn ?_ | refine w_tup ?_ | refine w_lst ?_ | refine w_ite ?_ | refine w_neg ?_ | refine w_sl ?_ | refine sl_t ?_ | refine sl_n ?_ | refine sl_b ?_ | refine sl_l ?_ | refine w_rev ?_ | refine rv_t ?_ | refine rv_n ?_ | refine rv_l ?_ | refine rv_b ?_ | refine w_onone ?_ | refine w_osome ?_ | refine bw_add ?_ | refine bw_sub ?_ | refine cw_lt ?_ | refine cw_le ?_ | refine cw_gt ?_ | refine cw_ge ?_ | refine cw_eqI ?_ | refine cw_neI ?_ | refine bl_w ?_ | refine if_t ?_ | refine if_f ?_ | refine w_comp ?_ | refine fl_rt ?_ | refine fl_nx ?_ | refine And.intro (by assumption) ?_ | refine And.intro rfl ?_ | refine ⟨_, rfl, ?_⟩ | refine ⟨_, _, rfl, rfl, ?_⟩ | refine ⟨_, rfl, rfl, ?_⟩ | refine ⟨_, _, _, rfl, rfl, rfl, ?_⟩ | refine ⟨_, _, _, rfl, rfl, atD0, ?_⟩ | refine ⟨_, _, _, rfl, rfl, atD1, ?_⟩ | refine ⟨_, _, rfl, rfl, rfl, ?_⟩ | dsimp only))
  refine O.wp_eq (all_acts_eq h62 v) ?_
  (repeat' (first | refine w_v rfl ?_ | refine w_int ?_ | refine w_bl ?_ | refine w_non ?_ | refine w_str ?_ | refine w_cons ?_ | refine w_nil ?_ | refine w_bin ?_ | refine w_cmp ?_ | refine w_call ?_ | refine w_bi ?_ | refine w_isi ?_ | refine w_ix ?_ | refine w_and ?_ | refine w_or ?_ | refine w_not ?_ | refine w_chn ?_ | refine w_tup ?_ | refine w_lst ?_ | refine w_ite ?_ | refine w_neg ?_ | refine w_sl ?_ | refine sl_t ?_ | refine sl_n ?_ | refine sl_b ?_ | refine sl_l ?_ | refine w_rev ?_ | refine rv_t ?_ | refine rv_n ?_ | refine rv_l ?_ | refine rv_b ?_ | refine w_onone ?_ | refine w_osome ?_ | refine bw_add ?_ | refine bw_sub ?_ | refine cw_lt ?_ | refine cw_le ?_ | refine cw_gt ?_ | refine cw_ge ?_ | refine cw_eqI ?_ | refine cw_neI ?_ | refine bl_w ?_ | refine if_t ?_ | refine if_f ?_ | refine w_comp ?_ | refine fl_rt ?_ | refine fl_nx ?_ | refine And.intro (by assumption) ?_ | refine And.intro rfl ?_ | refine ⟨_, rfl, ?_⟩ | refine ⟨_, _, rfl, rfl, ?_⟩ | refine ⟨_, rfl, rfl, ?_⟩ | refine ⟨_, _, _, rfl, rfl, rfl, ?_⟩ | refine ⟨_, _, _, rfl, rfl, atD0, ?_⟩ | refine ⟨_, _, _, rfl, rfl, atD1, ?_⟩ | refine ⟨_, _, rfl, rfl, rfl, ?_⟩ | dsimp only))
  have fin : ∀ (acts : List D) (h1 : MH) (k1 : Nat), (∀ y ∈ acts, y ∈ allA es) → Srt acts → acts.length ≤ most → Sta i h0 k1 h1 → k1 ≤ k + 128 →
      xB (p.G (n + 4)) NX [.ret (.tup [(.v 3), (.bi .tuple [(.comp .seq [(.v 8)] (.n 11) [11] [] (.tup [(.v 11), (.bin .add (.int 1) (.call 8 [(.v 0), (.v 1), (.int 4)]))]))])])]
        [some (.v (scD ns)), some (.v (.obj i)), some (.v (.int (most : Int))), some (.v (bD t es)), x4, x5, x6, some (.v (.lst (allA es))), some (.v (.tup acts)), none, none, none] h1 Q := by
    intro acts h1 k1 ha1 ha2 ha3 s1 hk1
    refine b_ret ?_
    (repeat' (first | refine w_v rfl ?_ | refine w_int ?_ | refine w_bl ?_ | refine w_non ?_ | refine w_str ?_ | refine w_cons ?_ | refine w_nil ?_ | refine w_bin ?_ | refine w_cmp ?_ | refine w_call ?_ | refine w_bi ?_ | refine w_isi ?_ | refine w_ix ?_ | refine w_and ?_ | refine w_or ?_ | refine w_not ?_ | refine w_chn ?_ | refine w_tup ?_ | refine w_lst ?_ | refine w_ite ?_ | refine w_neg ?_ | refine w_sl ?_ | refine sl_t ?_ | refine sl_n ?_ | refine sl_b ?_ | refine sl_l ?_ | refine w_rev ?_ | refine rv_t ?_ | refine rv_n ?_ | refine rv_l ?_ | refine rv_b ?_ | refine w_onone ?_ | refine w_osome ?_ | refine bw_add ?_ | refine bw_sub ?_ | refine cw_lt ?_ | refine cw_le ?_ | refine cw_gt ?_ | refine cw_ge ?_ | refine cw_eqI ?_ | refine cw_neI ?_ | refine bl_w ?_ | refine if_t ?_ | refine if_f ?_ | refine w_comp ?_ | refine fl_rt ?_ | refine fl_nx ?_ | refine And.intro (by assumption) ?_ | refine And.intro rfl ?_ | refine ⟨_, rfl, ?_⟩ | refine ⟨_, _, rfl, rfl, ?_⟩ | refine ⟨_, rfl, rfl, ?_⟩ | refine ⟨_, _, _, rfl, rfl, rfl, ?_⟩ | refine ⟨_, _, _, rfl, rfl, atD0, ?_⟩ | refine ⟨_, _, _, rfl, rfl, atD1, ?_⟩ | refine ⟨_, _, rfl, rfl, rfl, ?_⟩ | dsimp only))
    refine c_invI (J := fun acc h => (∀ x ∈ acc, ∃ d c, x = prD d c ∧ d ∈ allA es ∧ 1 ≤ c ∧ c ≤ 4) ∧ acc.map fstD = acts.take acc.length ∧ Sta i h0 (k1 + acc.length) h) ⟨by simp, by simp, s1⟩ (fun d acc h hd J => ?_) (by omega) fun offers h3 hy J => ?_
    · obtain ⟨j1, j2, s⟩ := J
      have hlt := (List.getElem?_eq_some_iff.mp hd).1
      refine ⟨_, rfl, ?_⟩
      (repeat' (first | refine w_v rfl ?_ | refine w_int ?_ | refine w_bl ?_ | refine w_non ?_ | refine w_str ?_ | refine w_cons ?_ | refine w_nil ?_ | refine w_bin ?_ | refine w_cmp ?_ | refine w_call ?_ | refine w_bi ?_ | refine w_isi ?_ | refine w_ix ?_ | refine w_and ?_ | refine w_or ?_ | refine w_not ?_ | refine w_chn ?_ | refine w_tup ?_ | refine w_lst ?_ | refine w_ite ?_ | refine w_neg ?_ | refine w_sl ?_ | refine sl_t ?_ | refine sl_n ?_ | refine sl_b ?_ | refine sl_l ?_ | refine w_rev ?_ | refine rv_t ?_ | refine rv_n ?_ | refine rv_l ?_ | refine rv_b ?_ | refine w_onone ?_ | refine w_osome ?_ | refine bw_add ?_ | refine bw_sub ?_ | refine cw_lt ?_ | refine cw_le ?_ | refine cw_gt ?_ | refine cw_ge ?_ | refine cw_eqI ?_ | refine cw_neI ?_ | refine bl_w ?_ | refine if_t ?_ | refine if_f ?_ | refine w_comp ?_ | refine fl_rt ?_ | refine fl_nx ?_ | refine And.intro (by assumption) ?_ | refine And.intro rfl ?_ | refine ⟨_, rfl, ?_⟩ | refine ⟨_, _, rfl, rfl, ?_⟩ | refine ⟨_, rfl, rfl, ?_⟩ | refine ⟨_, _, _, rfl, rfl, rfl, ?_⟩ | refine ⟨_, _, _, rfl, rfl, atD0, ?_⟩ | refine ⟨_, _, _, rfl, rfl, atD1, ?_⟩ | refine ⟨_, _, rfl, rfl, rfl, ?_⟩ | dsimp only))
      refine O.wp_mono (draw_wp (n := n + 1) L.toPDr s (by omega) (by decide) hl) fun r h4 z => ?_
      obtain ⟨⟨c, rfl, c0, c1⟩, s4⟩ := z
      (repeat' (first | refine w_v rfl ?_ | refine w_int ?_ | refine w_bl ?_ | refine w_non ?_ | refine w_str ?_ | refine w_cons ?_ | refine w_nil ?_ | refine w_bin ?_ | refine w_cmp ?_ | refine w_call ?_ | refine w_bi ?_ | refine w_isi ?_ | refine w_ix ?_ | refine w_and ?_ | refine w_or ?_ | refine w_not ?_ | refine w_chn ?_ | refine w_tup ?_ | refine w_lst ?_ | refine w_ite ?_ | refine w_neg ?_ | refine w_sl ?_ | refine sl_t ?_ | refine sl_n ?_ | refine sl_b ?_ | refine sl_l ?_ | refine w_rev ?_ | refine rv_t ?_ | refine rv_n ?_ | refine rv_l ?_ | refine rv_b ?_ | refine w_onone ?_ | refine w_osome ?_ | refine bw_add ?_ | refine bw_sub ?_ | refine cw_lt ?_ | refine cw_le ?_ | refine cw_gt ?_ | refine cw_ge ?_ | refine cw_eqI ?_ | refine cw_neI ?_ | refine bl_w ?_ | refine if_t ?_ | refine if_f ?_ | refine w_comp ?_ | refine fl_rt ?_ | refine fl_nx ?_ | refine And.intro (by assumption) ?_ | refine And.intro rfl ?_ | refine ⟨_, rfl, ?_⟩ | refine ⟨_, _, rfl, rfl, ?_⟩ | refine ⟨_, rfl, rfl, ?_⟩ | refine ⟨_, _, _, rfl, rfl, rfl, ?_⟩ | refine ⟨_, _, _, rfl, rfl, atD0, ?_⟩ | refine ⟨_, _, _, rfl, rfl, atD1, ?_⟩ | refine ⟨_, _, rfl, rfl, rfl, ?_⟩ | dsimp only))
      refine ⟨?_, ?_, s4.mono (by simp only [List.length_append, List.length_singleton]; omega)⟩
      · intro x hx
        rcases List.mem_append.mp hx with q | q
        · exact j1 x q
        · exact ⟨d, 1 + c, (by simpa using q : x = D.tup [d, D.int (1 + c)]), ha1 d (List.mem_of_getElem? hd), by omega, by omega⟩
      · rw [List.map_append, j2, List.length_append, List.length_singleton, List.take_succ, hd]
        rfl
    obtain ⟨j1, j2, s3⟩ := J
    rw [hy, List.take_length] at j2
    (repeat' (first | refine w_v rfl ?_ | refine w_int ?_ | refine w_bl ?_ | refine w_non ?_ | refine w_str ?_ | refine w_cons ?_ | refine w_nil ?_ | refine w_bin ?_ | refine w_cmp ?_ | refine w_call ?_ | refine w_bi ?_ | refine w_isi ?_ | refine w_ix ?_ | refine w_and ?_ | refine w_or ?_ | refine w_not ?_ | refine w_chn ?_ | refine w_tup ?_ | refine w_lst ?_ | refine w_ite ?_ | refine w_neg ?_ | refine w_sl ?_ | refine sl_t ?_ | refine sl_n ?_ | refine sl_b ?_ | refine sl_l ?_ | refine w_rev ?_ | refine rv_t ?_ | refine rv_n ?_ | refine rv_l ?_ | refine rv_b ?_ | refine w_onone ?_ | refine w_osome ?_ | refine bw_add ?_ | refine bw_sub ?_ | refine cw_lt ?_ | refine cw_le ?_ | refine cw_gt ?_ | refine cw_ge ?_ | refine cw_eqI ?_ | refine cw_neI ?_ | refine bl_w ?_ | refine if_t ?_ | refine if_f ?_ | refine w_comp ?_ | refine fl_rt ?_ | refine fl_nx ?_ | refine And.intro (by assumption) ?_ | refine And.intro rfl ?_ | refine ⟨_, rfl, ?_⟩ | refine ⟨_, _, rfl, rfl, ?_⟩ | refine ⟨_, rfl, rfl, ?_⟩ | refine ⟨_, _, _, rfl, rfl, rfl, ?_⟩ | refine ⟨_, _, _, rfl, rfl, atD0, ?_⟩ | refine ⟨_, _, _, rfl, rfl, atD1, ?_⟩ | refine ⟨_, _, rfl, rfl, rfl, ?_⟩ | dsimp only))
    exact q offers h3 ⟨j1, by rw [j2]; exact ha2, by omega⟩ (s3.mono (by omega))
  have okl : (D.lst (allA es)).okN 60 = true := by
    simp only [D.okN, List.all_eq_true]
    exact fun x hx' => (allA_actL hx').ok
  refine b_ifs ?_
  (repeat' (first | refine w_v rfl ?_ | refine w_int ?_ | refine w_bl ?_ | refine w_non ?_ | refine w_str ?_ | refine w_cons ?_ | refine w_nil ?_ | refine w_bin ?_ | refine w_cmp ?_ | refine w_call ?_ | refine w_bi ?_ | refine w_isi ?_ | refine w_ix ?_ | refine w_and ?_ | refine w_or ?_ | refine w_not ?_ | refine w_chn ?_ | refine w_tup ?_ | refine w_lst ?_ | refine w_ite ?_ | refine w_neg ?_ | refine w_sl ?_ | refine sl_t ?_ | refine sl_n ?_ | refine sl_b ?_ | refine sl_l ?_ | refine w_rev ?_ | refine rv_t ?_ | refine rv_n ?_ | refine rv_l ?_ | refine rv_b ?_ | refine w_onone ?_ | refine w_osome ?_ | refine bw_add ?_ | refine bw_sub ?_ | refine cw_lt ?_ | refine cw_le ?_ | refine cw_gt ?_ | refine cw_ge ?_ | refine cw_eqI ?_ | refine cw_neI ?_ | refine bl_w ?_ | refine if_t ?_ | refine if_f ?_ | refine w_comp ?_ | refine fl_rt ?_ | refine fl_nx ?_ | refine And.intro (by assumption) ?_ | refine And.intro rfl ?_ | refine ⟨_, rfl, ?_⟩ | refine ⟨_, _, rfl, rfl, ?_⟩ | refine ⟨_, rfl, rfl, ?_⟩ | refine ⟨_, _, _, rfl, rfl, rfl, ?_⟩ | refine ⟨_, _, _, rfl, rfl, atD0, ?_⟩ | refine ⟨_, _, _, rfl, rfl, atD1, ?_⟩ | refine ⟨_, _, rfl, rfl, rfl, ?_⟩ | dsimp only))
  refine cw_ne okl rfl ?_
  refine bl_w (if_s (fun q => ?_) (fun q => ?_))
  · refine b_asg ?_
    (repeat' (first | refine w_v rfl ?_ | refine w_int ?_ | refine w_bl ?_ | refine w_non ?_ | refine w_str ?_ | refine w_cons ?_ | refine w_nil ?_ | refine w_bin ?_ | refine w_cmp ?_ | refine w_call ?_ | refine w_bi ?_ | refine w_isi ?_ | refine w_ix ?_ | refine w_and ?_ | refine w_or ?_ | refine w_not ?_ | refine w_chn ?_ | refine w_tup ?_ | refine w_lst ?_ | refine w_ite ?_ | refine w_neg ?_ | refine w_sl ?_ | refine sl_t ?_ | refine sl_n ?_ | refine sl_b ?_ | refine sl_l ?_ | refine w_rev ?_ | refine rv_t ?_ | refine rv_n ?_ | refine rv_l ?_ | refine rv_b ?_ | refine w_onone ?_ | refine w_osome ?_ | refine bw_add ?_ | refine bw_sub ?_ | refine cw_lt ?_ | refine cw_le ?_ | refine cw_gt ?_ | refine cw_ge ?_ | refine cw_eqI ?_ | refine cw_neI ?_ | refine bl_w ?_ | refine if_t ?_ | refine if_f ?_ | refine w_comp ?_ | refine fl_rt ?_ | refine fl_nx ?_ | refine And.intro (by assumption) ?_ | refine And.intro rfl ?_ | refine ⟨_, rfl, ?_⟩ | refine ⟨_, _, rfl, rfl, ?_⟩ | refine ⟨_, rfl, rfl, ?_⟩ | refine ⟨_, _, _, rfl, rfl, rfl, ?_⟩ | refine ⟨_, _, _, rfl, rfl, atD0, ?_⟩ | refine ⟨_, _, _, rfl, rfl, atD1, ?_⟩ | refine ⟨_, _, rfl, rfl, rfl, ?_⟩ | dsimp only))
    refine O.wp_mono (draw_wp (n := n + 1) L.toPDr hs (by omega) (by decide) hl) fun r h2 z => ?_
    obtain ⟨⟨j, rfl, j0, j1⟩, s2⟩ := z
    (repeat' (first | refine w_v rfl ?_ | refine w_int ?_ | refine w_bl ?_ | refine w_non ?_ | refine w_str ?_ | refine w_cons ?_ | refine w_nil ?_ | refine w_bin ?_ | refine w_cmp ?_ | refine w_call ?_ | refine w_bi ?_ | refine w_isi ?_ | refine w_ix ?_ | refine w_and ?_ | refine w_or ?_ | refine w_not ?_ | refine w_chn ?_ | refine w_tup ?_ | refine w_lst ?_ | refine w_ite ?_ | refine w_neg ?_ | refine w_sl ?_ | refine sl_t ?_ | refine sl_n ?_ | refine sl_b ?_ | refine sl_l ?_ | refine w_rev ?_ | refine rv_t ?_ | refine rv_n ?_ | refine rv_l ?_ | refine rv_b ?_ | refine w_onone ?_ | refine w_osome ?_ | refine bw_add ?_ | refine bw_sub ?_ | refine cw_lt ?_ | refine cw_le ?_ | refine cw_gt ?_ | refine cw_ge ?_ | refine cw_eqI ?_ | refine cw_neI ?_ | refine bl_w ?_ | refine if_t ?_ | refine if_f ?_ | refine w_comp ?_ | refine fl_rt ?_ | refine fl_nx ?_ | refine And.intro (by assumption) ?_ | refine And.intro rfl ?_ | refine ⟨_, rfl, ?_⟩ | refine ⟨_, _, rfl, rfl, ?_⟩ | refine ⟨_, rfl, rfl, ?_⟩ | refine ⟨_, _, _, rfl, rfl, rfl, ?_⟩ | refine ⟨_, _, _, rfl, rfl, atD0, ?_⟩ | refine ⟨_, _, _, rfl, rfl, atD1, ?_⟩ | refine ⟨_, _, rfl, rfl, rfl, ?_⟩ | dsimp only))
    refine O.wp_mono (some_of_wp L.toPDr h61 s2 (by omega) hl (fun x hx => allA_actL hx) allA_nodup (by omega) (by omega)) fun r h3 z => ?_
    obtain ⟨⟨ys, rfl, h4, h5, h6⟩, s3⟩ := z
    refine ⟨_, _, rfl, rfl, b_nil (fl_nx ?_)⟩
    exact fin ys h3 _ h4 h5 (by omega) s3 (by omega)
  · refine b_nil (fl_nx ?_)
    exact fin [] h _ (by simp) List.Pairwise.nil (by simp) hs (by omega)
def fillP (k : Nat) : D → D
  | .tup [.tup a, .tup b] => .tup [.tup (a ++ List.replicate k (.int 0)), .tup (b ++ List.replicate k (.int 0))]
  | _ => .non
theorem some_case_wp {p : Pg} (L : PLaw p) (h61 : p.Pt 61 = some f_law_some_of) (h62 : p.Pt 62 = some f_law_all_acts) (h63 : p.Pt 63 = some f_law_some_case) {n i k : Nat} {h0 h : MH} {ns : List Int} {most : Nat} (hs : Sta i h0 k h) (hk : k + 600 < 1000000) (hl : ns.length ≤ 1000) (hm : 1 ≤ most) (hm2 : most ≤ 100) (hw : 200 < p.wf) :
    (p.c (n + 7) 63 [.v (scD ns), .v (.obj i), .v (.int (most : Int))] h).wp fun r h' => (∃ t es offers, r = .v (.tup [bD t es, .tup offers]) ∧ BV t es ∧ OffV es offers most) ∧ Sta i h0 (k + 500) h' := by
  refine Pg.call_wp h63 rfl ?_
  unfold f_law_some_case b_law_some_case
  refine b_asg ?_
  (repeat' (first | refine w_v rfl ?_ | refine w_int ?_ | refine w_bl ?_ | refine w_non ?_ | refine w_str ?_ | refine w_cons ?_ | refine w_nil ?_ | refine w_bin ?_ | refine w_cmp ?_ | refine w_call ?_ | refine w_bi ?_ | refine w_isi ?_ | refine w_ix ?_ | refine w_and ?_ | refine w_or ?_ | refine w_not ?_ | refine w_chn ?_ | refine w_tup ?_ | refine w_lst ?_ | refine w_ite ?_ | refine w_neg ?_ | refine w_sl ?_ | refine sl_t ?_ | refine sl_n ?_ | refine sl_b ?_ | refine sl_l ?_ | refine w_rev ?_ | refine rv_t ?_ | refine rv_n ?_ | refine rv_l ?_ | refine rv_b ?_ | refine w_onone ?_ | refine w_osome ?_ | refine bw_add ?_ | refine bw_sub ?_ | refine cw_lt ?_ | refine cw_le ?_ | refine cw_gt ?_ | refine cw_ge ?_ | refine cw_eqI ?_ | refine cw_neI ?_ | refine bl_w ?_ | refine if_t ?_ | refine if_f ?_ | refine w_comp ?_ | refine fl_rt ?_ | refine fl_nx ?_ | refine And.intro (by assumption) ?_ | refine And.intro rfl ?_ | refine ⟨_, rfl, ?_⟩ | refine ⟨_, _, rfl, rfl, ?_⟩ | refine ⟨_, rfl, rfl, ?_⟩ | refine ⟨_, _, _, rfl, rfl, rfl, ?_⟩ | refine ⟨_, _, _, rfl, rfl, atD0, ?_⟩ | refine ⟨_, _, _, rfl, rfl, atD1, ?_⟩ | refine ⟨_, _, rfl, rfl, rfl, ?_⟩ | dsimp only))
  refine O.wp_mono (some_board_wp L hs (by omega) hl) fun r h1 z => ?_
  obtain ⟨⟨t, es, rfl, v⟩, s1⟩ := z
  refine ⟨_, _, rfl, rfl, ?_⟩
  have t2 := v.t2
  have t4 := v.t4
  refine b_ifs ?_
  (repeat' (first | refine w_v rfl ?_ | refine w_int ?_ | refine w_bl ?_ | refine w_non ?_ | refine w_str ?_ | refine w_cons ?_ | refine w_nil ?_ | refine w_bin ?_ | refine w_cmp ?_ | refine w_call ?_ | refine w_bi ?_ | refine w_isi ?_ | refine w_ix ?_ | refine w_and ?_ | refine w_or ?_ | refine w_not ?_ | refine w_chn ?_ | refine w_tup ?_ | refine w_lst ?_ | refine w_ite ?_ | refine w_neg ?_ | refine w_sl ?_ | refine sl_t ?_ | refine sl_n ?_ | refine sl_b ?_ | refine sl_l ?_ | refine w_rev ?_ | refine rv_t ?_ | refine rv_n ?_ | refine rv_l ?_ | refine rv_b ?_ | refine w_onone ?_ | refine w_osome ?_ | refine bw_add ?_ | refine bw_sub ?_ | refine cw_lt ?_ | refine cw_le ?_ | refine cw_gt ?_ | refine cw_ge ?_ | refine cw_eqI ?_ | refine cw_neI ?_ | refine bl_w ?_ | refine if_t ?_ | refine if_f ?_ | refine w_comp ?_ | refine fl_rt ?_ | refine fl_nx ?_ | refine And.intro (by assumption) ?_ | refine And.intro rfl ?_ | refine ⟨_, rfl, ?_⟩ | refine ⟨_, _, rfl, rfl, ?_⟩ | refine ⟨_, rfl, rfl, ?_⟩ | refine ⟨_, _, _, rfl, rfl, rfl, ?_⟩ | refine ⟨_, _, _, rfl, rfl, atD0, ?_⟩ | refine ⟨_, _, _, rfl, rfl, atD1, ?_⟩ | refine ⟨_, _, rfl, rfl, rfl, ?_⟩ | dsimp only))
  refine O.wp_mono (draw_wp (n := n + 3) L.toPDr s1 (by omega) (by decide) hl) fun r h2 z => ?_
  obtain ⟨⟨c, rfl, c0, c1⟩, s2⟩ := z
  (repeat' (first | refine w_v rfl ?_ | refine w_int ?_ | refine w_bl ?_ | refine w_non ?_ | refine w_str ?_ | refine w_cons ?_ | refine w_nil ?_ | refine w_bin ?_ | refine w_cmp ?_ | refine w_call ?_ | refine w_bi ?_ | refine w_isi ?_ | refine w_ix ?_ | refine w_and ?_ | refine w_or ?_ | refine w_not ?_ | refine w_chn ?_ | refine w_tup ?_ | refine w_lst ?_ | refine w_ite ?_ | refine w_neg ?_ | refine w_sl ?_ | refine sl_t ?_ | refine sl_n ?_ | refine sl_b ?_ | refine sl_l ?_ | refine w_rev ?_ | refine rv_t ?_ | refine rv_n ?_ | refine rv_l ?_ | refine rv_b ?_ | refine w_onone ?_ | refine w_osome ?_ | refine bw_add ?_ | refine bw_sub ?_ | refine cw_lt ?_ | refine cw_le ?_ | refine cw_gt ?_ | refine cw_ge ?_ | refine cw_eqI ?_ | refine cw_neI ?_ | refine bl_w ?_ | refine if_t ?_ | refine if_f ?_ | refine w_comp ?_ | refine fl_rt ?_ | refine fl_nx ?_ | refine And.intro (by assumption) ?_ | refine And.intro rfl ?_ | refine ⟨_, rfl, ?_⟩ | refine ⟨_, _, rfl, rfl, ?_⟩ | refine ⟨_, rfl, rfl, ?_⟩ | refine ⟨_, _, _, rfl, rfl, rfl, ?_⟩ | refine ⟨_, _, _, rfl, rfl, atD0, ?_⟩ | refine ⟨_, _, _, rfl, rfl, atD1, ?_⟩ | refine ⟨_, _, rfl, rfl, rfl, ?_⟩ | dsimp only))
  refine if_s (fun q => ?_) (fun q => ?_)
  · refine b_asg ?_
    (repeat' (first | refine w_v rfl ?_ | refine w_int ?_ | refine w_bl ?_ | refine w_non ?_ | refine w_str ?_ | refine w_cons ?_ | refine w_nil ?_ | refine w_bin ?_ | refine w_cmp ?_ | refine w_call ?_ | refine w_bi ?_ | refine w_isi ?_ | refine w_ix ?_ | refine w_and ?_ | refine w_or ?_ | refine w_not ?_ | refine w_chn ?_ | refine w_tup ?_ | refine w_lst ?_ | refine w_ite ?_ | refine w_neg ?_ | refine w_sl ?_ | refine sl_t ?_ | refine sl_n ?_ | refine sl_b ?_ | refine sl_l ?_ | refine w_rev ?_ | refine rv_t ?_ | refine rv_n ?_ | refine rv_l ?_ | refine rv_b ?_ | refine w_onone ?_ | refine w_osome ?_ | refine bw_add ?_ | refine bw_sub ?_ | refine cw_lt ?_ | refine cw_le ?_ | refine cw_gt ?_ | refine cw_ge ?_ | refine cw_eqI ?_ | refine cw_neI ?_ | refine bl_w ?_ | refine if_t ?_ | refine if_f ?_ | refine w_comp ?_ | refine fl_rt ?_ | refine fl_nx ?_ | refine And.intro (by assumption) ?_ | refine And.intro rfl ?_ | refine ⟨_, rfl, ?_⟩ | refine ⟨_, _, rfl, rfl, ?_⟩ | refine ⟨_, rfl, rfl, ?_⟩ | refine ⟨_, _, _, rfl, rfl, rfl, ?_⟩ | refine ⟨_, _, _, rfl, rfl, atD0, ?_⟩ | refine ⟨_, _, _, rfl, rfl, atD1, ?_⟩ | refine ⟨_, _, rfl, rfl, rfl, ?_⟩ | dsimp only))
    refine O.wp_mono (draw_wp (n := n + 3) L.toPDr s2 (by omega) (by decide) hl) fun r h3 z => ?_
    obtain ⟨⟨pc, rfl, pc0, pc1⟩, s3⟩ := z
    (repeat' (first | refine w_v rfl ?_ | refine w_int ?_ | refine w_bl ?_ | refine w_non ?_ | refine w_str ?_ | refine w_cons ?_ | refine w_nil ?_ | refine w_bin ?_ | refine w_cmp ?_ | refine w_call ?_ | refine w_bi ?_ | refine w_isi ?_ | refine w_ix ?_ | refine w_and ?_ | refine w_or ?_ | refine w_not ?_ | refine w_chn ?_ | refine w_tup ?_ | refine w_lst ?_ | refine w_ite ?_ | refine w_neg ?_ | refine w_sl ?_ | refine sl_t ?_ | refine sl_n ?_ | refine sl_b ?_ | refine sl_l ?_ | refine w_rev ?_ | refine rv_t ?_ | refine rv_n ?_ | refine rv_l ?_ | refine rv_b ?_ | refine w_onone ?_ | refine w_osome ?_ | refine bw_add ?_ | refine bw_sub ?_ | refine cw_lt ?_ | refine cw_le ?_ | refine cw_gt ?_ | refine cw_ge ?_ | refine cw_eqI ?_ | refine cw_neI ?_ | refine bl_w ?_ | refine if_t ?_ | refine if_f ?_ | refine w_comp ?_ | refine fl_rt ?_ | refine fl_nx ?_ | refine And.intro (by assumption) ?_ | refine And.intro rfl ?_ | refine ⟨_, rfl, ?_⟩ | refine ⟨_, _, rfl, rfl, ?_⟩ | refine ⟨_, rfl, rfl, ?_⟩ | refine ⟨_, _, _, rfl, rfl, rfl, ?_⟩ | refine ⟨_, _, _, rfl, rfl, atD0, ?_⟩ | refine ⟨_, _, _, rfl, rfl, atD1, ?_⟩ | refine ⟨_, _, rfl, rfl, rfl, ?_⟩ | dsimp only))
    refine b_asg ?_
    (repeat' (first | refine w_v rfl ?_ | refine w_int ?_ | refine w_bl ?_ | refine w_non ?_ | refine w_str ?_ | refine w_cons ?_ | refine w_nil ?_ | refine w_bin ?_ | refine w_cmp ?_ | refine w_call ?_ | refine w_bi ?_ | refine w_isi ?_ | refine w_ix ?_ | refine w_and ?_ | refine w_or ?_ | refine w_not ?_ | refine w_chn ?_ | refine w_tup ?_ | refine w_lst ?_ | refine w_ite ?_ | refine w_neg ?_ | refine w_sl ?_ | refine sl_t ?_ | refine sl_n ?_ | refine sl_b ?_ | refine sl_l ?_ | refine w_rev ?_ | refine rv_t ?_ | refine rv_n ?_ | refine rv_l ?_ | refine rv_b ?_ | refine w_onone ?_ | refine w_osome ?_ | refine bw_add ?_ | refine bw_sub ?_ | refine cw_lt ?_ | refine cw_le ?_ | refine cw_gt ?_ | refine cw_ge ?_ | refine cw_eqI ?_ | refine cw_neI ?_ | refine bl_w ?_ | refine if_t ?_ | refine if_f ?_ | refine w_comp ?_ | refine fl_rt ?_ | refine fl_nx ?_ | refine And.intro (by assumption) ?_ | refine And.intro rfl ?_ | refine ⟨_, rfl, ?_⟩ | refine ⟨_, _, rfl, rfl, ?_⟩ | refine ⟨_, rfl, rfl, ?_⟩ | refine ⟨_, _, _, rfl, rfl, rfl, ?_⟩ | refine ⟨_, _, _, rfl, rfl, atD0, ?_⟩ | refine ⟨_, _, _, rfl, rfl, atD1, ?_⟩ | refine ⟨_, _, rfl, rfl, rfl, ?_⟩ | dsimp only))
    refine O.wp_mono (draw_wp (n := n + 3) L.toPDr s3 (by omega) (by decide) hl) fun r h4 z => ?_
    obtain ⟨⟨g1, rfl, g10, g11⟩, s4⟩ := z
    (repeat' (first | refine w_v rfl ?_ | refine w_int ?_ | refine w_bl ?_ | refine w_non ?_ | refine w_str ?_ | refine w_cons ?_ | refine w_nil ?_ | refine w_bin ?_ | refine w_cmp ?_ | refine w_call ?_ | refine w_bi ?_ | refine w_isi ?_ | refine w_ix ?_ | refine w_and ?_ | refine w_or ?_ | refine w_not ?_ | refine w_chn ?_ | refine w_tup ?_ | refine w_lst ?_ | refine w_ite ?_ | refine w_neg ?_ | refine w_sl ?_ | refine sl_t ?_ | refine sl_n ?_ | refine sl_b ?_ | refine sl_l ?_ | refine w_rev ?_ | refine rv_t ?_ | refine rv_n ?_ | refine rv_l ?_ | refine rv_b ?_ | refine w_onone ?_ | refine w_osome ?_ | refine bw_add ?_ | refine bw_sub ?_ | refine cw_lt ?_ | refine cw_le ?_ | refine cw_gt ?_ | refine cw_ge ?_ | refine cw_eqI ?_ | refine cw_neI ?_ | refine bl_w ?_ | refine if_t ?_ | refine if_f ?_ | refine w_comp ?_ | refine fl_rt ?_ | refine fl_nx ?_ | refine And.intro (by assumption) ?_ | refine And.intro rfl ?_ | refine ⟨_, rfl, ?_⟩ | refine ⟨_, _, rfl, rfl, ?_⟩ | refine ⟨_, rfl, rfl, ?_⟩ | refine ⟨_, _, _, rfl, rfl, rfl, ?_⟩ | refine ⟨_, _, _, rfl, rfl, atD0, ?_⟩ | refine ⟨_, _, _, rfl, rfl, atD1, ?_⟩ | refine ⟨_, _, rfl, rfl, rfl, ?_⟩ | dsimp only))
    refine O.wp_mono (draw_wp (n := n + 3) L.toPDr s4 (by omega) (by decide) hl) fun r h5 z => ?_
    obtain ⟨⟨g2, rfl, g20, g21⟩, s5⟩ := z
    (repeat' (first | refine w_v rfl ?_ | refine w_int ?_ | refine w_bl ?_ | refine w_non ?_ | refine w_str ?_ | refine w_cons ?_ | refine w_nil ?_ | refine w_bin ?_ | refine w_cmp ?_ | refine w_call ?_ | refine w_bi ?_ | refine w_isi ?_ | refine w_ix ?_ | refine w_and ?_ | refine w_or ?_ | refine w_not ?_ | refine w_chn ?_ | refine w_tup ?_ | refine w_lst ?_ | refine w_ite ?_ | refine w_neg ?_ | refine w_sl ?_ | refine sl_t ?_ | refine sl_n ?_ | refine sl_b ?_ | refine sl_l ?_ | refine w_rev ?_ | refine rv_t ?_ | refine rv_n ?_ | refine rv_l ?_ | refine rv_b ?_ | refine w_onone ?_ | refine w_osome ?_ | refine bw_add ?_ | refine bw_sub ?_ | refine cw_lt ?_ | refine cw_le ?_ | refine cw_gt ?_ | refine cw_ge ?_ | refine cw_eqI ?_ | refine cw_neI ?_ | refine bl_w ?_ | refine if_t ?_ | refine if_f ?_ | refine w_comp ?_ | refine fl_rt ?_ | refine fl_nx ?_ | refine And.intro (by assumption) ?_ | refine And.intro rfl ?_ | refine ⟨_, rfl, ?_⟩ | refine ⟨_, _, rfl, rfl, ?_⟩ | refine ⟨_, rfl, rfl, ?_⟩ | refine ⟨_, _, _, rfl, rfl, rfl, ?_⟩ | refine ⟨_, _, _, rfl, rfl, atD0, ?_⟩ | refine ⟨_, _, _, rfl, rfl, atD1, ?_⟩ | refine ⟨_, _, rfl, rfl, rfl, ?_⟩ | dsimp only))
    refine b_asg ?_
    (repeat' (first | refine w_v rfl ?_ | refine w_int ?_ | refine w_bl ?_ | refine w_non ?_ | refine w_str ?_ | refine w_cons ?_ | refine w_nil ?_ | refine w_bin ?_ | refine w_cmp ?_ | refine w_call ?_ | refine w_bi ?_ | refine w_isi ?_ | refine w_ix ?_ | refine w_and ?_ | refine w_or ?_ | refine w_not ?_ | refine w_chn ?_ | refine w_tup ?_ | refine w_lst ?_ | refine w_ite ?_ | refine w_neg ?_ | refine w_sl ?_ | refine sl_t ?_ | refine sl_n ?_ | refine sl_b ?_ | refine sl_l ?_ | refine w_rev ?_ | refine rv_t ?_ | refine rv_n ?_ | refine rv_l ?_ | refine rv_b ?_ | refine w_onone ?_ | refine w_osome ?_ | refine bw_add ?_ | refine bw_sub ?_ | refine cw_lt ?_ | refine cw_le ?_ | refine cw_gt ?_ | refine cw_ge ?_ | refine cw_eqI ?_ | refine cw_neI ?_ | refine bl_w ?_ | refine if_t ?_ | refine if_f ?_ | refine w_comp ?_ | refine fl_rt ?_ | refine fl_nx ?_ | refine And.intro (by assumption) ?_ | refine And.intro rfl ?_ | refine ⟨_, rfl, ?_⟩ | refine ⟨_, _, rfl, rfl, ?_⟩ | refine ⟨_, rfl, rfl, ?_⟩ | refine ⟨_, _, _, rfl, rfl, rfl, ?_⟩ | refine ⟨_, _, _, rfl, rfl, atD0, ?_⟩ | refine ⟨_, _, _, rfl, rfl, atD1, ?_⟩ | refine ⟨_, _, rfl, rfl, rfl, ?_⟩ | dsimp only))
    refine ⟨.v (.tup (List.replicate (t - 2).toNat (.int 0))), ?_, ?_⟩
    · have c1 : decide (0 ≤ t - 2 ∧ t - 2 ≤ 1000) = true := decide_eq_true ⟨by omega, by omega⟩
      simp only [binR, c1, List.length_singleton, Bool.true_and]
      rw [rep_flat]
      simp
      exact ⟨⟨by omega, by omega⟩, by omega⟩
    refine ⟨_, _, rfl, rfl, ?_⟩
    refine b_asg ?_
    (repeat' (first | refine w_v rfl ?_ | refine w_int ?_ | refine w_bl ?_ | refine w_non ?_ | refine w_str ?_ | refine w_cons ?_ | refine w_nil ?_ | refine w_bin ?_ | refine w_cmp ?_ | refine w_call ?_ | refine w_bi ?_ | refine w_isi ?_ | refine w_ix ?_ | refine w_and ?_ | refine w_or ?_ | refine w_not ?_ | refine w_chn ?_ | refine w_tup ?_ | refine w_lst ?_ | refine w_ite ?_ | refine w_neg ?_ | refine w_sl ?_ | refine sl_t ?_ | refine sl_n ?_ | refine sl_b ?_ | refine sl_l ?_ | refine w_rev ?_ | refine rv_t ?_ | refine rv_n ?_ | refine rv_l ?_ | refine rv_b ?_ | refine w_onone ?_ | refine w_osome ?_ | refine bw_add ?_ | refine bw_sub ?_ | refine cw_lt ?_ | refine cw_le ?_ | refine cw_gt ?_ | refine cw_ge ?_ | refine cw_eqI ?_ | refine cw_neI ?_ | refine bl_w ?_ | refine if_t ?_ | refine if_f ?_ | refine w_comp ?_ | refine fl_rt ?_ | refine fl_nx ?_ | refine And.intro (by assumption) ?_ | refine And.intro rfl ?_ | refine ⟨_, rfl, ?_⟩ | refine ⟨_, _, rfl, rfl, ?_⟩ | refine ⟨_, rfl, rfl, ?_⟩ | refine ⟨_, _, _, rfl, rfl, rfl, ?_⟩ | refine ⟨_, _, _, rfl, rfl, atD0, ?_⟩ | refine ⟨_, _, _, rfl, rfl, atD1, ?_⟩ | refine ⟨_, _, rfl, rfl, rfl, ?_⟩ | dsimp only))
    refine c_pure (fillP (t - 2).toNat) (fun d hd => ?_) (by simp) ?_
    · simp only [List.mem_cons, List.not_mem_nil, or_false] at hd
      rcases hd with rfl | rfl
      · refine ⟨_, rfl, ?_⟩
        refine w_tup (w_cons (w_bin (w_v rfl (w_v rfl (bw_tadd (small_of (by simp; omega)) (w_cons (w_bin (w_v rfl (w_v rfl (bw_tadd (small_of (by simp; omega)) (w_nil ⟨_, rfl, rfl, ?_⟩))))))))))) 
        exact ⟨rfl, rfl⟩
      · refine ⟨_, rfl, ?_⟩
        refine w_tup (w_cons (w_bin (w_v rfl (w_v rfl (bw_tadd (small_of (by simp; omega)) (w_cons (w_bin (w_v rfl (w_v rfl (bw_tadd (small_of (by simp; omega)) (w_nil ⟨_, rfl, rfl, ?_⟩))))))))))) 
        exact ⟨rfl, rfl⟩
    refine w_nil ⟨_, rfl, _, _, rfl, rfl, ?_⟩
    refine b_asg ?_
    (repeat' (first | refine w_v rfl ?_ | refine w_int ?_ | refine w_bl ?_ | refine w_non ?_ | refine w_str ?_ | refine w_cons ?_ | refine w_nil ?_ | refine w_bin ?_ | refine w_cmp ?_ | refine w_call ?_ | refine w_bi ?_ | refine w_isi ?_ | refine w_ix ?_ | refine w_and ?_ | refine w_or ?_ | refine w_not ?_ | refine w_chn ?_ | refine w_tup ?_ | refine w_lst ?_ | refine w_ite ?_ | refine w_neg ?_ | refine w_sl ?_ | refine sl_t ?_ | refine sl_n ?_ | refine sl_b ?_ | refine sl_l ?_ | refine w_rev ?_ | refine rv_t ?_ | refine rv_n ?_ | refine rv_l ?_ | refine rv_b ?_ | refine w_onone ?_ | refine w_osome ?_ | refine bw_add ?_ | refine bw_sub ?_ | refine cw_lt ?_ | refine cw_le ?_ | refine cw_gt ?_ | refine cw_ge ?_ | refine cw_eqI ?_ | refine cw_neI ?_ | refine bl_w ?_ | refine if_t ?_ | refine if_f ?_ | refine w_comp ?_ | refine fl_rt ?_ | refine fl_nx ?_ | refine And.intro (by assumption) ?_ | refine And.intro rfl ?_ | refine ⟨_, rfl, ?_⟩ | refine ⟨_, _, rfl, rfl, ?_⟩ | refine ⟨_, rfl, rfl, ?_⟩ | refine ⟨_, _, _, rfl, rfl, rfl, ?_⟩ | refine ⟨_, _, _, rfl, rfl, atD0, ?_⟩ | refine ⟨_, _, _, rfl, rfl, atD1, ?_⟩ | refine ⟨_, _, rfl, rfl, rfl, ?_⟩ | dsimp only))
    have hle := v.len
    refine bw_tadd (small_of (by simp; omega)) ?_
    (repeat' (first | refine w_v rfl ?_ | refine w_int ?_ | refine w_bl ?_ | refine w_non ?_ | refine w_str ?_ | refine w_cons ?_ | refine w_nil ?_ | refine w_bin ?_ | refine w_cmp ?_ | refine w_call ?_ | refine w_bi ?_ | refine w_isi ?_ | refine w_ix ?_ | refine w_and ?_ | refine w_or ?_ | refine w_not ?_ | refine w_chn ?_ | refine w_tup ?_ | refine w_lst ?_ | refine w_ite ?_ | refine w_neg ?_ | refine w_sl ?_ | refine sl_t ?_ | refine sl_n ?_ | refine sl_b ?_ | refine sl_l ?_ | refine w_rev ?_ | refine rv_t ?_ | refine rv_n ?_ | refine rv_l ?_ | refine rv_b ?_ | refine w_onone ?_ | refine w_osome ?_ | refine bw_add ?_ | refine bw_sub ?_ | refine cw_lt ?_ | refine cw_le ?_ | refine cw_gt ?_ | refine cw_ge ?_ | refine cw_eqI ?_ | refine cw_neI ?_ | refine bl_w ?_ | refine if_t ?_ | refine if_f ?_ | refine w_comp ?_ | refine fl_rt ?_ | refine fl_nx ?_ | refine And.intro (by assumption) ?_ | refine And.intro rfl ?_ | refine ⟨_, rfl, ?_⟩ | refine ⟨_, _, rfl, rfl, ?_⟩ | refine ⟨_, rfl, rfl, ?_⟩ | refine ⟨_, _, _, rfl, rfl, rfl, ?_⟩ | refine ⟨_, _, _, rfl, rfl, atD0, ?_⟩ | refine ⟨_, _, _, rfl, rfl, atD1, ?_⟩ | refine ⟨_, _, rfl, rfl, rfl, ?_⟩ | dsimp only))
    rw [cut_to (by decide)]
    let m1 : Ex := ([1 + pc, 0] ++ List.replicate (t - 2).toNat 0, [0, 1 + g1] ++ List.replicate (t - 2).toNat 0)
    let m2 : Ex := ([0, 1 + g2] ++ List.replicate (t - 2).toNat 0, [1 + pc, 0] ++ List.replicate (t - 2).toNat 0)
    have sum0 : ∀ k : Nat, (List.replicate k (0 : Int)).sum = 0 := fun k => by induction k with
      | zero => rfl
      | succ k ih => simp [List.replicate_succ, ih]
    have evm : ∀ e ∈ [m1, m2], EV t e := by
      intro e he
      simp only [List.mem_cons, List.not_mem_nil, or_false] at he
      have mem : ∀ (a b : Int), 0 ≤ a → a ≤ 5 → 0 ≤ b → b ≤ 5 → ∀ x ∈ [a, b] ++ List.replicate (t - 2).toNat 0, 0 ≤ x ∧ x ≤ 5 := fun a b a0 a5 b0 b5 x hx => by
        simp only [List.mem_append, List.mem_cons, List.not_mem_nil, or_false, List.mem_replicate] at hx
        rcases hx with (rfl | rfl) | ⟨_, rfl⟩ <;> omega
      have ln : ∀ (a b : Int), (([a, b] ++ List.replicate (t - 2).toNat 0).length : Int) = t := fun a b => by simp; omega
      rcases he with rfl | rfl
      · exact ⟨ln _ _, ln _ _, mem _ _ (by omega) (by omega) (by omega) (by omega), mem _ _ (by omega) (by omega) (by omega) (by omega), by simp only [m1, List.sum_append, List.sum_cons, List.sum_nil, sum0]; omega⟩
      · exact ⟨ln _ _, ln _ _, mem _ _ (by omega) (by omega) (by omega) (by omega), mem _ _ (by omega) (by omega) (by omega) (by omega), by simp only [m2, List.sum_append, List.sum_cons, List.sum_nil, sum0]; omega⟩
    have v2 : BV t ((es ++ [m1, m2]).take 6) := ⟨t2, t4, by simp; omega, fun e he => by
      rcases List.mem_append.mp (List.mem_of_mem_take he) with h | h
      · exact v.ex e h
      · exact evm e h⟩
    refine b_nil (fl_nx ?_)
    let A1 : D := .tup [.tup [.int (1 + pc), .int 0], .tup [.int 0, .int (1 + g1)]]
    let A2 : D := .tup [.tup [.int 0, .int (1 + g2)], .tup [.int (1 + pc), .int 0]]
    refine b_ss (ss' := [some (.v (scD ns)), some (.v (.obj i)), some (.v (.int (most : Int))), some (.v (.tup [.int t, .tup ((es.map exD ++ [fillP (t - 2).toNat A1, fillP (t - 2).toNat A2]).take 6)])), some (.v (.int (1 + pc))), some (.v (.tup [fillP (t - 2).toNat A1, fillP (t - 2).toNat A2])), some (.v (.tup (List.replicate (t - 2).toNat (.int 0)))), none, none, none, none, none]) rfl ?_
    have f1 : fillP (t - 2).toNat A1 = exD m1 := by simp [fillP, A1, exD, tupI, m1, List.map_replicate]
    have f2 : fillP (t - 2).toNat A2 = exD m2 := by simp [fillP, A2, exD, tupI, m2, List.map_replicate]
    have eB : D.tup [.int t, .tup ((es.map exD ++ [fillP (t - 2).toNat A1, fillP (t - 2).toNat A2]).take 6)] = bD t ((es ++ [m1, m2]).take 6) := by
      rw [f1, f2]
      simp [bD, List.map_take]
    rw [eB]
    refine case_tail (n := n + 2) L h61 h62 v2 s5 (by omega) hl hm hm2 hw fun offers h' ov s' => ?_
    exact ⟨by rw [s'.len, hs.len], ⟨t, _, offers, rfl, v2, ov⟩, s'.mono (by omega)⟩
  · refine b_nil (fl_nx ?_)
    refine case_tail (n := n + 2) L h61 h62 v s2 (by omega) hl hm hm2 hw fun offers h' ov s' => ?_
    exact ⟨by rw [s'.len, hs.len], ⟨t, es, offers, rfl, v, ov⟩, s'.mono (by omega)⟩
end GV
set_option Elab.async false
set_option linter.all false
set_option maxRecDepth 100000
set_option maxHeartbeats 4000000
/-! GA8: bought acts, prices. -/
namespace GV
open PySem L2
theorem b_augA {G : Cfg} {X : Nat → MH → Prop} {ss : SS} {h : MH} {r : List S} {Q : Fl → MH → Prop} {j : Nat} {e : E} {x : Int} (e0 : ss[j]? = some (some (.v (.int x)))) (q : xE G X e ss h fun z h => ∃ y ss', z = .v (.int y) ∧ setSl ss j (.v (.int (x + y))) = some ss' ∧ xB G X r ss' h Q) : xB G X (.aug j .add e :: r) ss h Q := by
  refine b_step ?_
  try simp only [xE_def, xB_def] at *
  rw [evS, e0]
  simp only [O.wpX_bind]
  refine O.wpX_mono q fun z h q => ?_
  obtain ⟨y, ss', rfl, e4, q⟩ := q
  simp only [e4]
  exact q
theorem eqbA {x y : D} (hx : ActL x) (hy : ActL y) (h : D.eqb x y = true) : x = y := by
  cases hx with
  | bar n => cases hy with
    | bar m => simp [barD, D.eqb, D.eqbL] at h; rw [h]
    | fee m u b => simp [barD, feeD, D.eqb, D.eqbL] at h
  | fee n t a => cases hy with
    | bar m => simp [barD, feeD, D.eqb, D.eqbL] at h
    | fee m u b => simp [feeD, D.eqb, D.eqbL] at h; rw [h.1, h.2.1, h.2.2]
def inB (xs : List D) (d : D) : Bool := xs.any fun z => D.eqb z d
theorem inB_iff {xs : List D} {d : D} (hx : ∀ x ∈ xs, ActL x) (hd : ActL d) : inB xs d = true ↔ d ∈ xs := by
  unfold inB
  rw [List.any_eq_true]
  constructor
  · rintro ⟨z, hz, e⟩
    rw [← eqbA (hx z hz) hd e]
    exact hz
  · intro h
    exact ⟨d, h, eqb_self (hd.ok (k := 5))⟩
theorem cw_inL {x : D} {xs : List D} {C : Bool → Prop} (hd : x.okN 50 = true) (hx : ∀ z ∈ xs, z.okN 50 = true) (q : C (inB xs x)) : CmpW .isin (.v x) (.v (.lst xs)) C := ⟨inB xs x, by
  have h2 : xs.all (D.okN 50) = true := List.all_eq_true.mpr hx
  simp [cmpR, R.rd, D.seq, hd, h2, inB], q⟩
theorem cw_inT {x : D} {xs : List D} {C : Bool → Prop} (hd : x.okN 50 = true) (hx : ∀ z ∈ xs, z.okN 50 = true) (q : C (inB xs x)) : CmpW .isin (.v x) (.v (.tup xs)) C := ⟨inB xs x, by
  have h2 : xs.all (D.okN 50) = true := List.all_eq_true.mpr hx
  simp [cmpR, R.rd, D.seq, hd, h2, inB], q⟩
theorem cw_ninL {x : D} {xs : List D} {C : Bool → Prop} (hd : x.okN 50 = true) (hx : ∀ z ∈ xs, z.okN 50 = true) (q : C (!inB xs x)) : CmpW .notin (.v x) (.v (.lst xs)) C := ⟨!inB xs x, by
  have h2 : xs.all (D.okN 50) = true := List.all_eq_true.mpr hx
  simp [cmpR, R.rd, D.seq, hd, h2, inB], q⟩
/-- pairs of an act and a number -/
def Prs (offers : List D) : Prop := ∀ x ∈ offers, ∃ d c, x = prD d c ∧ ActL d
theorem OffV.prs {es : List Ex} {offers : List D} {m : Nat} (o : OffV es offers m) : Prs offers := fun x hx => by
  obtain ⟨d, c, e, hd, _⟩ := o.el x hx
  exact ⟨d, c, e, allA_actL hd⟩
theorem Prs.fst {offers : List D} (h : Prs offers) : ∀ x ∈ offers.map fstD, ActL x := fun x hx => by
  obtain ⟨y, hy, rfl⟩ := List.mem_map.mp hx
  obtain ⟨d, c, rfl, hd⟩ := h y hy
  exact hd
theorem Prs.ok {offers : List D} (h : Prs offers) {k : Nat} : (D.tup offers).okN (k + 3) = true := by
  simp only [D.okN, List.all_eq_true]
  intro x hx
  obtain ⟨d, c, rfl, hd⟩ := h x hx
  simp [prD, D.okN, hd.ok]
def bouB (own xs : List D) : Bool := xs.all (inB own) && risD xs
theorem is_bought_tup {p : Pg} (h70 : p.Pt 70 = some f_rises) (h113 : p.Pt 113 = some f_is_bought) {n : Nat} {offers xs : List D} {h : MH} (hp : Prs offers) (hol : offers.length ≤ 1000) (hx : ∀ x ∈ xs, ActL x) (hl : xs.length ≤ 1000) :
    p.c (n + 2) 113 [.v (.tup offers), .v (.tup xs)] h = .ok (.v (.bl (bouB (offers.map fstD) xs))) h := by
  refine O.eq_of (Pg.call_wp h113 rfl ?_)
  unfold f_is_bought b_is_bought
  refine b_asg ?_
  (repeat' (first | refine w_v rfl ?_ | refine w_int ?_ | refine w_bl ?_ | refine w_non ?_ | refine w_str ?_ | refine w_cons ?_ | refine w_nil ?_ | refine w_bin ?_ | refine w_cmp ?_ | refine w_call ?_ | refine w_bi ?_ | refine w_isi ?_ | refine w_ix ?_ | refine w_and ?_ | refine w_or ?_ | refine w_not ?_ | refine w_chn ?_ | refine w_tup ?_ | refine w_lst ?_ | refine w_ite ?_ | refine w_neg ?_ | refine w_sl ?_ | refine sl_t ?_ | refine sl_n ?_ | refine sl_b ?_ | refine sl_l ?_ | refine w_rev ?_ | refine rv_t ?_ | refine rv_n ?_ | refine rv_l ?_ | refine rv_b ?_ | refine w_onone ?_ | refine w_osome ?_ | refine bw_add ?_ | refine bw_sub ?_ | refine cw_lt ?_ | refine cw_le ?_ | refine cw_gt ?_ | refine cw_ge ?_ | refine cw_eqI ?_ | refine cw_neI ?_ | refine bl_w ?_ | refine if_t ?_ | refine if_f ?_ | refine w_comp ?_ | refine fl_rt ?_ | refine fl_nx ?_ | refine And.intro (by assumption) ?_ | refine And.intro rfl ?_ | refine ⟨_, rfl, ?_⟩ | refine ⟨_, _, rfl, rfl, ?_⟩ | refine ⟨_, rfl, rfl, ?_⟩ | refine ⟨_, _, _, rfl, rfl, rfl, ?_⟩ | refine ⟨_, _, _, rfl, rfl, atD0, ?_⟩ | refine ⟨_, _, _, rfl, rfl, atD1, ?_⟩ | refine ⟨_, _, rfl, rfl, rfl, ?_⟩ | dsimp only))
  refine c_pure fstD (fun d hd => ?_) (by omega) ?_
  · obtain ⟨a, c, rfl, _⟩ := hp d hd
    exact ⟨_, rfl, w_v rfl ⟨rfl, rfl⟩⟩
  refine ⟨_, _, rfl, rfl, ?_⟩
  have hf := hp.fst
  generalize offers.map fstD = own at hf
  refine b_ifs ?_
  (repeat' (first | refine w_v rfl ?_ | refine w_int ?_ | refine w_bl ?_ | refine w_non ?_ | refine w_str ?_ | refine w_cons ?_ | refine w_nil ?_ | refine w_bin ?_ | refine w_cmp ?_ | refine w_call ?_ | refine w_bi ?_ | refine w_isi ?_ | refine w_ix ?_ | refine w_and ?_ | refine w_or ?_ | refine w_not ?_ | refine w_chn ?_ | refine w_tup ?_ | refine w_lst ?_ | refine w_ite ?_ | refine w_neg ?_ | refine w_sl ?_ | refine sl_t ?_ | refine sl_n ?_ | refine sl_b ?_ | refine sl_l ?_ | refine w_rev ?_ | refine rv_t ?_ | refine rv_n ?_ | refine rv_l ?_ | refine rv_b ?_ | refine w_onone ?_ | refine w_osome ?_ | refine bw_add ?_ | refine bw_sub ?_ | refine cw_lt ?_ | refine cw_le ?_ | refine cw_gt ?_ | refine cw_ge ?_ | refine cw_eqI ?_ | refine cw_neI ?_ | refine bl_w ?_ | refine if_t ?_ | refine if_f ?_ | refine w_comp ?_ | refine fl_rt ?_ | refine fl_nx ?_ | refine And.intro (by assumption) ?_ | refine And.intro rfl ?_ | refine ⟨_, rfl, ?_⟩ | refine ⟨_, _, rfl, rfl, ?_⟩ | refine ⟨_, rfl, rfl, ?_⟩ | refine ⟨_, _, _, rfl, rfl, rfl, ?_⟩ | refine ⟨_, _, _, rfl, rfl, atD0, ?_⟩ | refine ⟨_, _, _, rfl, rfl, atD1, ?_⟩ | refine ⟨_, _, rfl, rfl, rfl, ?_⟩ | dsimp only))
  refine c_pure (fun d => .bl (inB own d)) (fun d hd => ⟨_, rfl, ?_⟩) (by omega) ?_
  · have hd' := hx d hd
    refine w_and (w_isi (w_v rfl ⟨noObj_of (hd'.ok (k := 0)), ?_⟩))
    have et : tyD .tuple (R.v d).rd = true := by cases hd' <;> rfl
    rw [et]
    refine bl_w (if_t (w_cmp (w_v rfl (w_v rfl (cw_inL hd'.ok (fun z hz => (hf z hz).ok) ⟨rfl, rfl⟩)))))
  refine w_nil (bi_all bls_map ?_)
  have e : (xs.map (inB own)).all id = xs.all (inB own) := by simp [List.all_map, Function.comp_def]
  rw [e]
  cases ha : xs.all (inB own) with
  | false => exact bl_w (bl_w (if_t (b_ret (w_bl ⟨_, rfl, rfl, by simp [bouB, ha], rfl⟩))))
  | true =>
    refine bl_w (bl_w (if_f (b_nil (fl_nx ?_))))
    refine b_ret ?_
    (repeat' (first | refine w_v rfl ?_ | refine w_int ?_ | refine w_bl ?_ | refine w_non ?_ | refine w_str ?_ | refine w_cons ?_ | refine w_nil ?_ | refine w_bin ?_ | refine w_cmp ?_ | refine w_call ?_ | refine w_bi ?_ | refine w_isi ?_ | refine w_ix ?_ | refine w_and ?_ | refine w_or ?_ | refine w_not ?_ | refine w_chn ?_ | refine w_tup ?_ | refine w_lst ?_ | refine w_ite ?_ | refine w_neg ?_ | refine w_sl ?_ | refine sl_t ?_ | refine sl_n ?_ | refine sl_b ?_ | refine sl_l ?_ | refine w_rev ?_ | refine rv_t ?_ | refine rv_n ?_ | refine rv_l ?_ | refine rv_b ?_ | refine w_onone ?_ | refine w_osome ?_ | refine bw_add ?_ | refine bw_sub ?_ | refine cw_lt ?_ | refine cw_le ?_ | refine cw_gt ?_ | refine cw_ge ?_ | refine cw_eqI ?_ | refine cw_neI ?_ | refine bl_w ?_ | refine if_t ?_ | refine if_f ?_ | refine w_comp ?_ | refine fl_rt ?_ | refine fl_nx ?_ | refine And.intro (by assumption) ?_ | refine And.intro rfl ?_ | refine ⟨_, rfl, ?_⟩ | refine ⟨_, _, rfl, rfl, ?_⟩ | refine ⟨_, rfl, rfl, ?_⟩ | refine ⟨_, _, _, rfl, rfl, rfl, ?_⟩ | refine ⟨_, _, _, rfl, rfl, atD0, ?_⟩ | refine ⟨_, _, _, rfl, rfl, atD1, ?_⟩ | refine ⟨_, _, rfl, rfl, rfl, ?_⟩ | dsimp only))
    refine c_pure (fun _ => .bl false) (fun d hd => ⟨_, rfl, ?_⟩) (by omega) ?_
    · have hd' := hx d hd
      refine w_bi (w_cons (w_comp (w_cons (w_v rfl (w_nil ?_)))))
      cases hd' with
      | bar m =>
        refine ⟨_, rfl, ?_⟩
        refine c_pure (fun _ => .bl false) (fun d hd => ⟨_, rfl, ?_⟩) (by simp) ?_
        · simp only [List.mem_cons, List.not_mem_nil, or_false] at hd
          rcases hd with rfl | rfl <;> exact w_isi (w_v rfl ⟨rfl, rfl, rfl⟩)
        · exact w_nil ⟨_, rfl, rfl, rfl⟩
      | fee m u b =>
        refine ⟨_, rfl, ?_⟩
        refine c_pure (fun _ => .bl false) (fun d hd => ⟨_, rfl, ?_⟩) (by simp) ?_
        · simp only [List.mem_cons, List.not_mem_nil, or_false] at hd
          rcases hd with rfl | rfl | rfl | rfl <;> exact w_isi (w_v rfl ⟨rfl, rfl, rfl⟩)
        · exact w_nil ⟨_, rfl, rfl, rfl⟩
    refine w_nil (bi_any (bs := xs.map fun _ => false) (bls_map (f := fun _ => false)) ?_)
    have ef : (xs.map fun _ => false).any id = false := by
      rw [List.any_eq_false]
      intro b hb
      obtain ⟨_, _, rfl⟩ := List.mem_map.mp hb
      simp
    rw [ef]
    refine bl_w (bl_w (if_t ?_))
    refine w_call (w_cons (w_v rfl (w_nil (O.wp_eq (rises_eq (b := true) h70 hx (by omega)) ⟨_, rfl, rfl, by simp [bouB, ha], rfl⟩))))
theorem is_bought_non {p : Pg} (h113 : p.Pt 113 = some f_is_bought) {n m : Nat} {offers : List D} {d : D} {h : MH} (hp : Prs offers) (hol : offers.length ≤ 1000) (hd : d.okN m = true) (ht : tyD .tuple d = false) :
    p.c (n + 2) 113 [.v (.tup offers), .v d] h = .ok (.v (.bl false)) h := by
  refine O.eq_of (Pg.call_wp h113 rfl ?_)
  unfold f_is_bought b_is_bought
  refine b_asg ?_
  (repeat' (first | refine w_v rfl ?_ | refine w_int ?_ | refine w_bl ?_ | refine w_non ?_ | refine w_str ?_ | refine w_cons ?_ | refine w_nil ?_ | refine w_bin ?_ | refine w_cmp ?_ | refine w_call ?_ | refine w_bi ?_ | refine w_isi ?_ | refine w_ix ?_ | refine w_and ?_ | refine w_or ?_ | refine w_not ?_ | refine w_chn ?_ | refine w_tup ?_ | refine w_lst ?_ | refine w_ite ?_ | refine w_neg ?_ | refine w_sl ?_ | refine sl_t ?_ | refine sl_n ?_ | refine sl_b ?_ | refine sl_l ?_ | refine w_rev ?_ | refine rv_t ?_ | refine rv_n ?_ | refine rv_l ?_ | refine rv_b ?_ | refine w_onone ?_ | refine w_osome ?_ | refine bw_add ?_ | refine bw_sub ?_ | refine cw_lt ?_ | refine cw_le ?_ | refine cw_gt ?_ | refine cw_ge ?_ | refine cw_eqI ?_ | refine cw_neI ?_ | refine bl_w ?_ | refine if_t ?_ | refine if_f ?_ | refine w_comp ?_ | refine fl_rt ?_ | refine fl_nx ?_ | refine And.intro (by assumption) ?_ | refine And.intro rfl ?_ | refine ⟨_, rfl, ?_⟩ | refine ⟨_, _, rfl, rfl, ?_⟩ | refine ⟨_, rfl, rfl, ?_⟩ | refine ⟨_, _, _, rfl, rfl, rfl, ?_⟩ | refine ⟨_, _, _, rfl, rfl, atD0, ?_⟩ | refine ⟨_, _, _, rfl, rfl, atD1, ?_⟩ | refine ⟨_, _, rfl, rfl, rfl, ?_⟩ | dsimp only))
  refine c_pure fstD (fun d hd => ?_) (by omega) ?_
  · obtain ⟨a, c, rfl, _⟩ := hp d hd
    exact ⟨_, rfl, w_v rfl ⟨rfl, rfl⟩⟩
  refine ⟨_, _, rfl, rfl, ?_⟩
  refine b_ifs (w_or (w_not (w_isi (w_v rfl ⟨noObj_of hd, ?_⟩))))
  rw [show tyD .tuple (R.v d).rd = false from ht]
  exact bl_w (bl_w (if_t (bl_w (if_t (b_ret (w_bl ⟨_, rfl, rfl, rfl, rfl⟩))))))
/-! ### prices -/
def cstD : D → Int
  | .tup [_, .int c] => c
  | _ => 0
def costL (offers acts : List D) : Int := ((offers.filter fun d => inB acts (fstD d)).map cstD).sum
theorem ints_cst {l : List D} : ints? (l.map fun d => .int (cstD d)) = some (l.map cstD) := by
  induction l with
  | nil => rfl
  | cons d l ih => simp [ints?, ih]
theorem cost_of_eq {p : Pg} (h75 : p.Pt 75 = some f_cost_of) {n : Nat} {offers acts : List D} {h : MH} (hp : Prs offers) (hol : offers.length ≤ 1000) (hx : ∀ x ∈ acts, ActL x) : p.c (n + 1) 75 [.v (.tup offers), .v (.tup acts)] h = .ok (.v (.int (costL offers acts))) h := by
  refine O.eq_of (Pg.call_wp h75 rfl ?_)
  unfold f_cost_of b_cost_of
  refine b_ret (w_bi (w_cons (w_comp (w_cons (w_v rfl (w_nil ⟨offers, rfl, ?_⟩))))))
  refine c_test (fun d => .int (cstD d)) (fun d => inB acts (fstD d)) (fun d hd => ?_) (by omega) ?_
  · obtain ⟨a, c, rfl, ha⟩ := hp d hd
    exact ⟨_, rfl, w_cmp (w_v rfl (w_v rfl (cw_inT ha.ok (fun z hz => (hx z hz).ok) ⟨rfl, rfl, fun _ => w_v rfl ⟨rfl, rfl⟩⟩)))⟩
  · refine w_nil ⟨.v (.int (costL offers acts)), by simp [biR, R.rd, D.seq, ints_cst, costL], ?_⟩
    exact ⟨_, rfl, rfl, rfl, rfl⟩
structure PPr (p : Pg) : Prop extends PAct p where
  h73 : p.Pt 73 = some f_offers_stand
  h74 : p.Pt 74 = some f_need_offers
theorem need_offers_eq {p : Pg} (L : PPr p) {n m : Nat} {t : Int} {es : List Ex} {d : D} {h : MH} (v : BV t es) (hd : d.okN m = true) (ho : offB t es d = true) : p.c (n + 6) 74 [.v (bD t es), .v d] h = .ok (.v .non) h := by
  refine O.eq_of (Pg.call_wp L.h74 rfl ?_)
  unfold f_need_offers b_need_offers
  refine b_expr (w_call (w_cons (w_v rfl (w_nil (O.wp_eq (need_board2 L.toPAct v) ?_)))))
  refine b_ifs (w_not (w_call (w_cons (w_v rfl (w_cons (w_v rfl (w_nil (O.wp_eq (offers_stand_eq L.toPAct L.h73 v hd) ?_))))))))
  rw [ho]
  exact bl_w (bl_w (if_f (b_nil (fl_nx (b_nil ⟨rfl, rfl, rfl⟩)))))
theorem need_offers_ex {p : Pg} (L : PPr p) {n m : Nat} {t : Int} {es : List Ex} {d : D} {h : MH} (v : BV t es) (hd : d.okN m = true) (ho : offB t es d = false) : p.c (n + 6) 74 [.v (bD t es), .v d] h = .ex 8 h := by
  refine Pg.call_ex L.h74 rfl ?_
  unfold f_need_offers b_need_offers
  refine b_expr (w_call (w_cons (w_v rfl (w_nil (O.wp_eq (need_board2 L.toPAct v) ?_)))))
  refine b_ifs (w_not (w_call (w_cons (w_v rfl (w_cons (w_v rfl (w_nil (O.wp_eq (offers_stand_eq L.toPAct L.h73 v hd) ?_))))))))
  rw [ho]
  exact bl_w (bl_w (if_t (b_raise ⟨rfl, rfl⟩)))
theorem need_offers_ex0 {p : Pg} (L : PPr p) {n m : Nat} {b d : D} {h : MH} (hb : b.okN m = true) (hs : standsD b = false) : p.c (n + 6) 74 [.v b, .v d] h = .ex 0 h := by
  refine Pg.call_ex L.h74 rfl ?_
  unfold f_need_offers b_need_offers
  exact b_expr (w_callX (w_cons (w_v rfl (w_nil (O.wpX_exc (need_board_ex L.h1 L.h2 L.h3 L.h4 L.h13 hb hs) ⟨rfl, rfl⟩)))))
theorem offB_offV {t : Int} {es : List Ex} {offers : List D} {m : Nat} (v : BV t es) (o : OffV es offers m) (hm : m ≤ 7) : offB t es (.tup offers) = true := by
  have a : offers.all (off1 t es) = true := List.all_eq_true.mpr fun x hx => by
    obtain ⟨d, c, rfl, hd, c1, c4⟩ := o.el x hx
    have c9 : c ≤ 9 := by omega
    simp [prD, off1, actsOf_actB v (allA_mem.mp hd), isInt, c1, c9]
  have hl := o.len
  have h7 : offers.length ≤ 7 := by omega
  simp [offB, h7, a, risD_of o.srt]
end GV
set_option Elab.async false
set_option linter.all false
set_option maxRecDepth 100000
set_option maxHeartbeats 4000000
/-! GC1: nets under acts. -/
namespace GV
open PySem L2
def b_need_acts : List S := [
  .expr (.call 13 [(.v 0)]),
  .ifs (.not (.call 105 [(.v 0), (.v 1)])) [
    .raise 6] []]
def n_need_acts : List Str := ["board", "acts"]
def f_need_acts : FD := ⟨2, 2, b_need_acts⟩
def b_under : List S := [
  .asgO 2 (.lst []),
  .for_ .enum [(.ix (.v 0) (.int 1))] (.t [(.n 3), (.n 4)]) [
    .ifs (.cmp .isin (.tup [(.str "bar"), (.v 3)]) (.v 1)) [
      .app 2 .non] [
      .asgO 5 (.bi .list [(.ix (.v 4) (.int 1))]),
      .for_ .seq [(.v 1)] (.n 6) [
        .ifs (.and (.cmp .eq (.ix (.v 6) (.int 0)) (.str "fee")) (.cmp .eq (.ix (.v 6) (.int 1)) (.v 3))) [
          .setI 5 (.ix (.v 6) (.int 2)) (.bi .max [(.int 0), (.bin .sub (.ix (.v 5) (.ix (.v 6) (.int 2))) (.ix (.v 6) (.int 3)))])] []],
      .app 2 (.call 14 [(.tup [(.ix (.v 4) (.int 0)), (.bi .tuple [(.v 5)])])])]],
  .retO 2]
def n_under : List Str := ["board", "acts", "found", "number", "exchange", "gives", "act"]
def f_under : FD := ⟨7, 2, b_under⟩
def b_nets_under : List S := [
  .expr (.call 107 [(.v 0), (.v 1)]),
  .ret (.call 72 [(.v 0), (.v 1)])]
def n_nets_under : List Str := ["board", "acts"]
def f_nets_under : FD := ⟨2, 2, b_nets_under⟩
def b_law_under : List S := [
  .par2 true true 2 3 (.lst []) (.lst []),
  .for_ .enum [(.ix (.v 0) (.int 1))] (.t [(.n 4), (.n 5)]) [
    .ifs (.cmp .notin (.tup [(.str "bar"), (.v 4)]) (.v 1)) [
      .asgO 6 (.lst []),
      .for_ .enum [(.ix (.v 5) (.int 1))] (.t [(.n 7), (.n 8)]) [
        .asg (.n 9) (.bi .sum [(.comp .seq [(.v 1)] (.n 10) [10] [(.cmp .eq (.sl (.v 10) none (some (.int 3))) (.tup [(.str "fee"), (.v 4), (.v 7)]))] (.ix (.v 10) (.int 3)))]),
        .app 6 (.bi .max [(.int 0), (.bin .sub (.v 8) (.v 9))])],
      .app 2 (.tup [(.ix (.v 5) (.int 0)), (.bi .tuple [(.v 6)])]),
      .app 3 (.v 4)] []],
  .frz 3,
  .ret (.tup [(.tup [(.ix (.v 0) (.int 0)), (.bi .tuple [(.v 2)])]), (.v 3)])]
def n_law_under : List Str := ["board", "acts", "rows", "kept", "number", "exchange", "gives", "thing", "count", "fees", "act"]
def f_law_under : FD := ⟨11, 2, b_law_under⟩
def b_law_told4 : List S := [
  .tryW (.call 108 [(.v 0), (.v 1)]) 2]
def n_law_told4 : List Str := ["board", "acts", "e"]
def f_law_told4 : FD := ⟨3, 2, b_law_told4⟩
theorem fee_refl : (("fee" : Str) == "fee") = true := by decide +kernel
def mx (x : Int) : Int := if x > 0 then x else 0
def feeAm (n th : Int) : D → Int
  | .tup [.str s, .int n', .int th', .int a] => if (s == "fee") && (decide (n' = n) && decide (th' = th)) then a else 0
  | _ => 0
def feeSum (n th : Int) (acts : List D) : Int := (acts.map (feeAm n th)).sum
theorem feeAm_bar {n th m : Int} : feeAm n th (barD m) = 0 := rfl
theorem feeAm_fee {n th m u a : Int} : feeAm n th (feeD m u a) = if m = n ∧ u = th then a else 0 := by
  simp only [feeAm, feeD, fee_refl, Bool.true_and]
  by_cases h1 : m = n <;> by_cases h2 : u = th <;> simp [h1, h2]
theorem feeSum_snoc {n th : Int} {l : List D} {a : D} : feeSum n th (l ++ [a]) = feeSum n th l + feeAm n th a := by simp [feeSum]
def gvL (n : Int) (gives : List Int) (acts : List D) : List Int := gives.zipIdx.map fun p => mx (p.1 - feeSum n (p.2 : Nat) acts)
theorem gvL_len {n : Int} {gives : List Int} {acts : List D} : (gvL n gives acts).length = gives.length := by simp [gvL]
theorem gvL_get {n : Int} {gives : List Int} {acts : List D} {i : Nat} : (gvL n gives acts)[i]? = (gives[i]?).map fun g => mx (g - feeSum n (i : Nat) acts) := by
  simp only [gvL, List.getElem?_map, List.getElem?_zipIdx]
  cases gives[i]? <;> simp
theorem gvL_nil {n : Int} {gives : List Int} (h : ∀ g ∈ gives, 0 ≤ g) : gvL n gives [] = gives := by
  apply List.ext_getElem?
  intro i
  rw [gvL_get]
  cases e : gives[i]? with
  | none => rfl
  | some g =>
    have := h g (List.mem_of_getElem? e)
    simp only [Option.map_some, feeSum, List.map_nil, List.sum_nil, Int.sub_zero, mx]
    split <;> congr 1 <;> omega
theorem gvL_same {n : Int} {gives : List Int} {l : List D} {a : D} (h : ∀ i : Nat, i < gives.length → feeAm n (i : Nat) a = 0) : gvL n gives (l ++ [a]) = gvL n gives l := by
  apply List.ext_getElem?
  intro i
  rw [gvL_get, gvL_get]
  cases e : gives[i]? with
  | none => rfl
  | some g =>
    have := h i (List.getElem?_eq_some_iff.mp e).1
    simp only [Option.map_some, feeSum_snoc, this, Int.add_zero]
theorem gvL_set {n : Int} {gives : List Int} {l : List D} {th : Nat} {g am : Int} (hg : gives[th]? = some g) (ha : 0 ≤ am) : (gvL n gives l).set th (mx (mx (g - feeSum n (th : Nat) l) - am)) = gvL n gives (l ++ [feeD n (th : Nat) am]) := by
  have hth := (List.getElem?_eq_some_iff.mp hg).1
  apply List.ext_getElem?
  intro i
  by_cases hi : th = i
  · subst hi
    rw [List.getElem?_set_self (by rw [gvL_len]; exact hth), gvL_get, hg]
    simp only [Option.map_some, feeSum_snoc, feeAm_fee, and_self, if_true, mx]
    split <;> split <;> split <;> congr 1 <;> omega
  · rw [List.getElem?_set_ne hi, gvL_get, gvL_get]
    cases e : gives[i]? with
    | none => rfl
    | some g' =>
      have : ¬ ((th : Int) = (i : Int)) := by omega
      simp only [Option.map_some, feeSum_snoc, feeAm_fee, this, and_false, if_false, Int.add_zero]
/-- acts of the board -/
def AV (es : List Ex) (d : D) : Prop := (∃ n : Nat, n < es.length ∧ d = barD n) ∨ ∃ (n th : Nat) (e : Ex) (g a : Int), es[n]? = some e ∧ e.2[th]? = some g ∧ d = feeD n (th : Nat) a ∧ 1 ≤ a ∧ a ≤ g
theorem AV.of {es : List Ex} {d : D} (h : d ∈ allA es) : AV es d := by
  obtain ⟨n, e, hn, h⟩ := actsOf_mem (allA_mem.mp h)
  rcases h with rfl | ⟨th, g, a, h1, rfl, h2, h3⟩
  · exact .inl ⟨n, (List.getElem?_eq_some_iff.mp hn).1, rfl⟩
  · exact .inr ⟨n, th, e, g, a, hn, h1, rfl, h2, h3⟩
theorem AV.actL {es : List Ex} {d : D} (h : AV es d) : ActL d := by
  rcases h with ⟨n, _, rfl⟩ | ⟨n, th, e, g, a, _, _, rfl, _⟩
  · exact .bar _
  · exact .fee _ _ _
def underE (acts : List D) (p : Ex × Nat) : D := if inB acts (barD (p.2 : Nat)) then .non else netD (p.1.1, gvL (p.2 : Nat) p.1.2 acts)
def underD (es : List Ex) (acts : List D) : List D := es.zipIdx.map (underE acts)
theorem ixN_nat {n i : Nat} (h : i < n) : idxN n (i : Nat) = some i := by
  unfold idxN L2.ixN
  simp [h]
theorem eqb_int {i j : Int} : D.eqb (.int i) (.int j) = decide (i = j) := by simp [D.eqb, beq_dec]
theorem under_eq {p : Pg} (h14 : p.Pt 14 = some f_net_of) (h72 : p.Pt 72 = some f_under) {n : Nat} {t : Int} {es : List Ex} {acts : List D} {h : MH} (v : BV t es) (hA : ∀ a ∈ acts, AV es a) : p.c (n + 2) 72 [.v (bD t es), .v (.tup acts)] h = .ok (.nl (underD es acts)) h := by
  have hle := v.len
  have t4 := v.t4
  have okA : ∀ z ∈ acts, z.okN 50 = true := fun z hz => (hA z hz).actL.ok
  refine O.eq_of (Pg.call_wp h72 rfl ?_)
  unfold f_under b_under
  refine b_asgO (w_lst (w_nil ⟨_, rfl, rfl, _, _, rfl, rfl, ?_⟩))
  refine b_for (w_cons (w_ix (w_v rfl (w_int ⟨_, _, _, rfl, rfl, rfl, w_nil ⟨rfl, ?_⟩⟩))))
  refine it_enum rfl ?_
  refine for_inv (fun j ss h' => (∃ x3 x4 x5 x6, ss = [some (.v (bD t es)), some (.v (.tup acts)), some (.own ((es.zipIdx.take j).map (underE acts))), x3, x4, x5, x6]) ∧ h' = h) ⟨⟨_, _, _, _, rfl⟩, rfl⟩ (fun j d hd ss h' J => ?_) fun ss h' J => ?_
  · obtain ⟨⟨x3, x4, x5, x6, rfl⟩, rfl⟩ := J
    obtain ⟨e, e1, rfl⟩ : ∃ e, es[j]? = some e ∧ d = .tup [.int (j : Nat), exD e] := by
      simp only [List.getElem?_map, List.getElem?_zipIdx, Option.map_eq_some_iff] at hd
      obtain ⟨a, ⟨b, ⟨e, e1, e2⟩, e3⟩, e4⟩ := hd
      subst e2 e3 e4
      exact ⟨e, e1, by simp⟩
    have ve := v.ex e (List.mem_of_getElem? e1)
    have hjl := (List.getElem?_eq_some_iff.mp e1).1
    have l1 := ve.l1
    have l2 := ve.l2
    have ez : es.zipIdx[j]? = some (e, j) := by simp [List.getElem?_zipIdx, e1]
    have et : (es.zipIdx.take (j + 1)).map (underE acts) = (es.zipIdx.take j).map (underE acts) ++ [underE acts (e, j)] := by
      rw [List.take_succ, ez]
      simp
    have hlen : ((es.zipIdx.take j).map (underE acts)).length ≤ 6 := by simp; omega
    refine ⟨_, rfl, ?_⟩
    refine b_ifs ?_
    (repeat' (first | refine w_v rfl ?_ | refine w_int ?_ | refine w_bl ?_ | refine w_non ?_ | refine w_str ?_ | refine w_cons ?_ | refine w_nil ?_ | refine w_bin ?_ | refine w_cmp ?_ | refine w_call ?_ | refine w_bi ?_ | refine w_isi ?_ | refine w_ix ?_ | refine w_and ?_ | refine w_or ?_ | refine w_not ?_ | refine w_chn ?_ | refine w_tup ?_ | refine w_lst ?_ | refine w_ite ?_ | refine w_neg ?_ | refine w_sl ?_ | refine sl_t ?_ | refine sl_n ?_ | refine sl_b ?_ | refine sl_l ?_ | refine w_rev ?_ | refine rv_t ?_ | refine rv_n ?_ | refine rv_l ?_ | refine rv_b ?_ | refine w_onone ?_ | refine w_osome ?_ | refine bw_add ?_ | refine bw_sub ?_ | refine cw_lt ?_ | refine cw_le ?_ | refine cw_gt ?_ | refine cw_ge ?_ | refine cw_eqI ?_ | refine cw_neI ?_ | refine bl_w ?_ | refine if_t ?_ | refine if_f ?_ | refine w_comp ?_ | refine fl_rt ?_ | refine fl_nx ?_ | refine And.intro (by assumption) ?_ | refine And.intro rfl ?_ | refine ⟨_, rfl, ?_⟩ | refine ⟨_, _, rfl, rfl, ?_⟩ | refine ⟨_, rfl, rfl, ?_⟩ | refine ⟨_, _, _, rfl, rfl, rfl, ?_⟩ | refine ⟨_, _, _, rfl, rfl, atD0, ?_⟩ | refine ⟨_, _, _, rfl, rfl, atD1, ?_⟩ | refine ⟨_, _, rfl, rfl, rfl, ?_⟩ | dsimp only))
    refine cw_inT (by simp [D.okN, strBar]) okA ?_
    rw [show D.tup [.str "bar", .int (j : Nat)] = barD (j : Nat) from rfl]
    cases hb : inB acts (barD (j : Nat)) with
    | true =>
      refine bl_w (if_t ?_)
      refine b_appO rfl (w_non ⟨_, _, rfl, small_of (by omega), rfl, b_nil (fl_nx (b_nil (fl_nx ⟨⟨some (.v (.int (j : Nat))), some (.v (exD e)), x5, x6, ?_⟩, rfl⟩)))⟩)
      rw [et]
      simp only [underE, hb, if_true]
      rfl
    | false =>
      refine bl_w (if_f ?_)
      refine b_asgO ?_
      (repeat' (first | refine w_v rfl ?_ | refine w_int ?_ | refine w_bl ?_ | refine w_non ?_ | refine w_str ?_ | refine w_cons ?_ | refine w_nil ?_ | refine w_bin ?_ | refine w_cmp ?_ | refine w_call ?_ | refine w_bi ?_ | refine w_isi ?_ | refine w_ix ?_ | refine w_and ?_ | refine w_or ?_ | refine w_not ?_ | refine w_chn ?_ | refine w_tup ?_ | refine w_lst ?_ | refine w_ite ?_ | refine w_neg ?_ | refine w_sl ?_ | refine sl_t ?_ | refine sl_n ?_ | refine sl_b ?_ | refine sl_l ?_ | refine w_rev ?_ | refine rv_t ?_ | refine rv_n ?_ | refine rv_l ?_ | refine rv_b ?_ | refine w_onone ?_ | refine w_osome ?_ | refine bw_add ?_ | refine bw_sub ?_ | refine cw_lt ?_ | refine cw_le ?_ | refine cw_gt ?_ | refine cw_ge ?_ | refine cw_eqI ?_ | refine cw_neI ?_ | refine bl_w ?_ | refine if_t ?_ | refine if_f ?_ | refine w_comp ?_ | refine fl_rt ?_ | refine fl_nx ?_ | refine And.intro (by assumption) ?_ | refine And.intro rfl ?_ | refine ⟨_, rfl, ?_⟩ | refine ⟨_, _, rfl, rfl, ?_⟩ | refine ⟨_, rfl, rfl, ?_⟩ | refine ⟨_, _, _, rfl, rfl, rfl, ?_⟩ | refine ⟨_, _, _, rfl, rfl, atD0, ?_⟩ | refine ⟨_, _, _, rfl, rfl, atD1, ?_⟩ | refine ⟨_, _, rfl, rfl, rfl, ?_⟩ | dsimp only))
      refine b_for (w_cons (w_v rfl (w_nil ⟨rfl, _, rfl, ?_⟩)))
      refine for_inv (fun i ss h2 => (∃ x6, ss = [some (.v (bD t es)), some (.v (.tup acts)), some (.own ((es.zipIdx.take j).map (underE acts))), some (.v (.int (j : Nat))), some (.v (exD e)), some (.own ((gvL (j : Nat) e.2 (acts.take i)).map .int)), x6]) ∧ h2 = h') ⟨⟨x6, ?_⟩, rfl⟩ (fun i d hd ss h2 J => ?_) fun ss h2 J => ?_
      · rw [List.take_zero, gvL_nil fun g hg => (ve.b2 g hg).1]
        rfl
      · obtain ⟨⟨x6, rfl⟩, rfl⟩ := J
        have hdA := hA d (List.mem_of_getElem? hd)
        have ets : acts.take (i + 1) = acts.take i ++ [d] := by rw [List.take_succ, hd]; rfl
        refine ⟨_, rfl, ?_⟩
        rcases hdA with ⟨m, _, rfl⟩ | ⟨m, th, e', g, a, hm, hg, rfl, a1, a2⟩
        · unfold barD
          refine b_ifs ?_
          refine w_and (w_cmp ?_)
          refine w_ix (w_v rfl (w_int ⟨_, _, _, rfl, rfl, rfl, w_str ?_⟩))
          refine cw_eq (x := .v (.str "bar")) (y := .v (.str "fee")) (by simp [R.rd, D.okN, strBar]) (by simp [R.rd, D.okN, strFee]) ?_
          rw [show D.eqb (R.v (.str "bar")).rd (R.v (.str "fee")).rd = false from strNe]
          refine bl_w (if_f (bl_w (if_f ?_)))
          refine b_nil (fl_nx (b_nil (fl_nx ⟨⟨some (.v (barD m)), ?_⟩, rfl⟩)))
          rw [ets, gvL_same (fun i _ => feeAm_bar (m := m))]
          rfl
        · unfold feeD
          refine b_ifs ?_
          refine w_and (w_cmp ?_)
          refine w_ix (w_v rfl (w_int ⟨_, _, _, rfl, rfl, rfl, w_str ?_⟩))
          refine cw_eq_self (d := .str "fee") (by simp [D.okN, strFee]) (bl_w (if_t ?_))
          (repeat' (first | refine w_v rfl ?_ | refine w_int ?_ | refine w_bl ?_ | refine w_non ?_ | refine w_str ?_ | refine w_cons ?_ | refine w_nil ?_ | refine w_bin ?_ | refine w_cmp ?_ | refine w_call ?_ | refine w_bi ?_ | refine w_isi ?_ | refine w_ix ?_ | refine w_and ?_ | refine w_or ?_ | refine w_not ?_ | refine w_chn ?_ | refine w_tup ?_ | refine w_lst ?_ | refine w_ite ?_ | refine w_neg ?_ | refine w_sl ?_ | refine sl_t ?_ | refine sl_n ?_ | refine sl_b ?_ | refine sl_l ?_ | refine w_rev ?_ | refine rv_t ?_ | refine rv_n ?_ | refine rv_l ?_ | refine rv_b ?_ | refine w_onone ?_ | refine w_osome ?_ | refine bw_add ?_ | refine bw_sub ?_ | refine cw_lt ?_ | refine cw_le ?_ | refine cw_gt ?_ | refine cw_ge ?_ | refine cw_eqI ?_ | refine cw_neI ?_ | refine bl_w ?_ | refine if_t ?_ | refine if_f ?_ | refine w_comp ?_ | refine fl_rt ?_ | refine fl_nx ?_ | refine And.intro (by assumption) ?_ | refine And.intro rfl ?_ | refine ⟨_, rfl, ?_⟩ | refine ⟨_, _, rfl, rfl, ?_⟩ | refine ⟨_, rfl, rfl, ?_⟩ | refine ⟨_, _, _, rfl, rfl, rfl, ?_⟩ | refine ⟨_, _, _, rfl, rfl, atD0, ?_⟩ | refine ⟨_, _, _, rfl, rfl, atD1, ?_⟩ | refine ⟨_, _, rfl, rfl, rfl, ?_⟩ | dsimp only))
          by_cases hmj : m = j
          · subst hmj
            have : e' = e := by rw [e1] at hm; exact (Option.some.inj hm).symm
            subst this
            rw [decide_eq_true rfl]
            refine if_t ?_
            have hth := (List.getElem?_eq_some_iff.mp hg).1
            have hgv : (gvL (m : Nat) e'.2 (acts.take i))[th]? = some (mx (g - feeSum (m : Nat) (th : Nat) (acts.take i))) := by rw [gvL_get, hg]; rfl
            have at1 : atD ((gvL (m : Nat) e'.2 (acts.take i)).map D.int) (th : Nat) = some (.int (mx (g - feeSum (m : Nat) (th : Nat) (acts.take i)))) := atD_get (f := D.int) (Int.natCast_nonneg th) (by simpa using hgv)
            refine b_setI rfl ?_
            (repeat' (first | refine w_v rfl ?_ | refine w_int ?_ | refine w_bl ?_ | refine w_non ?_ | refine w_str ?_ | refine w_cons ?_ | refine w_nil ?_ | refine w_bin ?_ | refine w_cmp ?_ | refine w_call ?_ | refine w_bi ?_ | refine w_isi ?_ | refine w_ix ?_ | refine w_and ?_ | refine w_or ?_ | refine w_not ?_ | refine w_chn ?_ | refine w_tup ?_ | refine w_lst ?_ | refine w_ite ?_ | refine w_neg ?_ | refine w_sl ?_ | refine sl_t ?_ | refine sl_n ?_ | refine sl_b ?_ | refine sl_l ?_ | refine w_rev ?_ | refine rv_t ?_ | refine rv_n ?_ | refine rv_l ?_ | refine rv_b ?_ | refine w_onone ?_ | refine w_osome ?_ | refine bw_add ?_ | refine bw_sub ?_ | refine cw_lt ?_ | refine cw_le ?_ | refine cw_gt ?_ | refine cw_ge ?_ | refine cw_eqI ?_ | refine cw_neI ?_ | refine bl_w ?_ | refine if_t ?_ | refine if_f ?_ | refine w_comp ?_ | refine fl_rt ?_ | refine fl_nx ?_ | refine And.intro (by assumption) ?_ | refine And.intro rfl ?_ | refine ⟨_, rfl, ?_⟩ | refine ⟨_, _, rfl, rfl, ?_⟩ | refine ⟨_, rfl, rfl, ?_⟩ | refine ⟨_, _, _, rfl, rfl, rfl, ?_⟩ | refine ⟨_, _, _, rfl, rfl, atD0, ?_⟩ | refine ⟨_, _, _, rfl, rfl, atD1, ?_⟩ | refine ⟨_, _, rfl, rfl, rfl, ?_⟩ | dsimp only))
            refine ⟨_, _, _, rfl, rfl, at1, ?_⟩
            (repeat' (first | refine w_v rfl ?_ | refine w_int ?_ | refine w_bl ?_ | refine w_non ?_ | refine w_str ?_ | refine w_cons ?_ | refine w_nil ?_ | refine w_bin ?_ | refine w_cmp ?_ | refine w_call ?_ | refine w_bi ?_ | refine w_isi ?_ | refine w_ix ?_ | refine w_and ?_ | refine w_or ?_ | refine w_not ?_ | refine w_chn ?_ | refine w_tup ?_ | refine w_lst ?_ | refine w_ite ?_ | refine w_neg ?_ | refine w_sl ?_ | refine sl_t ?_ | refine sl_n ?_ | refine sl_b ?_ | refine sl_l ?_ | refine w_rev ?_ | refine rv_t ?_ | refine rv_n ?_ | refine rv_l ?_ | refine rv_b ?_ | refine w_onone ?_ | refine w_osome ?_ | refine bw_add ?_ | refine bw_sub ?_ | refine cw_lt ?_ | refine cw_le ?_ | refine cw_gt ?_ | refine cw_ge ?_ | refine cw_eqI ?_ | refine cw_neI ?_ | refine bl_w ?_ | refine if_t ?_ | refine if_f ?_ | refine w_comp ?_ | refine fl_rt ?_ | refine fl_nx ?_ | refine And.intro (by assumption) ?_ | refine And.intro rfl ?_ | refine ⟨_, rfl, ?_⟩ | refine ⟨_, _, rfl, rfl, ?_⟩ | refine ⟨_, rfl, rfl, ?_⟩ | refine ⟨_, _, _, rfl, rfl, rfl, ?_⟩ | refine ⟨_, _, _, rfl, rfl, atD0, ?_⟩ | refine ⟨_, _, _, rfl, rfl, atD1, ?_⟩ | refine ⟨_, _, rfl, rfl, rfl, ?_⟩ | dsimp only))
            refine ⟨_, th, _, rfl, ixN_nat (by rw [List.length_map, gvL_len]; exact hth), rfl, ?_⟩
            refine b_nil (fl_nx (b_nil (fl_nx ⟨⟨some (.v (feeD (m : Nat) (th : Nat) a)), ?_⟩, rfl⟩)))
            have es1 := gvL_set (n := (m : Nat)) (l := acts.take i) hg (by omega : (0 : Int) ≤ a)
            rw [ets, show D.tup [.str "fee", .int (m : Nat), .int (th : Nat), .int a] = feeD (m : Nat) (th : Nat) a from rfl, ← es1, List.map_set]
            rfl
          · rw [decide_eq_false (by omega : ¬ ((m : Nat) : Int) = (j : Nat))]
            refine if_f (b_nil (fl_nx (b_nil (fl_nx ⟨⟨some (.v (feeD (m : Nat) (th : Nat) a)), ?_⟩, rfl⟩))))
            rw [ets, gvL_same (fun i _ => by
              show feeAm _ _ (feeD (m : Nat) (th : Nat) a) = 0
              rw [feeAm_fee, if_neg (by omega)])]
            rfl
      · obtain ⟨⟨x6, rfl⟩, rfl⟩ := J
        rw [List.take_length]
        refine b_appO rfl ?_
        (repeat' (first | refine w_v rfl ?_ | refine w_int ?_ | refine w_bl ?_ | refine w_non ?_ | refine w_str ?_ | refine w_cons ?_ | refine w_nil ?_ | refine w_bin ?_ | refine w_cmp ?_ | refine w_call ?_ | refine w_bi ?_ | refine w_isi ?_ | refine w_ix ?_ | refine w_and ?_ | refine w_or ?_ | refine w_not ?_ | refine w_chn ?_ | refine w_tup ?_ | refine w_lst ?_ | refine w_ite ?_ | refine w_neg ?_ | refine w_sl ?_ | refine sl_t ?_ | refine sl_n ?_ | refine sl_b ?_ | refine sl_l ?_ | refine w_rev ?_ | refine rv_t ?_ | refine rv_n ?_ | refine rv_l ?_ | refine rv_b ?_ | refine w_onone ?_ | refine w_osome ?_ | refine bw_add ?_ | refine bw_sub ?_ | refine cw_lt ?_ | refine cw_le ?_ | refine cw_gt ?_ | refine cw_ge ?_ | refine cw_eqI ?_ | refine cw_neI ?_ | refine bl_w ?_ | refine if_t ?_ | refine if_f ?_ | refine w_comp ?_ | refine fl_rt ?_ | refine fl_nx ?_ | refine And.intro (by assumption) ?_ | refine And.intro rfl ?_ | refine ⟨_, rfl, ?_⟩ | refine ⟨_, _, rfl, rfl, ?_⟩ | refine ⟨_, rfl, rfl, ?_⟩ | refine ⟨_, _, _, rfl, rfl, rfl, ?_⟩ | refine ⟨_, _, _, rfl, rfl, atD0, ?_⟩ | refine ⟨_, _, _, rfl, rfl, atD1, ?_⟩ | refine ⟨_, _, rfl, rfl, rfl, ?_⟩ | dsimp only))
        refine O.wp_eq (net_of_eq (e := (e.1, gvL (j : Nat) e.2 acts)) h14 (by show e.1.length ≤ 1000000; omega)) ?_
        refine ⟨_, _, rfl, small_of (by omega), rfl, b_nil (fl_nx (b_nil (fl_nx ⟨⟨some (.v (.int (j : Nat))), some (.v (exD e)), some (.own ((gvL (j : Nat) e.2 acts).map .int)), x6, ?_⟩, rfl⟩)))⟩
        rw [et]
        simp only [underE, hb, Bool.false_eq_true, if_false]
        rfl
  · obtain ⟨⟨x3, x4, x5, x6, rfl⟩, rfl⟩ := J
    have e5 : es.zipIdx.take ((es.map exD).zipIdx.map fun p => D.tup [.int (p.2 : Nat), p.1]).length = es.zipIdx := List.take_of_length_le (by simp)
    rw [e5]
    exact b_retO rfl ⟨rfl, rfl, rfl⟩
end GV
set_option Elab.async false
set_option linter.all false
set_option maxRecDepth 100000
set_option maxHeartbeats 4000000
/-! GC2: the law's own board under acts. -/
namespace GV
open PySem L2
def keepL (acts : List D) (l : List (Ex × Nat)) : List (Ex × Nat) := l.filter fun p => !inB acts (barD (p.2 : Nat))
def rowE (acts : List D) (p : Ex × Nat) : Ex := (p.1.1, gvL (p.2 : Nat) p.1.2 acts)
def tk3 : D → D
  | .tup xs => .tup (xs.take 3)
  | d => d
def act3 : D → Int
  | .tup [_, _, _, .int a] => a
  | _ => 0
def isFee (n th : Int) (d : D) : Bool := D.eqb (tk3 d) (.tup [.str "fee", .int n, .int th])
theorem isFee_bar {n th m : Int} : isFee n th (barD m) = false := by simp [isFee, tk3, barD, D.eqb, D.eqbL]
theorem isFee_fee {n th m u a : Int} : isFee n th (feeD m u a) = (decide (m = n) && decide (u = th)) := by
  simp [isFee, tk3, feeD, D.eqb, D.eqbL, beq_dec]
theorem fee_filter {n th : Int} : ∀ {acts : List D}, (∀ a ∈ acts, ActL a) → ((acts.filter (isFee n th)).map act3).sum = feeSum n th acts
  | [], _ => rfl
  | a :: acts, h => by
    have ih := fee_filter (n := n) (th := th) (acts := acts) fun b hb => h b (by simp [hb])
    have ha := h a (by simp)
    cases ha with
    | bar m =>
      rw [List.filter_cons, isFee_bar]
      simp only [Bool.false_eq_true, if_false, ih, feeSum, List.map_cons, List.sum_cons, feeAm_bar, Int.zero_add]
    | fee m u b =>
      rw [List.filter_cons, isFee_fee]
      simp only [feeSum, List.map_cons, List.sum_cons, feeAm_fee]
      by_cases h1 : m = n
      · by_cases h2 : u = th
        · simp only [h1, h2, decide_true, Bool.and_self, if_true, List.map_cons, List.sum_cons, ih, and_self]
          rfl
        · simp only [h2, decide_false, Bool.and_false, Bool.false_eq_true, if_false, ih, and_false, Int.zero_add]
          rfl
      · simp only [h1, decide_false, Bool.false_and, Bool.false_eq_true, if_false, ih, false_and, Int.zero_add]
        rfl
theorem ints_act3 {l : List D} : ints? (l.map fun d => .int (act3 d)) = some (l.map act3) := by
  induction l with
  | nil => rfl
  | cons d l ih => simp [ints?, ih]
theorem keep_snoc {acts : List D} {l : List (Ex × Nat)} {i : Nat} {p : Ex × Nat} (h : l[i]? = some p) : keepL acts (l.take (i + 1)) = keepL acts (l.take i) ++ (if inB acts (barD (p.2 : Nat)) then [] else [p]) := by
  rw [List.take_succ, h]
  cases q : inB acts (barD (p.2 : Nat)) <;> simp [keepL, List.filter_append, List.filter_cons, q]
theorem law_under_eq {p : Pg} (h109 : p.Pt 109 = some f_law_under) {n : Nat} {t : Int} {es : List Ex} {acts : List D} {h : MH} (v : BV t es) (hL : ∀ a ∈ acts, ActL a) (hal : acts.length ≤ 1000) :
    p.c (n + 1) 109 [.v (bD t es), .v (.tup acts)] h = .ok (.v (.tup [bD t ((keepL acts es.zipIdx).map (rowE acts)), .lst ((keepL acts es.zipIdx).map fun p => .int (p.2 : Nat))])) h := by
  have hle := v.len
  have t4 := v.t4
  have okA : ∀ z ∈ acts, z.okN 50 = true := fun z hz => (hL z hz).ok
  refine O.eq_of (Pg.call_wp h109 rfl ?_)
  unfold f_law_under b_law_under
  refine b_par2 (w_lst (w_nil ⟨_, rfl, rfl, w_lst (w_nil ⟨_, rfl, rfl, _, _, rfl, rfl, ?_⟩)⟩))
  refine b_for (w_cons (w_ix (w_v rfl (w_int ⟨_, _, _, rfl, rfl, rfl, w_nil ⟨rfl, ?_⟩⟩))))
  refine it_enum rfl ?_
  refine for_inv (fun j ss h' => (∃ x4 x5 x6 x7 x8 x9, ss = [some (.v (bD t es)), some (.v (.tup acts)), some (.own (((keepL acts (es.zipIdx.take j)).map (rowE acts)).map exD)), some (.own ((keepL acts (es.zipIdx.take j)).map fun p => .int (p.2 : Nat))), x4, x5, x6, x7, x8, x9, none]) ∧ h' = h) ⟨⟨_, _, _, _, _, _, rfl⟩, rfl⟩ (fun j d hd ss h' J => ?_) fun ss h' J => ?_
  · obtain ⟨⟨x4, x5, x6, x7, x8, x9, rfl⟩, rfl⟩ := J
    obtain ⟨e, e1, rfl⟩ : ∃ e, es[j]? = some e ∧ d = .tup [.int (j : Nat), exD e] := by
      simp only [List.getElem?_map, List.getElem?_zipIdx, Option.map_eq_some_iff] at hd
      obtain ⟨a, ⟨b, ⟨e, e1, e2⟩, e3⟩, e4⟩ := hd
      subst e2 e3 e4
      exact ⟨e, e1, by simp⟩
    have ve := v.ex e (List.mem_of_getElem? e1)
    have hjl := (List.getElem?_eq_some_iff.mp e1).1
    have l2 := ve.l2
    have ez : es.zipIdx[j]? = some (e, j) := by simp [List.getElem?_zipIdx, e1]
    have kl : (keepL acts (es.zipIdx.take j)).length ≤ 6 := by
      refine Nat.le_trans (List.length_filter_le _ _) ?_
      simp
      omega
    have ks := keep_snoc (acts := acts) ez
    refine ⟨_, rfl, ?_⟩
    refine b_ifs ?_
    refine w_cmp (w_tup (w_cons (w_str (w_cons (w_v rfl (w_nil ⟨_, rfl, rfl, w_v rfl ?_⟩))))))
    refine ⟨!inB acts (barD (j : Nat)), ?_, ?_⟩
    · have h2 : acts.all (D.okN 50) = true := List.all_eq_true.mpr okA
      have h3 : (barD (j : Nat)).okN 50 = true := ActL.ok (.bar _)
      show (if (barD (j : Nat)).okN 50 && acts.all (D.okN 50) then some (!acts.any fun z => D.eqb z (barD (j : Nat))) else none) = _
      rw [h2, h3]
      rfl
    cases hb : inB acts (barD (j : Nat)) with
    | true =>
      rw [show inB acts (barD (((e, j) : Ex × Nat).2 : Nat)) = true from hb] at ks
      refine bl_w (if_f (b_nil (fl_nx (b_nil (fl_nx ⟨⟨some (.v (.int (j : Nat))), some (.v (exD e)), x6, x7, x8, x9, ?_⟩, rfl⟩)))))
      rw [ks]
      simp
    | false =>
      rw [show inB acts (barD (((e, j) : Ex × Nat).2 : Nat)) = false from hb] at ks
      refine bl_w (if_t ?_)
      refine b_asgO (w_lst (w_nil ⟨_, rfl, rfl, _, _, rfl, rfl, ?_⟩))
      refine b_for (w_cons (w_ix (w_v rfl (w_int ⟨_, _, _, rfl, rfl, rfl, w_nil ⟨rfl, ?_⟩⟩))))
      refine it_enum rfl ?_
      refine for_inv (fun i ss h2 => (∃ x7 x8 x9, ss = [some (.v (bD t es)), some (.v (.tup acts)), some (.own (((keepL acts (es.zipIdx.take j)).map (rowE acts)).map exD)), some (.own ((keepL acts (es.zipIdx.take j)).map fun p => .int (p.2 : Nat))), some (.v (.int (j : Nat))), some (.v (exD e)), some (.own (((gvL (j : Nat) e.2 acts).take i).map .int)), x7, x8, x9, none]) ∧ h2 = h') ⟨⟨x7, x8, x9, rfl⟩, rfl⟩ (fun i d hd ss h2 J => ?_) fun ss h2 J => ?_
      · obtain ⟨⟨x7, x8, x9, rfl⟩, rfl⟩ := J
        obtain ⟨g, hg, rfl⟩ : ∃ g, e.2[i]? = some g ∧ d = .tup [.int (i : Nat), .int g] := by
          simp only [List.getElem?_map, List.getElem?_zipIdx, Option.map_eq_some_iff] at hd
          obtain ⟨a, ⟨b, ⟨g, e1, e2⟩, e3⟩, e4⟩ := hd
          subst e2 e3 e4
          exact ⟨g, e1, by simp⟩
        have hgv : (gvL (j : Nat) e.2 acts)[i]? = some (mx (g - feeSum (j : Nat) (i : Nat) acts)) := by rw [gvL_get, hg]; rfl
        have egt : (gvL (j : Nat) e.2 acts).take (i + 1) = (gvL (j : Nat) e.2 acts).take i ++ [mx (g - feeSum (j : Nat) (i : Nat) acts)] := by rw [List.take_succ, hgv]; rfl
        have hil := (List.getElem?_eq_some_iff.mp hg).1
        refine ⟨_, rfl, ?_⟩
        refine b_asg (w_bi (w_cons (w_comp (w_cons (w_v rfl (w_nil ⟨acts, rfl, ?_⟩))))))
        refine c_test (fun d => .int (act3 d)) (isFee (j : Nat) (i : Nat)) (fun d hd => ⟨_, rfl, ?_⟩) (by omega) ?_
        · cases hL d hd with
          | bar m =>
            unfold barD
            refine w_cmp (w_sl (w_v rfl (w_onone (w_osome (w_int ⟨_, rfl, sl_t ?_⟩)))))
            rw [cut_to (by decide)]
            refine w_tup (w_cons (w_str (w_cons (w_v rfl (w_cons (w_v rfl (w_nil ⟨_, rfl, rfl, ?_⟩)))))))
            refine cw_eq (by simp [R.rd, D.okN, strBar]) (by simp [R.rd, D.okN, strFee]) ?_
            refine ⟨rfl, rfl, fun z => ?_⟩
            have := isFee_bar (n := (j : Nat)) (th := (i : Nat)) (m := m)
            unfold barD at this
            rw [this] at z
            cases z
          | fee m u a =>
            unfold feeD
            refine w_cmp (w_sl (w_v rfl (w_onone (w_osome (w_int ⟨_, rfl, sl_t ?_⟩)))))
            rw [cut_to (by decide)]
            refine w_tup (w_cons (w_str (w_cons (w_v rfl (w_cons (w_v rfl (w_nil ⟨_, rfl, rfl, ?_⟩)))))))
            refine cw_eq (by simp [R.rd, D.okN, strFee]) (by simp [R.rd, D.okN, strFee]) ?_
            refine ⟨rfl, rfl, fun z => ?_⟩
            (repeat' (first | refine w_v rfl ?_ | refine w_int ?_ | refine w_bl ?_ | refine w_non ?_ | refine w_str ?_ | refine w_cons ?_ | refine w_nil ?_ | refine w_bin ?_ | refine w_cmp ?_ | refine w_call ?_ | refine w_bi ?_ | refine w_isi ?_ | refine w_ix ?_ | refine w_and ?_ | refine w_or ?_ | refine w_not ?_ | refine w_chn ?_ | refine w_tup ?_ | refine w_lst ?_ | refine w_ite ?_ | refine w_neg ?_ | refine w_sl ?_ | refine sl_t ?_ | refine sl_n ?_ | refine sl_b ?_ | refine sl_l ?_ | refine w_rev ?_ | refine rv_t ?_ | refine rv_n ?_ | refine rv_l ?_ | refine rv_b ?_ | refine w_onone ?_ | refine w_osome ?_ | refine bw_add ?_ | refine bw_sub ?_ | refine cw_lt ?_ | refine cw_le ?_ | refine cw_gt ?_ | refine cw_ge ?_ | refine cw_eqI ?_ | refine cw_neI ?_ | refine bl_w ?_ | refine if_t ?_ | refine if_f ?_ | refine w_comp ?_ | refine fl_rt ?_ | refine fl_nx ?_ | refine And.intro (by assumption) ?_ | refine And.intro rfl ?_ | refine ⟨_, rfl, ?_⟩ | refine ⟨_, _, rfl, rfl, ?_⟩ | refine ⟨_, rfl, rfl, ?_⟩ | refine ⟨_, _, _, rfl, rfl, rfl, ?_⟩ | refine ⟨_, _, _, rfl, rfl, atD0, ?_⟩ | refine ⟨_, _, _, rfl, rfl, atD1, ?_⟩ | refine ⟨_, _, rfl, rfl, rfl, ?_⟩ | dsimp only))
        refine w_nil ⟨.v (.int (feeSum (j : Nat) (i : Nat) acts)), by simp only [biR, R.rd, D.seq, Option.bind_some, ints_act3, fee_filter hL, Option.map_some], _, _, rfl, rfl, ?_⟩
        refine b_appO rfl ?_
        (repeat' (first | refine w_v rfl ?_ | refine w_int ?_ | refine w_bl ?_ | refine w_non ?_ | refine w_str ?_ | refine w_cons ?_ | refine w_nil ?_ | refine w_bin ?_ | refine w_cmp ?_ | refine w_call ?_ | refine w_bi ?_ | refine w_isi ?_ | refine w_ix ?_ | refine w_and ?_ | refine w_or ?_ | refine w_not ?_ | refine w_chn ?_ | refine w_tup ?_ | refine w_lst ?_ | refine w_ite ?_ | refine w_neg ?_ | refine w_sl ?_ | refine sl_t ?_ | refine sl_n ?_ | refine sl_b ?_ | refine sl_l ?_ | refine w_rev ?_ | refine rv_t ?_ | refine rv_n ?_ | refine rv_l ?_ | refine rv_b ?_ | refine w_onone ?_ | refine w_osome ?_ | refine bw_add ?_ | refine bw_sub ?_ | refine cw_lt ?_ | refine cw_le ?_ | refine cw_gt ?_ | refine cw_ge ?_ | refine cw_eqI ?_ | refine cw_neI ?_ | refine bl_w ?_ | refine if_t ?_ | refine if_f ?_ | refine w_comp ?_ | refine fl_rt ?_ | refine fl_nx ?_ | refine And.intro (by assumption) ?_ | refine And.intro rfl ?_ | refine ⟨_, rfl, ?_⟩ | refine ⟨_, _, rfl, rfl, ?_⟩ | refine ⟨_, rfl, rfl, ?_⟩ | refine ⟨_, _, _, rfl, rfl, rfl, ?_⟩ | refine ⟨_, _, _, rfl, rfl, atD0, ?_⟩ | refine ⟨_, _, _, rfl, rfl, atD1, ?_⟩ | refine ⟨_, _, rfl, rfl, rfl, ?_⟩ | dsimp only))
        refine ⟨_, _, rfl, small_of (by simp; omega), rfl, b_nil (fl_nx ⟨⟨some (.v (.int (i : Nat))), some (.v (.int g)), some (.v (.int (feeSum (j : Nat) (i : Nat) acts))), ?_⟩, rfl⟩)⟩
        rw [egt, List.map_append]
        rfl
      · obtain ⟨⟨x7, x8, x9, rfl⟩, rfl⟩ := J
        have e5 : ((e.2.map D.int).zipIdx.map fun p => D.tup [.int (p.2 : Nat), p.1]).length = (gvL (j : Nat) e.2 acts).length := by simp [gvL_len]
        rw [e5, List.take_length]
        refine b_appO rfl ?_
        (repeat' (first | refine w_v rfl ?_ | refine w_int ?_ | refine w_bl ?_ | refine w_non ?_ | refine w_str ?_ | refine w_cons ?_ | refine w_nil ?_ | refine w_bin ?_ | refine w_cmp ?_ | refine w_call ?_ | refine w_bi ?_ | refine w_isi ?_ | refine w_ix ?_ | refine w_and ?_ | refine w_or ?_ | refine w_not ?_ | refine w_chn ?_ | refine w_tup ?_ | refine w_lst ?_ | refine w_ite ?_ | refine w_neg ?_ | refine w_sl ?_ | refine sl_t ?_ | refine sl_n ?_ | refine sl_b ?_ | refine sl_l ?_ | refine w_rev ?_ | refine rv_t ?_ | refine rv_n ?_ | refine rv_l ?_ | refine rv_b ?_ | refine w_onone ?_ | refine w_osome ?_ | refine bw_add ?_ | refine bw_sub ?_ | refine cw_lt ?_ | refine cw_le ?_ | refine cw_gt ?_ | refine cw_ge ?_ | refine cw_eqI ?_ | refine cw_neI ?_ | refine bl_w ?_ | refine if_t ?_ | refine if_f ?_ | refine w_comp ?_ | refine fl_rt ?_ | refine fl_nx ?_ | refine And.intro (by assumption) ?_ | refine And.intro rfl ?_ | refine ⟨_, rfl, ?_⟩ | refine ⟨_, _, rfl, rfl, ?_⟩ | refine ⟨_, rfl, rfl, ?_⟩ | refine ⟨_, _, _, rfl, rfl, rfl, ?_⟩ | refine ⟨_, _, _, rfl, rfl, atD0, ?_⟩ | refine ⟨_, _, _, rfl, rfl, atD1, ?_⟩ | refine ⟨_, _, rfl, rfl, rfl, ?_⟩ | dsimp only))
        refine ⟨_, _, rfl, small_of (by simp; omega), rfl, ?_⟩
        refine b_appO rfl (w_v rfl ⟨_, _, rfl, small_of (by simp; omega), rfl, b_nil (fl_nx (b_nil (fl_nx ⟨⟨some (.v (.int (j : Nat))), some (.v (exD e)), some (.own ((gvL (j : Nat) e.2 acts).map .int)), x7, x8, x9, ?_⟩, rfl⟩)))⟩)
        rw [ks]
        simp only [Bool.false_eq_true, if_false, List.map_append]
        rfl
  · obtain ⟨⟨x4, x5, x6, x7, x8, x9, rfl⟩, rfl⟩ := J
    have e5 : es.zipIdx.take ((es.map exD).zipIdx.map fun p => D.tup [.int (p.2 : Nat), p.1]).length = es.zipIdx := List.take_of_length_le (by simp)
    rw [e5]
    refine b_frz rfl rfl ?_
    refine b_ret ?_
    (repeat' (first | refine w_v rfl ?_ | refine w_int ?_ | refine w_bl ?_ | refine w_non ?_ | refine w_str ?_ | refine w_cons ?_ | refine w_nil ?_ | refine w_bin ?_ | refine w_cmp ?_ | refine w_call ?_ | refine w_bi ?_ | refine w_isi ?_ | refine w_ix ?_ | refine w_and ?_ | refine w_or ?_ | refine w_not ?_ | refine w_chn ?_ | refine w_tup ?_ | refine w_lst ?_ | refine w_ite ?_ | refine w_neg ?_ | refine w_sl ?_ | refine sl_t ?_ | refine sl_n ?_ | refine sl_b ?_ | refine sl_l ?_ | refine w_rev ?_ | refine rv_t ?_ | refine rv_n ?_ | refine rv_l ?_ | refine rv_b ?_ | refine w_onone ?_ | refine w_osome ?_ | refine bw_add ?_ | refine bw_sub ?_ | refine cw_lt ?_ | refine cw_le ?_ | refine cw_gt ?_ | refine cw_ge ?_ | refine cw_eqI ?_ | refine cw_neI ?_ | refine bl_w ?_ | refine if_t ?_ | refine if_f ?_ | refine w_comp ?_ | refine fl_rt ?_ | refine fl_nx ?_ | refine And.intro (by assumption) ?_ | refine And.intro rfl ?_ | refine ⟨_, rfl, ?_⟩ | refine ⟨_, _, rfl, rfl, ?_⟩ | refine ⟨_, rfl, rfl, ?_⟩ | refine ⟨_, _, _, rfl, rfl, rfl, ?_⟩ | refine ⟨_, _, _, rfl, rfl, atD0, ?_⟩ | refine ⟨_, _, _, rfl, rfl, atD1, ?_⟩ | refine ⟨_, _, rfl, rfl, rfl, ?_⟩ | dsimp only))
theorem rows_BV {t : Int} {es : List Ex} {acts : List D} (v : BV t es) (ha : ∀ n th : Nat, 0 ≤ feeSum n th acts) : BV t ((keepL acts es.zipIdx).map (rowE acts)) := by
  refine ⟨v.t2, v.t4, ?_, fun x hx => ?_⟩
  · rw [List.length_map]
    refine Nat.le_trans (List.length_filter_le _ _) ?_
    simpa using v.len
  · obtain ⟨q, hq, rfl⟩ := List.mem_map.mp hx
    have hm := (List.mem_filter.mp hq).1
    have ve := v.ex q.1 (List.mem_of_getElem? (List.mem_zipIdx_iff_getElem?.mp (show (q.1, q.2) ∈ es.zipIdx from hm)))
    refine ⟨ve.l1, by show ((gvL _ _ _).length : Int) = t; rw [gvL_len]; exact ve.l2, ve.b1, fun g hg => ?_, ve.s1⟩
    obtain ⟨i, hi⟩ := List.mem_iff_getElem?.mp hg
    have hi' : (gvL (q.2 : Nat) q.1.2 acts)[i]? = some g := hi
    rw [gvL_get, Option.map_eq_some_iff] at hi'
    obtain ⟨g0, e0, rfl⟩ := hi'
    have b := ve.b2 g0 (List.mem_of_getElem? e0)
    have f := ha q.2 i
    unfold mx
    split <;> omega
theorem feeSum_nn {es : List Ex} {acts : List D} (h : ∀ a ∈ acts, AV es a) (n th : Nat) : 0 ≤ feeSum n th acts := by
  refine sum_nn fun x hx => ?_
  obtain ⟨a, ha, rfl⟩ := List.mem_map.mp hx
  rcases h a ha with ⟨m, _, rfl⟩ | ⟨m, u, e, g, b, _, _, rfl, b1, _⟩
  · rw [feeAm_bar]; exact Int.le_refl _
  · rw [feeAm_fee]
    split <;> omega
structure PUn (p : Pg) : Prop extends PAct p where
  h14 : p.Pt 14 = some f_net_of
  h72 : p.Pt 72 = some f_under
  h105 : p.Pt 105 = some f_acts_stand
  h107 : p.Pt 107 = some f_need_acts
theorem need_acts_eq {p : Pg} (L : PUn p) {n m : Nat} {t : Int} {es : List Ex} {d : D} {h : MH} (v : BV t es) (hd : d.okN m = true) (ho : actsB t es d = true) : p.c (n + 6) 107 [.v (bD t es), .v d] h = .ok (.v .non) h := by
  refine O.eq_of (Pg.call_wp L.h107 rfl ?_)
  unfold f_need_acts b_need_acts
  refine b_expr (w_call (w_cons (w_v rfl (w_nil (O.wp_eq (need_board2 L.toPAct v) ?_)))))
  refine b_ifs (w_not (w_call (w_cons (w_v rfl (w_cons (w_v rfl (w_nil (O.wp_eq (acts_stand_eq L.toPAct L.h105 v hd) ?_))))))))
  rw [ho]
  exact bl_w (bl_w (if_f (b_nil (fl_nx (b_nil ⟨rfl, rfl, rfl⟩)))))
theorem need_acts_ex {p : Pg} (L : PUn p) {n m : Nat} {t : Int} {es : List Ex} {d : D} {h : MH} (v : BV t es) (hd : d.okN m = true) (ho : actsB t es d = false) : p.c (n + 6) 107 [.v (bD t es), .v d] h = .ex 6 h := by
  refine Pg.call_ex L.h107 rfl ?_
  unfold f_need_acts b_need_acts
  refine b_expr (w_call (w_cons (w_v rfl (w_nil (O.wp_eq (need_board2 L.toPAct v) ?_)))))
  refine b_ifs (w_not (w_call (w_cons (w_v rfl (w_cons (w_v rfl (w_nil (O.wp_eq (acts_stand_eq L.toPAct L.h105 v hd) ?_))))))))
  rw [ho]
  exact bl_w (bl_w (if_t (b_raise ⟨rfl, rfl⟩)))
theorem need_acts_ex0 {p : Pg} (L : PUn p) {n m : Nat} {b d : D} {h : MH} (hb : b.okN m = true) (hs : standsD b = false) : p.c (n + 6) 107 [.v b, .v d] h = .ex 0 h := by
  refine Pg.call_ex L.h107 rfl ?_
  unfold f_need_acts b_need_acts
  exact b_expr (w_callX (w_cons (w_v rfl (w_nil (O.wpX_exc (need_board_ex L.h1 L.h2 L.h3 L.h4 L.h13 hb hs) ⟨rfl, rfl⟩)))))
theorem nets_under_eq {p : Pg} (L : PUn p) (h108 : p.Pt 108 = some f_nets_under) {n m : Nat} {t : Int} {es : List Ex} {acts : List D} {h : MH} (v : BV t es) (hA : ∀ a ∈ acts, AV es a) (ho : actsB t es (.tup acts) = true) : p.c (n + 7) 108 [.v (bD t es), .v (.tup acts)] h = .ok (.nl (underD es acts)) h := by
  refine O.eq_of (Pg.call_wp h108 rfl ?_)
  unfold f_nets_under b_nets_under
  refine b_expr (w_call (w_cons (w_v rfl (w_cons (w_v rfl (w_nil (O.wp_eq (need_acts_eq (m := 3) L v ?_ ho) ?_)))))))
  · simp only [D.okN, List.all_eq_true]
    exact fun x hx => (hA x hx).actL.ok
  exact b_ret (w_call (w_cons (w_v rfl (w_cons (w_v rfl (w_nil (O.wp_eq (under_eq L.h14 L.h72 v hA) ⟨_, rfl, rfl, rfl, rfl⟩)))))))
theorem told_ex6 {p : Pg} (L : PUn p) (h108 : p.Pt 108 = some f_nets_under) (h110 : p.Pt 110 = some f_law_told4) (hw : ∀ c ∈ [0, 6], p.wh c = some (raisedD c)) {n m : Nat} {t : Int} {es : List Ex} {d : D} {h : MH} (v : BV t es) (hd : d.okN m = true) (ho : actsB t es d = false) :
    p.c (n + 8) 110 [.v (bD t es), .v d] h = .ok (.v (raisedD 6)) h := by
  refine O.eq_of (Pg.call_wp h110 rfl ?_)
  unfold f_law_told4 b_law_told4
  refine b_tryW (by show (2 : Nat) < 3; decide) ?_
  refine w_callX (w_cons (w_v rfl (w_cons (w_v rfl (w_nil ?_)))))
  refine Pg.call_wpX h108 rfl ?_
  unfold f_nets_under b_nets_under
  refine b_expr (w_callX (w_cons (w_v rfl (w_cons (w_v rfl (w_nil (O.wpX_exc (need_acts_ex L v hd ho) ⟨rfl, ?_⟩)))))))
  exact ⟨raisedD 6, hw 6 (by simp), rfl, rfl, rfl⟩
theorem told_ex0 {p : Pg} (L : PUn p) (h108 : p.Pt 108 = some f_nets_under) (h110 : p.Pt 110 = some f_law_told4) (hw : ∀ c ∈ [0, 6], p.wh c = some (raisedD c)) {n m : Nat} {b d : D} {h : MH} (hb : b.okN m = true) (hs : standsD b = false) :
    p.c (n + 8) 110 [.v b, .v d] h = .ok (.v (raisedD 0)) h := by
  refine O.eq_of (Pg.call_wp h110 rfl ?_)
  unfold f_law_told4 b_law_told4
  refine b_tryW (by show (2 : Nat) < 3; decide) ?_
  refine w_callX (w_cons (w_v rfl (w_cons (w_v rfl (w_nil ?_)))))
  refine Pg.call_wpX h108 rfl ?_
  unfold f_nets_under b_nets_under
  refine b_expr (w_callX (w_cons (w_v rfl (w_cons (w_v rfl (w_nil (O.wpX_exc (need_acts_ex0 L hb hs) ⟨rfl, ?_⟩)))))))
  exact ⟨raisedD 0, hw 0 (by simp), rfl, rfl, rfl⟩
end GV
set_option Elab.async false
set_option linter.all false
set_option maxRecDepth 100000
set_option maxHeartbeats 4000000
/-! GD1: sums of nets, gains. -/
namespace GV
open PySem L2
def b_are_counts : List S := [
  .ret (.call 2 [(.v 1), (.bi .len [(.ix (.v 0) (.int 1))]), (.int 0), (.bin .pow (.int 10) (.int 12))])]
def n_are_counts : List Str := ["board", "value"]
def f_are_counts : FD := ⟨2, 2, b_are_counts⟩
def b_net_sum : List S := [
  .asgO 3 (.bin .mul (.lst [(.int 0)]) (.v 2)),
  .for_ .zip [(.v 0), (.v 1)] (.t [(.n 4), (.n 5)]) [
    .for_ .rng [(.v 2)] (.n 6) [
      .augI 3 .add (.v 6) (.bin .mul (.ix (.v 4) (.v 6)) (.v 5))]],
  .retO 3]
def n_net_sum : List Str := ["some", "counts", "things", "found", "net", "count", "thing"]
def f_net_sum : FD := ⟨7, 3, b_net_sum⟩
def b_shows_gain : List S := [
  .ifs (.bi .any [(.comp .zip [(.v 1), (.v 2)] (.t [(.n 5), (.n 6)]) [5, 6] [] (.and (.cmp .gt (.v 6) (.int 0)) (.cmp .is_ (.v 5) .non)))]) [
    .ret (.bl false)] [],
  .asg (.n 3) (.comp .seq [(.v 1)] (.n 5) [5] [] (.ite (.cmp .is_ (.v 5) .non) (.bin .mul (.tup [(.int 0)]) (.v 0)) (.v 5))),
  .asg (.n 4) (.call 48 [(.v 3), (.v 2), (.v 0)]),
  .ret (.and (.cmp .ge (.bi .min [(.v 4)]) (.int 0)) (.cmp .gt (.bi .max [(.v 4)]) (.int 0)))]
def n_shows_gain : List Str := ["things", "some", "counts", "made", "whole", "net", "count"]
def f_shows_gain : FD := ⟨7, 3, b_shows_gain⟩
def b_is_gain : List S := [
  .expr (.call 13 [(.v 0)]),
  .ret (.and (.call 25 [(.v 0), (.v 1)]) (.call 53 [(.ix (.v 0) (.int 0)), (.call 15 [(.v 0)]), (.v 1)]))]
def n_is_gain : List Str := ["board", "value"]
def f_is_gain : FD := ⟨2, 2, b_is_gain⟩
def b_is_gain_under : List S := [
  .expr (.call 107 [(.v 0), (.v 1)]),
  .ret (.and (.call 25 [(.v 0), (.v 2)]) (.call 53 [(.ix (.v 0) (.int 0)), (.call 72 [(.v 0), (.v 1)]), (.v 2)]))]
def n_is_gain_under : List Str := ["board", "acts", "value"]
def f_is_gain_under : FD := ⟨3, 3, b_is_gain_under⟩
def b_law_same_truth : List S := [
  .ret (.and (.isi (.v 0) .bool) (.cmp .eq (.v 0) (.v 1)))]
def n_law_same_truth : List Str := ["got", "due"]
def f_law_same_truth : FD := ⟨2, 2, b_law_same_truth⟩
def b_law_sum : List S := [
  .ret (.comp .rng [(.v 0)] (.n 3) [3] [] (.bi .sum [(.comp .zip [(.v 1), (.v 2)] (.t [(.n 4), (.n 5)]) [4, 5] [] (.bin .mul (.ix (.v 4) (.v 3)) (.v 5)))]))]
def n_law_sum : List Str := ["things", "some", "counts", "thing", "net", "count"]
def f_law_sum : FD := ⟨6, 3, b_law_sum⟩
def b_law_shows : List S := [
  .asg (.n 3) (.call 58 [(.v 0), (.v 1), (.v 2)]),
  .ret (.and (.cmp .ge (.bi .min [(.v 3)]) (.int 0)) (.cmp .gt (.bi .max [(.v 3)]) (.int 0)))]
def n_law_shows : List Str := ["things", "some", "counts", "whole"]
def f_law_shows : FD := ⟨4, 3, b_law_shows⟩
abbrev Pr : Type := List Int × Int
def dotP (l : List Pr) (th : Nat) : Int := (l.map fun p => (p.1[th]?).getD 0 * p.2).sum
theorem dotP_snoc {l : List Pr} {q : Pr} {th : Nat} : dotP (l ++ [q]) th = dotP l th + (q.1[th]?).getD 0 * q.2 := by simp [dotP]
def sumL (k : Nat) (l : List Pr) : List Int := (List.range k).map (dotP l)
def prT (q : Pr) : D := .tup [tupI q.1, .int q.2]
structure NV (k : Nat) (x : List Int) : Prop where
  len : x.length = k
  b : ∀ y ∈ x, -5 ≤ y ∧ y ≤ 5
theorem zip_items {nets : List (List Int)} {counts : List Int} : ((nets.map tupI).zip (counts.map D.int)).map (fun p => D.tup [p.1, p.2]) = (nets.zip counts).map prT := by
  rw [List.zip_map, List.map_map]
  rfl
theorem net_sum_eq {p : Pg} (h48 : p.Pt 48 = some f_net_sum) {n k : Nat} {nets : List (List Int)} {counts : List Int} {h : MH} (hk : k ≤ 4) (hn : ∀ x ∈ nets, NV k x) : p.c (n + 1) 48 [.v (.lst (nets.map tupI)), .v (tupI counts), .v (.int (k : Int))] h = .ok (.nl ((sumL k (nets.zip counts)).map .int)) h := by
  refine O.eq_of (Pg.call_wp h48 rfl ?_)
  unfold f_net_sum b_net_sum
  refine b_asgO ?_
  (repeat' (first | refine w_v rfl ?_ | refine w_int ?_ | refine w_bl ?_ | refine w_non ?_ | refine w_str ?_ | refine w_cons ?_ | refine w_nil ?_ | refine w_bin ?_ | refine w_cmp ?_ | refine w_call ?_ | refine w_bi ?_ | refine w_isi ?_ | refine w_ix ?_ | refine w_and ?_ | refine w_or ?_ | refine w_not ?_ | refine w_chn ?_ | refine w_tup ?_ | refine w_lst ?_ | refine w_ite ?_ | refine w_neg ?_ | refine w_sl ?_ | refine sl_t ?_ | refine sl_n ?_ | refine sl_b ?_ | refine sl_l ?_ | refine w_rev ?_ | refine rv_t ?_ | refine rv_n ?_ | refine rv_l ?_ | refine rv_b ?_ | refine w_onone ?_ | refine w_osome ?_ | refine bw_add ?_ | refine bw_sub ?_ | refine cw_lt ?_ | refine cw_le ?_ | refine cw_gt ?_ | refine cw_ge ?_ | refine cw_eqI ?_ | refine cw_neI ?_ | refine bl_w ?_ | refine if_t ?_ | refine if_f ?_ | refine w_comp ?_ | refine fl_rt ?_ | refine fl_nx ?_ | refine And.intro (by assumption) ?_ | refine And.intro rfl ?_ | refine ⟨_, rfl, ?_⟩ | refine ⟨_, _, rfl, rfl, ?_⟩ | refine ⟨_, rfl, rfl, ?_⟩ | refine ⟨_, _, _, rfl, rfl, rfl, ?_⟩ | refine ⟨_, _, _, rfl, rfl, atD0, ?_⟩ | refine ⟨_, _, _, rfl, rfl, atD1, ?_⟩ | refine ⟨_, _, rfl, rfl, rfl, ?_⟩ | dsimp only))
  refine ⟨.nl ((sumL k []).map .int), ?_, ?_⟩
  · have c1 : decide ((0 : Int) ≤ (k : Int) ∧ (k : Int) ≤ 1000) = true := decide_eq_true ⟨by omega, by omega⟩
    simp only [binR, R.rd, c1, List.length_singleton, Bool.true_and]
    rw [rep_flat]
    have ez : (sumL k []).map D.int = List.replicate k (.int 0) := by
      unfold sumL
      rw [List.map_map]
      apply List.ext_getElem?
      intro m
      by_cases hm : m < k
      · simp [List.getElem?_range hm, hm, dotP]
      · simp [hm]
    rw [ez]
    simp
  (repeat' (first | refine w_v rfl ?_ | refine w_int ?_ | refine w_bl ?_ | refine w_non ?_ | refine w_str ?_ | refine w_cons ?_ | refine w_nil ?_ | refine w_bin ?_ | refine w_cmp ?_ | refine w_call ?_ | refine w_bi ?_ | refine w_isi ?_ | refine w_ix ?_ | refine w_and ?_ | refine w_or ?_ | refine w_not ?_ | refine w_chn ?_ | refine w_tup ?_ | refine w_lst ?_ | refine w_ite ?_ | refine w_neg ?_ | refine w_sl ?_ | refine sl_t ?_ | refine sl_n ?_ | refine sl_b ?_ | refine sl_l ?_ | refine w_rev ?_ | refine rv_t ?_ | refine rv_n ?_ | refine rv_l ?_ | refine rv_b ?_ | refine w_onone ?_ | refine w_osome ?_ | refine bw_add ?_ | refine bw_sub ?_ | refine cw_lt ?_ | refine cw_le ?_ | refine cw_gt ?_ | refine cw_ge ?_ | refine cw_eqI ?_ | refine cw_neI ?_ | refine bl_w ?_ | refine if_t ?_ | refine if_f ?_ | refine w_comp ?_ | refine fl_rt ?_ | refine fl_nx ?_ | refine And.intro (by assumption) ?_ | refine And.intro rfl ?_ | refine ⟨_, rfl, ?_⟩ | refine ⟨_, _, rfl, rfl, ?_⟩ | refine ⟨_, rfl, rfl, ?_⟩ | refine ⟨_, _, _, rfl, rfl, rfl, ?_⟩ | refine ⟨_, _, _, rfl, rfl, atD0, ?_⟩ | refine ⟨_, _, _, rfl, rfl, atD1, ?_⟩ | refine ⟨_, _, rfl, rfl, rfl, ?_⟩ | dsimp only))
  refine b_for (w_cons (w_v rfl (w_cons (w_v rfl (w_nil ⟨rfl, ?_⟩)))))
  unfold tupI
  refine it_zip rfl rfl ?_
  rw [show (nets.map fun ns => D.tup (ns.map .int)) = nets.map tupI from rfl, zip_items]
  refine for_inv (fun j ss h' => (∃ x4 x5 x6, ss = [some (.v (.lst (nets.map tupI))), some (.v (tupI counts)), some (.v (.int (k : Int))), some (.own ((sumL k ((nets.zip counts).take j)).map .int)), x4, x5, x6]) ∧ h' = h) ⟨⟨_, _, _, rfl⟩, rfl⟩ (fun j d hd ss h' J => ?_) fun ss h' J => ?_
  · obtain ⟨⟨x4, x5, x6, rfl⟩, rfl⟩ := J
    obtain ⟨q, hq, rfl⟩ : ∃ q, (nets.zip counts)[j]? = some q ∧ d = prT q := by
      rw [List.getElem?_map, Option.map_eq_some_iff] at hd
      obtain ⟨q, e1, e2⟩ := hd
      exact ⟨q, e1, e2.symm⟩
    have nq := hn q.1 (List.of_mem_zip (a := q.1) (b := q.2) (List.mem_of_getElem? hq)).1
    have et : (nets.zip counts).take (j + 1) = (nets.zip counts).take j ++ [q] := by rw [List.take_succ, hq]; rfl
    refine ⟨_, rfl, ?_⟩
    refine b_for (w_cons (w_v rfl (w_nil ⟨rfl, ?_⟩)))
    refine it_rng (by omega) (by omega) ?_
    refine for_inv (fun i ss h2 => (∃ x6, ss = [some (.v (.lst (nets.map tupI))), some (.v (tupI counts)), some (.v (.int (k : Int))), some (.own (((List.range k).map fun th => if th < i then dotP ((nets.zip counts).take (j + 1)) th else dotP ((nets.zip counts).take j) th).map .int)), some (.v (tupI q.1)), some (.v (.int q.2)), x6]) ∧ h2 = h') ⟨⟨x6, ?_⟩, rfl⟩ (fun i d hd ss h2 J => ?_) fun ss h2 J => ?_
    · simp [sumL]
      all_goals rfl
    · obtain ⟨⟨x6, rfl⟩, rfl⟩ := J
      have hi : i < k := by
        have := (List.getElem?_eq_some_iff.mp hd).1
        rw [rngD_len] at this
        omega
      have hdi : d = .int (i : Nat) := by
        simp only [rngD, List.getElem?_map, Option.map_eq_some_iff] at hd
        obtain ⟨m, hm, rfl⟩ := hd
        rw [List.getElem?_range (by omega)] at hm
        cases hm
        simp
      subst hdi
      have hqi : q.1[i]? = some (q.1[i]'(by rw [nq.len]; exact hi)) := List.getElem?_eq_getElem _
      have hqb := nq.b _ (List.mem_of_getElem? hqi)
      have at1 : atD (q.1.map D.int) (i : Nat) = some (.int (q.1[i]'(by rw [nq.len]; exact hi))) := atD_get (f := D.int) (Int.natCast_nonneg i) (by simpa using hqi)
      generalize hy : (q.1[i]'(by rw [nq.len]; exact hi)) = y at *
      generalize hcur : ((List.range k).map fun th => if th < i then dotP ((nets.zip counts).take (j + 1)) th else dotP ((nets.zip counts).take j) th) = cur
      have cl : cur.length = k := by rw [← hcur]; simp
      have cg : cur[i]? = some (dotP ((nets.zip counts).take j) i) := by rw [← hcur]; simp [List.getElem?_range, hi]
      have at2 : atD (cur.map D.int) (i : Nat) = some (.int (dotP ((nets.zip counts).take j) i)) := atD_get (f := D.int) (Int.natCast_nonneg i) (by simpa using cg)
      refine ⟨_, rfl, ?_⟩
      refine b_augI rfl (w_v rfl ⟨_, i, _, rfl, ixN_nat (by rw [List.length_map, cl]; exact hi), at2, ?_⟩)
      refine w_bin (w_ix (w_v rfl (w_v rfl ⟨_, _, _, rfl, rfl, at1, w_v rfl (bw_mul (mulOk_l (by omega) (by omega)) ⟨_, _, rfl, rfl, b_nil (fl_nx ⟨⟨some (.v (.int (i : Nat))), ?_⟩, rfl⟩)⟩)⟩)))
      have ec : cur.set i (dotP ((nets.zip counts).take j) i + y * q.2) = (List.range k).map fun th => if th < i + 1 then dotP ((nets.zip counts).take (j + 1)) th else dotP ((nets.zip counts).take j) th := by
        apply List.ext_getElem?
        intro m
        by_cases hm : i = m
        · subst hm
          rw [List.getElem?_set_self (by rw [cl]; exact hi)]
          simp only [List.getElem?_map, List.getElem?_range hi, Option.map_some, Nat.lt_succ_self, if_true, et, dotP_snoc, hqi]
          rfl
        · rw [List.getElem?_set_ne hm, ← hcur]
          simp only [List.getElem?_map]
          by_cases hmk : m < k
          · simp only [List.getElem?_range hmk, Option.map_some]
            by_cases h1 : m < i
            · rw [if_pos h1, if_pos (by omega)]
            · rw [if_neg h1, if_neg (by omega)]
          · simp [hmk]
      rw [← ec, List.map_set]
      rfl
    · obtain ⟨⟨x6, rfl⟩, rfl⟩ := J
      refine b_nil (fl_nx ⟨⟨some (.v (tupI q.1)), some (.v (.int q.2)), x6, ?_⟩, rfl⟩)
      have : ((List.range k).map fun th => if th < (rngD 0 (k : Int)).length then dotP ((nets.zip counts).take (j + 1)) th else dotP ((nets.zip counts).take j) th) = sumL k ((nets.zip counts).take (j + 1)) := by
        unfold sumL
        refine List.map_congr_left fun th hth => ?_
        rw [if_pos (by rw [rngD_len]; have := List.mem_range.mp hth; omega)]
      rw [this]
      all_goals rfl
  · obtain ⟨⟨x4, x5, x6, rfl⟩, rfl⟩ := J
    refine b_retO rfl ⟨rfl, ?_, rfl⟩
    rw [List.length_map, List.take_length]
/-! ### what shows a gain -/
def showsB (w : List Int) : Bool := w.all (fun x => decide (0 ≤ x)) && w.any (fun x => decide (0 < x))
theorem min_ge {x : Int} {r : List Int} : decide (0 ≤ r.foldl min x) = (x :: r).all (fun y => decide (0 ≤ y)) := by
  obtain ⟨h1, h2⟩ := foldl_min r x
  by_cases h : 0 ≤ r.foldl min x
  · rw [decide_eq_true h]
    symm
    rw [List.all_eq_true]
    intro y hy
    have := h2 y hy
    exact decide_eq_true (by omega)
  · rw [decide_eq_false h]
    symm
    rw [List.all_eq_false]
    exact ⟨_, h1, by simpa using h⟩
theorem max_gt {x : Int} {r : List Int} : decide (0 < r.foldl max x) = (x :: r).any (fun y => decide (0 < y)) := by
  obtain ⟨h1, h2⟩ := foldl_max r x
  by_cases h : 0 < r.foldl max x
  · rw [decide_eq_true h]
    symm
    rw [List.any_eq_true]
    exact ⟨_, h1, decide_eq_true h⟩
  · rw [decide_eq_false h]
    symm
    rw [List.any_eq_false]
    intro y hy
    have := h2 y hy
    simp
    omega
theorem shows_end {G : Cfg} {X : Nat → MH → Prop} {ss : SS} {h : MH} {Q : Fl → MH → Prop} {j : Nat} {w : List Int} (hw : w ≠ []) (e : readV ss j = some (.v (.lst (w.map .int)))) (q : Q (.rt (.v (.bl (showsB w)))) h) : xB G X [.ret (.and (.cmp .ge (.bi .min [(.v j)]) (.int 0)) (.cmp .gt (.bi .max [(.v j)]) (.int 0)))] ss h Q := by
  cases w with
  | nil => exact absurd rfl hw
  | cons x r =>
    refine b_ret (w_and (w_cmp (w_bi (w_cons (w_v e (w_nil ⟨.v (.int (r.foldl min x)), ?_, w_int (cw_ge ?_)⟩))))))
    · show (match (D.lst ((x :: r).map .int) : D) with | .lst xs => ((ints? xs).bind minL).map fun n => R.v (.int n) | _ => none) = _
      simp only [ints_map]
      rfl
    rw [min_ge]
    cases ha : (x :: r).all (fun y => decide (0 ≤ y)) with
    | false =>
      refine bl_w (if_f ⟨_, rfl, ?_⟩)
      have : showsB (x :: r) = false := by unfold showsB; rw [ha]; rfl
      rw [this] at q
      exact q
    | true =>
      refine bl_w (if_t (w_cmp (w_bi (w_cons (w_v e (w_nil ⟨.v (.int (r.foldl max x)), ?_, w_int (cw_gt ?_)⟩))))))
      · show (match (D.lst ((x :: r).map .int) : D) with | .lst xs => ((ints? xs).bind maxL).map fun n => R.v (.int n) | _ => none) = _
        simp only [ints_map]
        rfl
      rw [max_gt]
      refine ⟨_, rfl, ?_⟩
      have : showsB (x :: r) = (x :: r).any (fun y => decide (0 < y)) := by unfold showsB; rw [ha]; rfl
      rw [this] at q
      exact q
def optD : Option (List Int) → D
  | some x => tupI x
  | none => .non
def barP (us : List (Option (List Int))) (counts : List Int) : Bool := (us.zip counts).any fun p => decide (0 < p.2) && p.1.isNone
def madeL (k : Nat) (us : List (Option (List Int))) : List (List Int) := us.map fun o => o.getD (List.replicate k 0)
def gainB (k : Nat) (us : List (Option (List Int))) (counts : List Int) : Bool := !barP us counts && showsB (sumL k ((madeL k us).zip counts))
def barD2 : D → D
  | .tup [d, .int c] => .bl (decide (0 < c) && d.isNon)
  | _ => .non
theorem shows_gain_eq {p : Pg} (h48 : p.Pt 48 = some f_net_sum) (h53 : p.Pt 53 = some f_shows_gain) {n k : Nat} {us : List (Option (List Int))} {counts : List Int} {h : MH} (hk : k ≤ 4) (hk0 : 0 < k) (hu : ∀ o ∈ us, ∀ x, o = some x → NV k x) (hl : us.length ≤ 1000) :
    p.c (n + 2) 53 [.v (.int (k : Int)), .v (.lst (us.map optD)), .v (tupI counts)] h = .ok (.v (.bl (gainB k us counts))) h := by
  refine O.eq_of (Pg.call_wp h53 rfl ?_)
  unfold f_shows_gain b_shows_gain
  refine b_ifs (w_bi (w_cons (w_comp (w_cons (w_v rfl (w_cons (w_v rfl (w_nil ?_))))))))
  unfold tupI
  refine it_zip rfl rfl ?_
  rw [List.zip_map, List.map_map]
  refine c_pure barD2 (fun d hd => ?_) (by simp; omega) ?_
  · obtain ⟨⟨o, c⟩, hq, rfl⟩ := List.mem_map.mp hd
    refine ⟨_, rfl, ?_⟩
    refine w_and (w_cmp (w_v rfl (w_int (cw_gt ?_))))
    by_cases hc : 0 < c
    · rw [decide_eq_true hc]
      refine bl_w (if_t (w_cmp (w_v rfl (w_non ⟨_, rfl, ?_, rfl⟩))))
      cases o <;> simp [barD2, Prod.map, optD, D.isNon, hc, R.toD, tupI]
    · rw [decide_eq_false hc]
      refine bl_w (if_f ⟨?_, rfl⟩)
      simp [barD2, Prod.map, hc, R.toD]
  · have eb : bls? (((us.zip counts).map ((fun p : D × D => D.tup [p.1, p.2]) ∘ Prod.map optD D.int)).map barD2) = some ((us.zip counts).map fun p => decide (0 < p.2) && p.1.isNone) := by
      generalize us.zip counts = l
      induction l with
      | nil => rfl
      | cons q l ih =>
        simp only [List.map_cons, Function.comp_apply, Prod.map, barD2, bls?] at ih ⊢
        rw [ih]
        cases q.1 <;> rfl
    refine w_nil (bi_any eb ?_)
    have ef : ((us.zip counts).map fun p => decide (0 < p.2) && p.1.isNone).any id = barP us counts := by simp [barP, List.any_map, Function.comp_def]
    rw [ef]
    cases hb : barP us counts with
    | true => exact bl_w (if_t (b_ret (w_bl ⟨_, rfl, rfl, by simp [gainB, hb], rfl⟩)))
    | false =>
      refine bl_w (if_f (b_nil (fl_nx ?_)))
      refine b_asg (w_comp (w_cons (w_v rfl (w_nil ⟨_, rfl, ?_⟩))))
      refine c_pure (fun d => match d with | .non => tupI (List.replicate k 0) | d => d) (fun d hd => ?_) (by simp; omega) ?_
      · obtain ⟨o, ho, rfl⟩ := List.mem_map.mp hd
        refine ⟨_, rfl, ?_⟩
        cases o with
        | none =>
          refine w_ite (w_cmp (w_v rfl (w_non ⟨_, rfl, bl_w (if_t ?_)⟩)))
          (repeat' (first | refine w_v rfl ?_ | refine w_int ?_ | refine w_bl ?_ | refine w_non ?_ | refine w_str ?_ | refine w_cons ?_ | refine w_nil ?_ | refine w_bin ?_ | refine w_cmp ?_ | refine w_call ?_ | refine w_bi ?_ | refine w_isi ?_ | refine w_ix ?_ | refine w_and ?_ | refine w_or ?_ | refine w_not ?_ | refine w_chn ?_ | refine w_tup ?_ | refine w_lst ?_ | refine w_ite ?_ | refine w_neg ?_ | refine w_sl ?_ | refine sl_t ?_ | refine sl_n ?_ | refine sl_b ?_ | refine sl_l ?_ | refine w_rev ?_ | refine rv_t ?_ | refine rv_n ?_ | refine rv_l ?_ | refine rv_b ?_ | refine w_onone ?_ | refine w_osome ?_ | refine bw_add ?_ | refine bw_sub ?_ | refine cw_lt ?_ | refine cw_le ?_ | refine cw_gt ?_ | refine cw_ge ?_ | refine cw_eqI ?_ | refine cw_neI ?_ | refine bl_w ?_ | refine if_t ?_ | refine if_f ?_ | refine w_comp ?_ | refine fl_rt ?_ | refine fl_nx ?_ | refine And.intro (by assumption) ?_ | refine And.intro rfl ?_ | refine ⟨_, rfl, ?_⟩ | refine ⟨_, _, rfl, rfl, ?_⟩ | refine ⟨_, rfl, rfl, ?_⟩ | refine ⟨_, _, _, rfl, rfl, rfl, ?_⟩ | refine ⟨_, _, _, rfl, rfl, atD0, ?_⟩ | refine ⟨_, _, _, rfl, rfl, atD1, ?_⟩ | refine ⟨_, _, rfl, rfl, rfl, ?_⟩ | dsimp only))
          refine ⟨.v (tupI (List.replicate k 0)), ?_, rfl, rfl⟩
          have c1 : decide ((0 : Int) ≤ (k : Int) ∧ (k : Int) ≤ 1000) = true := decide_eq_true ⟨by omega, by omega⟩
          simp only [binR, c1, List.length_singleton, Bool.true_and]
          rw [rep_flat]
          simp [tupI, List.map_replicate]
        | some x => exact w_ite (w_cmp (w_v rfl (w_non ⟨_, rfl, bl_w (if_f (w_v rfl ⟨rfl, rfl⟩))⟩)))
      have em : ((us.map optD).map fun d => match d with | .non => tupI (List.replicate k 0) | d => d) = (madeL k us).map tupI := by
        unfold madeL
        rw [List.map_map, List.map_map]
        refine List.map_congr_left fun o _ => ?_
        cases o <;> rfl
      rw [em]
      refine ⟨_, _, rfl, rfl, ?_⟩
      have nm : ∀ x ∈ madeL k us, NV k x := fun x hx => by
        obtain ⟨o, ho, rfl⟩ := List.mem_map.mp hx
        cases o with
        | none => exact ⟨by simp, fun y hy => by have := List.eq_of_mem_replicate hy; omega⟩
        | some y => exact hu _ ho y rfl
      refine b_asg (w_call (w_cons (w_v rfl (w_cons (w_v rfl (w_cons (w_v rfl (w_nil (O.wp_eq (net_sum_eq (k := k) (counts := counts) h48 hk nm) ⟨_, _, rfl, rfl, ?_⟩)))))))))
      refine shows_end (w := sumL k ((madeL k us).zip counts)) (fun e => ?_) rfl ⟨rfl, by simp [gainB, hb], rfl⟩
      have := congrArg List.length e
      simp [sumL] at this
      omega
end GV
set_option Elab.async false
set_option linter.all false
set_option maxRecDepth 100000
set_option maxHeartbeats 4000000
/-! GD2: gains under acts. -/
namespace GV
open PySem L2
theorem e12 : ((10 : Int) ^ (12 : Int).toNat) = 1000000000000 := by decide
theorem are_counts_eq {p : Pg} (h1 : p.Pt 1 = some f_is_integer) (h2 : p.Pt 2 = some f_are_numbers) (h25 : p.Pt 25 = some f_are_counts) {n m : Nat} {t : Int} {es : List Ex} {d : D} {h : MH} (v : BV t es) (hd : d.okN m = true) : p.c (n + 3) 25 [.v (bD t es), .v d] h = .ok (.v (.bl (areNum es.length 0 1000000000000 d))) h := by
  have hle := v.len
  refine O.eq_of (Pg.call_wp h25 rfl ?_)
  unfold f_are_counts b_are_counts
  refine b_ret ?_
  (repeat' (first | refine w_v rfl ?_ | refine w_int ?_ | refine w_bl ?_ | refine w_non ?_ | refine w_str ?_ | refine w_cons ?_ | refine w_nil ?_ | refine w_bin ?_ | refine w_cmp ?_ | refine w_call ?_ | refine w_bi ?_ | refine w_isi ?_ | refine w_ix ?_ | refine w_and ?_ | refine w_or ?_ | refine w_not ?_ | refine w_chn ?_ | refine w_tup ?_ | refine w_lst ?_ | refine w_ite ?_ | refine w_neg ?_ | refine w_sl ?_ | refine sl_t ?_ | refine sl_n ?_ | refine sl_b ?_ | refine sl_l ?_ | refine w_rev ?_ | refine rv_t ?_ | refine rv_n ?_ | refine rv_l ?_ | refine rv_b ?_ | refine w_onone ?_ | refine w_osome ?_ | refine bw_add ?_ | refine bw_sub ?_ | refine cw_lt ?_ | refine cw_le ?_ | refine cw_gt ?_ | refine cw_ge ?_ | refine cw_eqI ?_ | refine cw_neI ?_ | refine bl_w ?_ | refine if_t ?_ | refine if_f ?_ | refine w_comp ?_ | refine fl_rt ?_ | refine fl_nx ?_ | refine And.intro (by assumption) ?_ | refine And.intro rfl ?_ | refine ⟨_, rfl, ?_⟩ | refine ⟨_, _, rfl, rfl, ?_⟩ | refine ⟨_, rfl, rfl, ?_⟩ | refine ⟨_, _, _, rfl, rfl, rfl, ?_⟩ | refine ⟨_, _, _, rfl, rfl, atD0, ?_⟩ | refine ⟨_, _, _, rfl, rfl, atD1, ?_⟩ | refine ⟨_, _, rfl, rfl, rfl, ?_⟩ | dsimp only))
  rw [e12, show ((es.map exD).length : Int) = (es.length : Int) by simp]
  refine O.wp_eq (are_numbers_eq h1 h2 hd (by omega)) ?_
  (repeat' (first | refine w_v rfl ?_ | refine w_int ?_ | refine w_bl ?_ | refine w_non ?_ | refine w_str ?_ | refine w_cons ?_ | refine w_nil ?_ | refine w_bin ?_ | refine w_cmp ?_ | refine w_call ?_ | refine w_bi ?_ | refine w_isi ?_ | refine w_ix ?_ | refine w_and ?_ | refine w_or ?_ | refine w_not ?_ | refine w_chn ?_ | refine w_tup ?_ | refine w_lst ?_ | refine w_ite ?_ | refine w_neg ?_ | refine w_sl ?_ | refine sl_t ?_ | refine sl_n ?_ | refine sl_b ?_ | refine sl_l ?_ | refine w_rev ?_ | refine rv_t ?_ | refine rv_n ?_ | refine rv_l ?_ | refine rv_b ?_ | refine w_onone ?_ | refine w_osome ?_ | refine bw_add ?_ | refine bw_sub ?_ | refine cw_lt ?_ | refine cw_le ?_ | refine cw_gt ?_ | refine cw_ge ?_ | refine cw_eqI ?_ | refine cw_neI ?_ | refine bl_w ?_ | refine if_t ?_ | refine if_f ?_ | refine w_comp ?_ | refine fl_rt ?_ | refine fl_nx ?_ | refine And.intro (by assumption) ?_ | refine And.intro rfl ?_ | refine ⟨_, rfl, ?_⟩ | refine ⟨_, _, rfl, rfl, ?_⟩ | refine ⟨_, rfl, rfl, ?_⟩ | refine ⟨_, _, _, rfl, rfl, rfl, ?_⟩ | refine ⟨_, _, _, rfl, rfl, atD0, ?_⟩ | refine ⟨_, _, _, rfl, rfl, atD1, ?_⟩ | refine ⟨_, _, rfl, rfl, rfl, ?_⟩ | dsimp only))
def usL (es : List Ex) (acts : List D) : List (Option (List Int)) := es.zipIdx.map fun p => if inB acts (barD (p.2 : Nat)) then none else some (netL (rowE acts p))
theorem us_opt {es : List Ex} {acts : List D} : underD es acts = (usL es acts).map optD := by
  unfold underD usL
  rw [List.map_map]
  refine List.map_congr_left fun p _ => ?_
  simp only [underE, Function.comp_apply]
  split <;> rfl
theorem nv_net {t : Int} {e : Ex} (ve : EV t e) : NV t.toNat (netL e) := by
  have l1 := ve.l1
  have l2 := ve.l2
  refine ⟨by rw [netL_len]; omega, fun y hy => ?_⟩
  obtain ⟨i, hi⟩ := List.mem_iff_getElem?.mp hy
  simp only [netL, List.getElem?_zipWith] at hi
  cases ea : e.1[i]? with
  | none => rw [ea] at hi; simp at hi
  | some a =>
    cases eb : e.2[i]? with
    | none => rw [ea, eb] at hi; simp at hi
    | some b =>
      rw [ea, eb] at hi
      have hy' : b - a = y := by simpa using hi
      have := ve.b1 a (List.mem_of_getElem? ea)
      have := ve.b2 b (List.mem_of_getElem? eb)
      omega
theorem us_nv {t : Int} {es : List Ex} {acts : List D} (v : BV t es) (ha : ∀ n th : Nat, 0 ≤ feeSum n th acts) : ∀ o ∈ usL es acts, ∀ x, o = some x → NV t.toNat x := fun o ho x hx => by
  obtain ⟨q, hq, rfl⟩ := List.mem_map.mp ho
  have vr := rows_BV (acts := acts) v ha
  cases hb : inB acts (barD (q.2 : Nat)) with
  | true => rw [hb] at hx; cases hx
  | false =>
    rw [hb] at hx
    simp only [Bool.false_eq_true, if_false, Option.some.injEq] at hx
    subst hx
    refine nv_net (vr.ex _ (List.mem_map.mpr ⟨q, List.mem_filter.mpr ⟨hq, by rw [hb]; rfl⟩, rfl⟩))
def cntD (n : Nat) (d : D) : Bool := areNum n 0 1000000000000 d
structure PGn (p : Pg) : Prop extends PUn p where
  h15 : p.Pt 15 = some f_all_nets
  h25 : p.Pt 25 = some f_are_counts
  h48 : p.Pt 48 = some f_net_sum
  h53 : p.Pt 53 = some f_shows_gain
  h54 : p.Pt 54 = some f_is_gain
  h111 : p.Pt 111 = some f_is_gain_under
theorem is_gain_under_eq {p : Pg} (L : PGn p) {n m : Nat} {t : Int} {es : List Ex} {acts : List D} {d : D} {h : MH} (v : BV t es) (hA : ∀ a ∈ acts, AV es a) (ho : actsB t es (.tup acts) = true) (hd : d.okN m = true) :
    p.c (n + 7) 111 [.v (bD t es), .v (.tup acts), .v d] h = .ok (.v (.bl (cntD es.length d && gainB t.toNat (usL es acts) (numsD d)))) h := by
  have t2 := v.t2
  have t4 := v.t4
  have hle := v.len
  obtain ⟨k, rfl⟩ := Int.eq_ofNat_of_zero_le (by omega : 0 ≤ t)
  refine O.eq_of (Pg.call_wp L.h111 rfl ?_)
  unfold f_is_gain_under b_is_gain_under
  refine b_expr (w_call (w_cons (w_v rfl (w_cons (w_v rfl (w_nil (O.wp_eq (need_acts_eq (m := 3) L.toPUn v ?_ ho) ?_)))))))
  · simp only [D.okN, List.all_eq_true]
    exact fun x hx => (hA x hx).actL.ok
  refine b_ret (w_and (w_call (w_cons (w_v rfl (w_cons (w_v rfl (w_nil (O.wp_eq (are_counts_eq L.h1 L.h2 L.h25 v hd) ?_))))))))
  cases hc : areNum es.length 0 1000000000000 d with
  | false => exact bl_w (if_f ⟨_, rfl, rfl, by simp [cntD, hc], rfl⟩)
  | true =>
    obtain ⟨counts, rfl, _⟩ := num_ints hc
    refine bl_w (if_t ?_)
    (repeat' (first | refine w_v rfl ?_ | refine w_int ?_ | refine w_bl ?_ | refine w_non ?_ | refine w_str ?_ | refine w_cons ?_ | refine w_nil ?_ | refine w_bin ?_ | refine w_cmp ?_ | refine w_call ?_ | refine w_bi ?_ | refine w_isi ?_ | refine w_ix ?_ | refine w_and ?_ | refine w_or ?_ | refine w_not ?_ | refine w_chn ?_ | refine w_tup ?_ | refine w_lst ?_ | refine w_ite ?_ | refine w_neg ?_ | refine w_sl ?_ | refine sl_t ?_ | refine sl_n ?_ | refine sl_b ?_ | refine sl_l ?_ | refine w_rev ?_ | refine rv_t ?_ | refine rv_n ?_ | refine rv_l ?_ | refine rv_b ?_ | refine w_onone ?_ | refine w_osome ?_ | refine bw_add ?_ | refine bw_sub ?_ | refine cw_lt ?_ | refine cw_le ?_ | refine cw_gt ?_ | refine cw_ge ?_ | refine cw_eqI ?_ | refine cw_neI ?_ | refine bl_w ?_ | refine if_t ?_ | refine if_f ?_ | refine w_comp ?_ | refine fl_rt ?_ | refine fl_nx ?_ | refine And.intro (by assumption) ?_ | refine And.intro rfl ?_ | refine ⟨_, rfl, ?_⟩ | refine ⟨_, _, rfl, rfl, ?_⟩ | refine ⟨_, rfl, rfl, ?_⟩ | refine ⟨_, _, _, rfl, rfl, rfl, ?_⟩ | refine ⟨_, _, _, rfl, rfl, atD0, ?_⟩ | refine ⟨_, _, _, rfl, rfl, atD1, ?_⟩ | refine ⟨_, _, rfl, rfl, rfl, ?_⟩ | dsimp only))
    refine O.wp_eq (under_eq L.h14 L.h72 v hA) ?_
    (repeat' (first | refine w_v rfl ?_ | refine w_int ?_ | refine w_bl ?_ | refine w_non ?_ | refine w_str ?_ | refine w_cons ?_ | refine w_nil ?_ | refine w_bin ?_ | refine w_cmp ?_ | refine w_call ?_ | refine w_bi ?_ | refine w_isi ?_ | refine w_ix ?_ | refine w_and ?_ | refine w_or ?_ | refine w_not ?_ | refine w_chn ?_ | refine w_tup ?_ | refine w_lst ?_ | refine w_ite ?_ | refine w_neg ?_ | refine w_sl ?_ | refine sl_t ?_ | refine sl_n ?_ | refine sl_b ?_ | refine sl_l ?_ | refine w_rev ?_ | refine rv_t ?_ | refine rv_n ?_ | refine rv_l ?_ | refine rv_b ?_ | refine w_onone ?_ | refine w_osome ?_ | refine bw_add ?_ | refine bw_sub ?_ | refine cw_lt ?_ | refine cw_le ?_ | refine cw_gt ?_ | refine cw_ge ?_ | refine cw_eqI ?_ | refine cw_neI ?_ | refine bl_w ?_ | refine if_t ?_ | refine if_f ?_ | refine w_comp ?_ | refine fl_rt ?_ | refine fl_nx ?_ | refine And.intro (by assumption) ?_ | refine And.intro rfl ?_ | refine ⟨_, rfl, ?_⟩ | refine ⟨_, _, rfl, rfl, ?_⟩ | refine ⟨_, rfl, rfl, ?_⟩ | refine ⟨_, _, _, rfl, rfl, rfl, ?_⟩ | refine ⟨_, _, _, rfl, rfl, atD0, ?_⟩ | refine ⟨_, _, _, rfl, rfl, atD1, ?_⟩ | refine ⟨_, _, rfl, rfl, rfl, ?_⟩ | dsimp only))
    rw [us_opt]
    refine O.wp_eq (shows_gain_eq (k := k) (counts := counts) L.h48 L.h53 (by omega) (by omega) (us_nv v fun n th => feeSum_nn hA n th) (by simp [usL]; omega)) ?_
    refine ⟨_, rfl, rfl, ?_, rfl⟩
    have e1 : numsD (.tup (counts.map .int)) = counts := numsD_tupI
    simp [cntD, hc, e1]
theorem is_gain_eq {p : Pg} (L : PGn p) {n m : Nat} {t : Int} {es : List Ex} {d : D} {h : MH} (v : BV t es) (hd : d.okN m = true) :
    p.c (n + 7) 54 [.v (bD t es), .v d] h = .ok (.v (.bl (cntD es.length d && gainB t.toNat (es.map fun e => some (netL e)) (numsD d)))) h := by
  have t2 := v.t2
  have t4 := v.t4
  have hle := v.len
  obtain ⟨k, rfl⟩ := Int.eq_ofNat_of_zero_le (by omega : 0 ≤ t)
  refine O.eq_of (Pg.call_wp L.h54 rfl ?_)
  unfold f_is_gain b_is_gain
  refine b_expr (w_call (w_cons (w_v rfl (w_nil (O.wp_eq (need_board2 L.toPAct v) ?_)))))
  refine b_ret (w_and (w_call (w_cons (w_v rfl (w_cons (w_v rfl (w_nil (O.wp_eq (are_counts_eq L.h1 L.h2 L.h25 v hd) ?_))))))))
  cases hc : areNum es.length 0 1000000000000 d with
  | false => exact bl_w (if_f ⟨_, rfl, rfl, by simp [cntD, hc], rfl⟩)
  | true =>
    obtain ⟨counts, rfl, _⟩ := num_ints hc
    refine bl_w (if_t ?_)
    (repeat' (first | refine w_v rfl ?_ | refine w_int ?_ | refine w_bl ?_ | refine w_non ?_ | refine w_str ?_ | refine w_cons ?_ | refine w_nil ?_ | refine w_bin ?_ | refine w_cmp ?_ | refine w_call ?_ | refine w_bi ?_ | refine w_isi ?_ | refine w_ix ?_ | refine w_and ?_ | refine w_or ?_ | refine w_not ?_ | refine w_chn ?_ | refine w_tup ?_ | refine w_lst ?_ | refine w_ite ?_ | refine w_neg ?_ | refine w_sl ?_ | refine sl_t ?_ | refine sl_n ?_ | refine sl_b ?_ | refine sl_l ?_ | refine w_rev ?_ | refine rv_t ?_ | refine rv_n ?_ | refine rv_l ?_ | refine rv_b ?_ | refine w_onone ?_ | refine w_osome ?_ | refine bw_add ?_ | refine bw_sub ?_ | refine cw_lt ?_ | refine cw_le ?_ | refine cw_gt ?_ | refine cw_ge ?_ | refine cw_eqI ?_ | refine cw_neI ?_ | refine bl_w ?_ | refine if_t ?_ | refine if_f ?_ | refine w_comp ?_ | refine fl_rt ?_ | refine fl_nx ?_ | refine And.intro (by assumption) ?_ | refine And.intro rfl ?_ | refine ⟨_, rfl, ?_⟩ | refine ⟨_, _, rfl, rfl, ?_⟩ | refine ⟨_, rfl, rfl, ?_⟩ | refine ⟨_, _, _, rfl, rfl, rfl, ?_⟩ | refine ⟨_, _, _, rfl, rfl, atD0, ?_⟩ | refine ⟨_, _, _, rfl, rfl, atD1, ?_⟩ | refine ⟨_, _, rfl, rfl, rfl, ?_⟩ | dsimp only))
    refine O.wp_eq (all_nets_eq L.h14 L.h15 (by omega) fun e he => by have := (v.ex e he).l1; omega) ?_
    (repeat' (first | refine w_v rfl ?_ | refine w_int ?_ | refine w_bl ?_ | refine w_non ?_ | refine w_str ?_ | refine w_cons ?_ | refine w_nil ?_ | refine w_bin ?_ | refine w_cmp ?_ | refine w_call ?_ | refine w_bi ?_ | refine w_isi ?_ | refine w_ix ?_ | refine w_and ?_ | refine w_or ?_ | refine w_not ?_ | refine w_chn ?_ | refine w_tup ?_ | refine w_lst ?_ | refine w_ite ?_ | refine w_neg ?_ | refine w_sl ?_ | refine sl_t ?_ | refine sl_n ?_ | refine sl_b ?_ | refine sl_l ?_ | refine w_rev ?_ | refine rv_t ?_ | refine rv_n ?_ | refine rv_l ?_ | refine rv_b ?_ | refine w_onone ?_ | refine w_osome ?_ | refine bw_add ?_ | refine bw_sub ?_ | refine cw_lt ?_ | refine cw_le ?_ | refine cw_gt ?_ | refine cw_ge ?_ | refine cw_eqI ?_ | refine cw_neI ?_ | refine bl_w ?_ | refine if_t ?_ | refine if_f ?_ | refine w_comp ?_ | refine fl_rt ?_ | refine fl_nx ?_ | refine And.intro (by assumption) ?_ | refine And.intro rfl ?_ | refine ⟨_, rfl, ?_⟩ | refine ⟨_, _, rfl, rfl, ?_⟩ | refine ⟨_, rfl, rfl, ?_⟩ | refine ⟨_, _, _, rfl, rfl, rfl, ?_⟩ | refine ⟨_, _, _, rfl, rfl, atD0, ?_⟩ | refine ⟨_, _, _, rfl, rfl, atD1, ?_⟩ | refine ⟨_, _, rfl, rfl, rfl, ?_⟩ | dsimp only))
    rw [show es.map netD = (es.map fun e => some (netL e)).map optD by rw [List.map_map]; rfl]
    refine O.wp_eq (shows_gain_eq (k := k) (counts := counts) L.h48 L.h53 (by omega) (by omega) (fun o ho x hx => ?_) (by simp; omega)) ?_
    · obtain ⟨e, he, rfl⟩ := List.mem_map.mp ho
      cases hx
      exact nv_net (v.ex e he)
    refine ⟨_, rfl, rfl, ?_, rfl⟩
    have e1 : numsD (.tup (counts.map .int)) = counts := numsD_tupI
    simp [cntD, hc, e1]
theorem same_truth_eq {p : Pg} (h27 : p.Pt 27 = some f_law_same_truth) {n : Nat} {a b : Bool} {h : MH} : p.c (n + 1) 27 [.v (.bl a), .v (.bl b)] h = .ok (.v (.bl (a == b))) h := by
  refine O.eq_of (Pg.call_wp h27 rfl ?_)
  unfold f_law_same_truth b_law_same_truth
  cases a <;> cases b <;> (repeat' (first | refine w_v rfl ?_ | refine w_int ?_ | refine w_bl ?_ | refine w_non ?_ | refine w_str ?_ | refine w_cons ?_ | refine w_nil ?_ | refine w_bin ?_ | refine w_cmp ?_ | refine w_call ?_ | refine w_bi ?_ | refine w_isi ?_ | refine w_ix ?_ | refine w_and ?_ | refine w_or ?_ | refine w_not ?_ | refine w_chn ?_ | refine w_tup ?_ | refine w_lst ?_ | refine w_ite ?_ | refine w_neg ?_ | refine w_sl ?_ | refine sl_t ?_ | refine sl_n ?_ | refine sl_b ?_ | refine sl_l ?_ | refine w_rev ?_ | refine rv_t ?_ | refine rv_n ?_ | refine rv_l ?_ | refine rv_b ?_ | refine w_onone ?_ | refine w_osome ?_ | refine b_asg ?_ | refine b_ret ?_ | refine b_retN ?_ | refine b_expr ?_ | refine b_pass ?_ | refine b_ifs ?_ | refine b_for ?_ | refine b_asgO ?_ | refine b_asgR ?_ | refine bw_add ?_ | refine bw_sub ?_ | refine cw_lt ?_ | refine cw_le ?_ | refine cw_gt ?_ | refine cw_ge ?_ | refine cw_eqI ?_ | refine cw_neI ?_ | refine bl_w ?_ | refine if_t ?_ | refine if_f ?_ | refine w_comp ?_ | refine b_nil ?_ | refine b_par ?_ | refine b_par2 ?_ | refine b_appO rfl ?_ | refine b_extO rfl ?_ | refine fl_rt ?_ | refine fl_nx ?_ | refine And.intro (by assumption) ?_ | refine And.intro rfl ?_ | refine ⟨_, rfl, ?_⟩ | refine ⟨_, _, rfl, rfl, ?_⟩ | refine ⟨_, rfl, rfl, ?_⟩ | refine ⟨_, _, _, rfl, rfl, rfl, ?_⟩ | refine ⟨_, _, _, rfl, rfl, atD0, ?_⟩ | refine ⟨_, _, _, rfl, rfl, atD1, ?_⟩ | refine ⟨_, _, rfl, rfl, rfl, ?_⟩ | refine for_cons rfl ?_ | refine for_nil ?_ | dsimp only))
/-! ### the law's own sums -/
def mulT (th : Nat) : D → D
  | .tup [.tup xs, .int c] => .int ((((ints? xs).getD [])[th]?).getD 0 * c)
  | _ => .non
theorem mulT_pr {th : Nat} {q : Pr} : mulT th (prT q) = .int ((q.1[th]?).getD 0 * q.2) := by simp [mulT, prT, tupI, ints_map]
theorem law_shows_eq {p : Pg} (h58 : p.Pt 58 = some f_law_sum) (h59 : p.Pt 59 = some f_law_shows) {n k : Nat} {nets : List (List Int)} {counts : List Int} {h : MH} (hk : k ≤ 4) (hk0 : 0 < k) (hn : ∀ x ∈ nets, NV k x) (hl : nets.length ≤ 1000) :
    p.c (n + 2) 59 [.v (.int (k : Int)), .v (.lst (nets.map tupI)), .v (.lst (counts.map .int))] h = .ok (.v (.bl (showsB (sumL k (nets.zip counts))))) h := by
  have hs : ∀ h : MH, p.c (n + 1) 58 [.v (.int (k : Int)), .v (.lst (nets.map tupI)), .v (.lst (counts.map .int))] h = .ok (.nl ((sumL k (nets.zip counts)).map .int)) h := fun h => by
    refine O.eq_of (Pg.call_wp h58 rfl ?_)
    unfold f_law_sum b_law_sum
    refine b_ret (w_comp (w_cons (w_v rfl (w_nil ?_))))
    refine it_rng (by omega) (by omega) ?_
    refine c_pure (fun d => match d with | .int th => .int (dotP (nets.zip counts) th.toNat) | _ => .non) (fun d hd => ?_) (by rw [rngD_len]; omega) ?_
    · obtain ⟨th, rfl, th0, th1⟩ := rngD_mem hd
      refine ⟨_, rfl, ?_⟩
      refine w_bi (w_cons (w_comp (w_cons (w_v rfl (w_cons (w_v rfl (w_nil ?_)))))))
      refine it_zip rfl rfl ?_
      rw [zip_items]
      refine c_pure (mulT th.toNat) (fun d hd => ?_) (by simp; omega) ?_
      · obtain ⟨q, hq, rfl⟩ := List.mem_map.mp hd
        have nq := hn q.1 (List.of_mem_zip (a := q.1) (b := q.2) hq).1
        have hl2 : th.toNat < q.1.length := by rw [nq.len]; omega
        have e1 : q.1[th.toNat]? = some q.1[th.toNat] := List.getElem?_eq_getElem hl2
        have b1 := nq.b _ (List.mem_of_getElem? e1)
        have a1 := atD_get (f := D.int) th0 e1
        refine ⟨_, rfl, ?_⟩
        refine w_bin (w_ix (w_v rfl (w_v rfl ⟨_, _, _, rfl, rfl, a1, w_v rfl (bw_mul (mulOk_l (by omega) (by omega)) ⟨?_, rfl⟩)⟩)))
        rw [mulT_pr, e1]
        rfl
      · refine w_nil ⟨.v (.int (dotP (nets.zip counts) th.toNat)), ?_, rfl, rfl⟩
        have : ints? (((nets.zip counts).map prT).map (mulT th.toNat)) = some ((nets.zip counts).map fun q => (q.1[th.toNat]?).getD 0 * q.2) := by
          generalize nets.zip counts = l
          induction l with
          | nil => rfl
          | cons q l ih =>
            simp only [List.map_cons, mulT_pr, ints?] at ih ⊢
            rw [ih]
            rfl
        simp only [biR, R.rd, D.seq, Option.bind_some, this, Option.map_some, dotP]
    · refine ⟨_, rfl, rfl, ?_, rfl⟩
      congr 1
      unfold sumL rngD
      rw [List.map_map, List.map_map]
      have : ((k : Int) - 0).toNat = k := by omega
      rw [this]
      refine List.map_congr_left fun i _ => ?_
      simp
  refine O.eq_of (Pg.call_wp h59 rfl ?_)
  unfold f_law_shows b_law_shows
  refine b_asg (w_call (w_cons (w_v rfl (w_cons (w_v rfl (w_cons (w_v rfl (w_nil (O.wp_eq (hs h) ⟨_, _, rfl, rfl, ?_⟩)))))))))
  refine shows_end (w := sumL k (nets.zip counts)) (fun e => ?_) rfl ⟨rfl, rfl, rfl⟩
  have := congrArg List.length e
  simp [sumL] at this
  omega
end GV
set_option Elab.async false
set_option linter.all false
set_option maxRecDepth 100000
set_option maxHeartbeats 4000000
/-! GD3: gains under acts, in plain words. -/
namespace GV
open PySem L2
def cAt (counts : List Int) (p : Ex × Nat) : Int := (counts[p.2]?).getD 0
theorem counts_eq {es : List Ex} {counts : List Int} (h : counts.length = es.length) : counts = es.zipIdx.map (cAt counts) := by
  apply List.ext_getElem?
  intro i
  simp only [List.getElem?_map, List.getElem?_zipIdx]
  by_cases hi : i < es.length
  · rw [List.getElem?_eq_getElem (by omega : i < counts.length), List.getElem?_eq_getElem hi]
    simp [cAt, List.getElem?_eq_getElem (by omega : i < counts.length)]
  · rw [List.getElem?_eq_none (by omega), List.getElem?_eq_none (by omega)]
    rfl
def usF (acts : List D) (p : Ex × Nat) : Option (List Int) := if inB acts (barD (p.2 : Nat)) then none else some (netL (rowE acts p))
theorem usL_eq {es : List Ex} {acts : List D} : usL es acts = es.zipIdx.map (usF acts) := rfl
theorem made_zip {k : Nat} {es : List Ex} {acts : List D} {counts : List Int} (h : counts.length = es.length) : (madeL k (usL es acts)).zip counts = es.zipIdx.map fun p => ((usF acts p).getD (List.replicate k 0), cAt counts p) := by
  rw [usL_eq]
  unfold madeL
  rw [List.map_map]
  conv => lhs; rw [counts_eq h]
  rw [List.zip_map']
  rfl
theorem nets_zip {es : List Ex} {counts : List Int} (h : counts.length = es.length) {k : Nat} : (madeL k (es.map fun e => some (netL e))).zip counts = es.zipIdx.map fun p => (netL p.1, cAt counts p) := by
  have e1 : madeL k (es.map fun e => some (netL e)) = es.zipIdx.map fun p => netL p.1 := by
    unfold madeL
    rw [List.map_map]
    apply List.ext_getElem?
    intro i
    simp only [List.getElem?_map, List.getElem?_zipIdx]
    cases es[i]? <;> rfl
  rw [e1]
  conv => lhs; rw [counts_eq h]
  rw [List.zip_map']
theorem dotP_map {α : Type} {l : List α} {G : α → Pr} {th : Nat} : dotP (l.map G) th = (l.map fun p => ((G p).1[th]?).getD 0 * (G p).2).sum := by
  unfold dotP
  rw [List.map_map]
  rfl
theorem sum_filter {α : Type} {P : α → Bool} {F : α → Int} : ∀ {l : List α}, (∀ p ∈ l, P p = false → F p = 0) → (l.map F).sum = ((l.filter P).map F).sum
  | [], _ => rfl
  | a :: l, h => by
    have ih := sum_filter (P := P) (F := F) (l := l) fun p hp => h p (by simp [hp])
    cases hP : P a with
    | true => simp [List.filter_cons, hP, ih]
    | false =>
      have := h a (by simp) hP
      simp [List.filter_cons, hP, ih, this]
theorem due_sum {k : Nat} {es : List Ex} {acts : List D} {counts : List Int} (h : counts.length = es.length) :
    sumL k ((madeL k (usL es acts)).zip counts) = sumL k (((keepL acts es.zipIdx).map fun p => netL (rowE acts p)).zip ((keepL acts es.zipIdx).map (cAt counts))) := by
  unfold sumL
  refine List.map_congr_left fun th hth => ?_
  rw [made_zip h, List.zip_map', dotP_map, dotP_map]
  unfold keepL
  rw [sum_filter (P := fun p => !inB acts (barD (p.2 : Nat))) fun p _ hp => ?_]
  · congr 1
    refine List.map_congr_left fun p hp => ?_
    have : inB acts (barD (p.2 : Nat)) = false := by simpa using (List.mem_filter.mp hp).2
    simp [usF, this]
  · have : inB acts (barD (p.2 : Nat)) = true := by simpa using hp
    have hth' := List.mem_range.mp hth
    simp [usF, this, hth']
theorem barP_eq {es : List Ex} {acts : List D} {counts : List Int} (h : counts.length = es.length) : barP (usL es acts) counts = es.zipIdx.any fun p => decide (0 < cAt counts p) && inB acts (barD (p.2 : Nat)) := by
  unfold barP
  rw [usL_eq]
  conv => lhs; rw [counts_eq h]
  rw [List.zip_map', List.any_map]
  congr 1
  funext p
  simp only [Function.comp_apply, usF]
  cases inB acts (barD (p.2 : Nat)) <;> simp
theorem barP_none {es : List Ex} {counts : List Int} : barP (es.map fun e => some (netL e)) counts = false := by
  unfold barP
  rw [List.any_eq_false]
  intro p hp
  have := (List.of_mem_zip (a := p.1) (b := p.2) hp).1
  obtain ⟨e, _, he⟩ := List.mem_map.mp this
  rw [← he]
  simp
theorem shows_mono {k : Nat} {f g : Nat → Int} (h : ∀ i, i < k → f i ≤ g i) (hs : showsB ((List.range k).map f) = true) : showsB ((List.range k).map g) = true := by
  unfold showsB at hs ⊢
  simp only [Bool.and_eq_true, List.all_eq_true, List.any_eq_true, List.mem_map, List.mem_range, decide_eq_true_eq] at hs ⊢
  obtain ⟨h1, x, ⟨i, hi, rfl⟩, hx⟩ := hs
  refine ⟨fun y hy => ?_, g i, ⟨i, hi, rfl⟩, ?_⟩
  · obtain ⟨j, hj, rfl⟩ := hy
    have := h1 _ ⟨j, hj, rfl⟩
    have := h j hj
    omega
  · have := h i hi
    omega
theorem sum_le {α : Type} {F G : α → Int} : ∀ {l : List α}, (∀ p ∈ l, F p ≤ G p) → (l.map F).sum ≤ (l.map G).sum
  | [], _ => Int.le_refl _
  | a :: l, h => by
    have ih := sum_le (F := F) (G := G) (l := l) fun p hp => h p (by simp [hp])
    have := h a (by simp)
    simp only [List.map_cons, List.sum_cons]
    omega
/-- a gain under acts is a gain of the board -/
theorem gain_mono {t : Int} {es : List Ex} {acts : List D} {counts : List Int} (v : BV t es) (ha : ∀ n th : Nat, 0 ≤ feeSum n th acts) (h : counts.length = es.length) (hc : ∀ c ∈ counts, 0 ≤ c) (hg : gainB t.toNat (usL es acts) counts = true) : gainB t.toNat (es.map fun e => some (netL e)) counts = true := by
  unfold gainB at hg ⊢
  simp only [Bool.and_eq_true, Bool.not_eq_true'] at hg ⊢
  refine ⟨barP_none, ?_⟩
  unfold sumL at hg ⊢
  rw [made_zip h] at hg
  rw [nets_zip h]
  refine shows_mono (fun th hth => ?_) hg.2
  rw [dotP_map, dotP_map]
  refine sum_le fun p hp => ?_
  have hget := List.mem_zipIdx_iff_getElem?.mp (show (p.1, p.2) ∈ es.zipIdx from hp)
  have ve := v.ex p.1 (List.mem_of_getElem? hget)
  have l1 := ve.l1
  have l2 := ve.l2
  have hpl := (List.getElem?_eq_some_iff.mp hget).1
  have cc : 0 ≤ cAt counts p := by
    unfold cAt
    rw [List.getElem?_eq_getElem (by omega : p.2 < counts.length)]
    exact hc _ (List.getElem_mem _)
  cases hb : inB acts (barD (p.2 : Nat)) with
  | true =>
    have hbar := hg.1
    rw [barP_eq h, List.any_eq_false] at hbar
    have := hbar p hp
    simp only [hb, Bool.and_true, decide_eq_true_eq] at this
    have c0 : cAt counts p = 0 := by omega
    simp [c0]
  | false =>
    simp only [usF, hb, Bool.false_eq_true, if_false, Option.getD_some]
    refine Int.mul_le_mul_of_nonneg_right ?_ cc
    have h1 : th < p.1.1.length := by omega
    have h2 : th < p.1.2.length := by omega
    have e1 : p.1.1[th]? = some p.1.1[th] := List.getElem?_eq_getElem h1
    have e2 : p.1.2[th]? = some p.1.2[th] := List.getElem?_eq_getElem h2
    have b2 := ve.b2 _ (List.getElem_mem h2)
    have f0 := ha p.2 th
    simp only [netL, rowE, List.getElem?_zipWith, e1, e2, gvL_get, Option.map_some, Option.getD_some, mx]
    split <;> omega
theorem us_nil {t : Int} {es : List Ex} (v : BV t es) : usL es [] = es.map fun e => some (netL e) := by
  rw [usL_eq]
  apply List.ext_getElem?
  intro i
  simp only [List.getElem?_map, List.getElem?_zipIdx]
  cases e : es[i]? with
  | none => rfl
  | some x =>
    have ve := v.ex x (List.mem_of_getElem? e)
    simp only [Option.map_some, usF, inB, List.any_nil, Bool.false_eq_true, if_false, rowE]
    rw [gvL_nil fun g hg => (ve.b2 g hg).1]
/-- nothing is shown by no counts -/
theorem shows_zero {k : Nat} {l : List Pr} (h : ∀ q ∈ l, q.2 = 0) : showsB (sumL k l) = false := by
  unfold showsB
  rw [Bool.and_eq_false_iff]
  refine .inr ?_
  rw [List.any_eq_false]
  intro x hx
  obtain ⟨th, _, rfl⟩ := List.mem_map.mp hx
  have : dotP l th = 0 := by
    unfold dotP
    have : (l.map fun p => (p.1[th]?).getD 0 * p.2) = l.map fun _ => 0 := List.map_congr_left fun p hp => by rw [h p hp]; simp
    rw [this]
    have z : ∀ l : List Pr, (l.map fun _ => (0 : Int)).sum = 0 := fun l => by induction l with
      | nil => rfl
      | cons a l ih => simp [ih]
    exact z l
  simp [this]
/-- the numbers of the exchanges that stay -/
theorem kept_in {es : List Ex} {acts : List D} {n : Nat} (hn : n < es.length) : inB ((keepL acts es.zipIdx).map fun p => D.int (p.2 : Nat)) (.int (n : Nat)) = !inB acts (barD (n : Nat)) := by
  cases hb : inB acts (barD (n : Nat)) with
  | false =>
    show inB _ _ = true
    unfold inB
    rw [List.any_eq_true]
    refine ⟨.int (n : Nat), List.mem_map.mpr ⟨(es[n], n), List.mem_filter.mpr ⟨List.mem_zipIdx_iff_getElem?.mpr (by simp [hn]), by rw [hb]; rfl⟩, rfl⟩, ?_⟩
    simp [D.eqb]
  | true =>
    show inB _ _ = false
    unfold inB
    rw [List.any_eq_false]
    intro z hz
    obtain ⟨p, hp, rfl⟩ := List.mem_map.mp hz
    have hp2 : inB acts (barD (p.2 : Nat)) = false := by simpa using (List.mem_filter.mp hp).2
    have ne : p.2 ≠ n := fun e => by rw [e, hb] at hp2; cases hp2
    simp [D.eqb]
    omega
end GV
set_option Elab.async false
set_option linter.all false
set_option maxRecDepth 100000
set_option maxHeartbeats 0
namespace K23
open PySem L2 GV
def b_law : List S := [
  .asgR 1 (.lst []),
  .asg (.t [(.n 2), (.n 3)]) (.call 63 [(.v 0), (.v 1), (.int 3)]),
  .asg (.n 4) (.call 81 [(.v 0), (.v 1), (.v 2), (.int 3)]),
  .asg (.t [(.n 5), (.n 6)]) (.call 109 [(.v 2), (.v 4)]),
  .asg (.n 7) (.bi .len [(.ix (.v 2) (.int 1))]),
  .for_ .rng [(.int 8)] (.n 8) [
    .asg (.n 9) (.bi .tuple [(.comp .rng [(.v 7)] (.n 14) [14] [] (.call 8 [(.v 0), (.v 1), (.call 9 [(.v 0), (.v 1), (.tup [(.int 2), (.int 4), (.int 30)])])]))]),
    .asg (.n 10) (.comp .rng [(.v 7)] (.n 14) [14] [(.and (.cmp .gt (.ix (.v 9) (.v 14)) (.int 0)) (.cmp .notin (.v 14) (.v 6)))] (.v 14)),
    .asg (.n 11) (.comp .seq [(.v 6)] (.n 14) [14] [] (.ix (.v 9) (.v 14))),
    .asg (.n 12) (.and (.cmp .eq (.v 10) (.lst [])) (.call 59 [(.ix (.v 2) (.int 0)), (.call 17 [(.v 5)]), (.v 11)])),
    .ifs (.not (.call 27 [(.call 111 [(.v 2), (.v 4), (.v 9)]), (.v 12)])) [
      .ret (.bl false)] [],
    .ifs (.or (.cmp .ne (.call 111 [(.v 2), (.tup []), (.v 9)]) (.call 54 [(.v 2), (.v 9)])) (.and (.v 12) (.not (.call 54 [(.v 2), (.v 9)])))) [
      .ret (.bl false)] []],
  .asg (.n 13) (.lst [.non, (.bin .mul (.tup [(.int 0)]) (.v 7)), (.bin .mul (.tup [(.int 1)]) (.bin .add (.v 7) (.int 1))), (.bin .mul (.lst [(.int 1)]) (.v 7)), (.int 5), (.bin .mul (.tup [(.bl true)]) (.v 7))]),
  .ret (.not (.bi .any [(.comp .seq [(.v 13)] (.n 15) [15] [] (.call 111 [(.v 2), (.v 4), (.v 15)]))]))]
def n_law : List Str := ["script", "state", "board", "offers", "acts", "other", "kept", "count", "again", "counts", "barred", "some", "due", "bad", "number", "one"]
def f_law : FD := ⟨16, 1, b_law⟩
def fds : List (Nat × FD) := [(1, f_is_integer), (70, f_rises), (2, f_are_numbers), (3, f_is_exchange), (4, f_stands), (13, f_need_board), (14, f_net_of), (15, f_all_nets), (25, f_are_counts), (48, f_net_sum), (53, f_shows_gain), (54, f_is_gain), (71, f_is_act), (105, f_acts_stand), (107, f_need_acts), (72, f_under), (111, f_is_gain_under), (27, f_law_same_truth), (6, f_law_cell_at), (7, f_law_mixed), (8, f_law_draw), (9, f_law_pick), (17, f_law_nets), (58, f_law_sum), (59, f_law_shows), (61, f_law_some_of), (62, f_law_all_acts), (81, f_law_some_acts), (109, f_law_under), (10, f_law_some_numbers), (11, f_law_some_exchange), (12, f_law_some_board), (63, f_law_some_case), (0, f_law)]
def cst : List (Str × D) := []
def xsl : List (Nat × Str) := [(0, "InvalidBoard"), (6, "InvalidActs")]
def wh (c : Nat) : Option D := if false && (xsl.lookup c).isSome then some (.tup [.str "raised", .int (c : Nat)]) else none
def srt : List D → Option (List D) := fun _ => none
def wf : Nat := 1000
def lev : Nat := 9
def pg : Pg := ⟨fun f => fds.lookup f, fun c => (cst[c]?).map (·.2), srt, wf, wh⟩
theorem L : PLaw pg := ⟨⟨rfl, rfl, rfl⟩, rfl, rfl, rfl, rfl⟩
theorem LG : PGn pg := ⟨⟨⟨rfl, rfl, rfl, rfl, rfl, rfl, rfl⟩, rfl, rfl, rfl, rfl⟩, rfl, rfl, rfl, rfl, rfl, rfl⟩
theorem actsB_of {t : Int} {es : List Ex} {xs : List D} (h1 : xs.length ≤ 10) (h2 : ∀ x ∈ xs, actB t es x = true) (h3 : risD xs = true) : actsB t es (.tup xs) = true := by
  have a : xs.all (actB t es) = true := List.all_eq_true.mpr h2
  simp [actsB, h1, a, h3]
theorem any_false {f : D → Bool} {l : List D} (h : ∀ d ∈ l, f d = false) : (l.map f).any id = false := by
  rw [List.any_eq_false]
  intro b hb
  obtain ⟨d, hd, rfl⟩ := List.mem_map.mp hb
  simp [h d hd]
def fBar (counts : List Int) (kept : List D) : D → Bool
  | .int n => decide (0 < (counts[n.toNat]?).getD 0) && !inB kept (.int n)
  | _ => false
theorem bar_empty {es : List Ex} {acts : List D} {counts : List Int} (h : counts.length = es.length) :
    ((rngD 0 (es.length : Int)).filter (fBar counts ((keepL acts es.zipIdx).map fun p => .int (p.2 : Nat)))).isEmpty = !barP (usL es acts) counts := by
  rw [barP_eq h]
  rw [Bool.eq_iff_iff]
  rw [List.isEmpty_iff, List.filter_eq_nil_iff, Bool.not_eq_true', List.any_eq_false]
  constructor
  · intro hh p hp
    have hget := List.mem_zipIdx_iff_getElem?.mp (show (p.1, p.2) ∈ es.zipIdx from hp)
    have hpl := (List.getElem?_eq_some_iff.mp hget).1
    have hm : D.int (p.2 : Nat) ∈ rngD 0 (es.length : Int) := by
      simp only [rngD, List.mem_map, List.mem_range]
      exact ⟨p.2, by omega, by simp⟩
    have := hh _ hm
    simp only [fBar, Int.toNat_natCast, kept_in hpl, Bool.not_not] at this
    exact this
  · intro hh d hd
    obtain ⟨i, rfl, i0, i1⟩ := rngD_mem hd
    obtain ⟨n, rfl⟩ := Int.eq_ofNat_of_zero_le i0
    have hn : n < es.length := by omega
    have := hh (es[n], n) (List.mem_zipIdx_iff_getElem?.mpr (by simp [hn]))
    simp only [fBar, Int.toNat_natCast]
    rw [show inB ((keepL acts es.zipIdx).map fun p => D.int (p.2 : Nat)) (.int ((n : Nat) : Int)) = !inB acts (barD (n : Nat)) from kept_in hn, Bool.not_not]
    exact this
theorem main (ns : List Int) (hl : ns.length ≤ 63) : ∃ h', evCall (fun f => fds.lookup f) (fun c => (cst[c]?).map (·.2)) srt wf wh (lev + 1) 0 [.v (.lst (ns.map D.int))] [] = .ok (.v (.bl true)) h' := by
  have z : (pg.c (9 + 1) 0 [.v (scD ns)] []).wp fun r _ => r = .v (.bl true) := by
    refine Pg.call_wpL (d := f_law) rfl rfl ?_
    unfold f_law b_law
    refine b_asgR (w_lst (w_nil ⟨_, rfl, rfl, _, _, rfl, rfl, ?_⟩))
    have s0 : Sta 0 [.lst []] 0 [.lst []] := ⟨by decide, [], rfl, by simp, by simp⟩
    refine b_asg ?_
    (repeat' (first | refine w_v rfl ?_ | refine w_int ?_ | refine w_bl ?_ | refine w_non ?_ | refine w_str ?_ | refine w_cons ?_ | refine w_nil ?_ | refine w_bin ?_ | refine w_cmp ?_ | refine w_call ?_ | refine w_bi ?_ | refine w_isi ?_ | refine w_ix ?_ | refine w_and ?_ | refine w_or ?_ | refine w_not ?_ | refine w_chn ?_ | refine w_tup ?_ | refine w_lst ?_ | refine w_ite ?_ | refine w_neg ?_ | refine w_sl ?_ | refine sl_t ?_ | refine sl_n ?_ | refine sl_b ?_ | refine sl_l ?_ | refine w_rev ?_ | refine rv_t ?_ | refine rv_n ?_ | refine rv_l ?_ | refine rv_b ?_ | refine w_onone ?_ | refine w_osome ?_ | refine bw_add ?_ | refine bw_sub ?_ | refine cw_lt ?_ | refine cw_le ?_ | refine cw_gt ?_ | refine cw_ge ?_ | refine cw_eqI ?_ | refine cw_neI ?_ | refine bl_w ?_ | refine if_t ?_ | refine if_f ?_ | refine w_comp ?_ | refine fl_rt ?_ | refine fl_nx ?_ | refine And.intro (by assumption) ?_ | refine And.intro rfl ?_ | refine ⟨_, rfl, ?_⟩ | refine ⟨_, _, rfl, rfl, ?_⟩ | refine ⟨_, rfl, rfl, ?_⟩ | refine ⟨_, _, _, rfl, rfl, rfl, ?_⟩ | refine ⟨_, _, _, rfl, rfl, atD0, ?_⟩ | refine ⟨_, _, _, rfl, rfl, atD1, ?_⟩ | refine ⟨_, _, rfl, rfl, rfl, ?_⟩ | dsimp only))
    refine O.wp_mono (some_case_wp (n := 2) (most := 3) L rfl rfl rfl s0 (by decide) (by omega) (by decide) (by decide) (by decide)) fun r h1 z => ?_
    obtain ⟨⟨t, es, offers, rfl, v, o⟩, s1⟩ := z
    refine ⟨_, _, rfl, rfl, ?_⟩
    refine b_asg ?_
    (repeat' (first | refine w_v rfl ?_ | refine w_int ?_ | refine w_bl ?_ | refine w_non ?_ | refine w_str ?_ | refine w_cons ?_ | refine w_nil ?_ | refine w_bin ?_ | refine w_cmp ?_ | refine w_call ?_ | refine w_bi ?_ | refine w_isi ?_ | refine w_ix ?_ | refine w_and ?_ | refine w_or ?_ | refine w_not ?_ | refine w_chn ?_ | refine w_tup ?_ | refine w_lst ?_ | refine w_ite ?_ | refine w_neg ?_ | refine w_sl ?_ | refine sl_t ?_ | refine sl_n ?_ | refine sl_b ?_ | refine sl_l ?_ | refine w_rev ?_ | refine rv_t ?_ | refine rv_n ?_ | refine rv_l ?_ | refine rv_b ?_ | refine w_onone ?_ | refine w_osome ?_ | refine bw_add ?_ | refine bw_sub ?_ | refine cw_lt ?_ | refine cw_le ?_ | refine cw_gt ?_ | refine cw_ge ?_ | refine cw_eqI ?_ | refine cw_neI ?_ | refine bl_w ?_ | refine if_t ?_ | refine if_f ?_ | refine w_comp ?_ | refine fl_rt ?_ | refine fl_nx ?_ | refine And.intro (by assumption) ?_ | refine And.intro rfl ?_ | refine ⟨_, rfl, ?_⟩ | refine ⟨_, _, rfl, rfl, ?_⟩ | refine ⟨_, rfl, rfl, ?_⟩ | refine ⟨_, _, _, rfl, rfl, rfl, ?_⟩ | refine ⟨_, _, _, rfl, rfl, atD0, ?_⟩ | refine ⟨_, _, _, rfl, rfl, atD1, ?_⟩ | refine ⟨_, _, rfl, rfl, rfl, ?_⟩ | dsimp only))
    refine O.wp_mono (some_acts_wp (n := 4) L.toPDr rfl rfl rfl s1 (by decide) (by omega) v (by decide) (by decide)) fun r h2 z => ?_
    obtain ⟨⟨acts, rfl, ha1, ha2, ha3⟩, s2⟩ := z
    refine ⟨_, _, rfl, rfl, ?_⟩
    have hes := v.len
    have t2 := v.t2
    have t4 := v.t4
    have hA : ∀ a ∈ acts, AV es a := fun a ha => .of (ha1 a ha)
    have hL : ∀ a ∈ acts, ActL a := fun a ha => (hA a ha).actL
    have hB : actsB t es (.tup acts) = true := actsB_of (by omega) (fun x hx => actsOf_actB v (allA_mem.mp (ha1 x hx))) (risD_of ha2)
    have hF : ∀ n th : Nat, 0 ≤ feeSum n th acts := fun n th => feeSum_nn hA n th
    have vr := rows_BV (acts := acts) v hF
    generalize hkl : keepL acts es.zipIdx = kl at vr
    have kll : kl.length ≤ 6 := by
      rw [← hkl]
      refine Nat.le_trans (List.length_filter_le _ _) ?_
      simpa using hes
    have klm : ∀ q ∈ kl, q.2 < es.length := fun q hq => by
      rw [← hkl] at hq
      have := List.mem_zipIdx_iff_getElem?.mp (show (q.1, q.2) ∈ es.zipIdx from (List.mem_filter.mp hq).1)
      exact (List.getElem?_eq_some_iff.mp this).1
    refine b_asg ?_
    (repeat' (first | refine w_v rfl ?_ | refine w_int ?_ | refine w_bl ?_ | refine w_non ?_ | refine w_str ?_ | refine w_cons ?_ | refine w_nil ?_ | refine w_bin ?_ | refine w_cmp ?_ | refine w_call ?_ | refine w_bi ?_ | refine w_isi ?_ | refine w_ix ?_ | refine w_and ?_ | refine w_or ?_ | refine w_not ?_ | refine w_chn ?_ | refine w_tup ?_ | refine w_lst ?_ | refine w_ite ?_ | refine w_neg ?_ | refine w_sl ?_ | refine sl_t ?_ | refine sl_n ?_ | refine sl_b ?_ | refine sl_l ?_ | refine w_rev ?_ | refine rv_t ?_ | refine rv_n ?_ | refine rv_l ?_ | refine rv_b ?_ | refine w_onone ?_ | refine w_osome ?_ | refine bw_add ?_ | refine bw_sub ?_ | refine cw_lt ?_ | refine cw_le ?_ | refine cw_gt ?_ | refine cw_ge ?_ | refine cw_eqI ?_ | refine cw_neI ?_ | refine bl_w ?_ | refine if_t ?_ | refine if_f ?_ | refine w_comp ?_ | refine fl_rt ?_ | refine fl_nx ?_ | refine And.intro (by assumption) ?_ | refine And.intro rfl ?_ | refine ⟨_, rfl, ?_⟩ | refine ⟨_, _, rfl, rfl, ?_⟩ | refine ⟨_, rfl, rfl, ?_⟩ | refine ⟨_, _, _, rfl, rfl, rfl, ?_⟩ | refine ⟨_, _, _, rfl, rfl, atD0, ?_⟩ | refine ⟨_, _, _, rfl, rfl, atD1, ?_⟩ | refine ⟨_, _, rfl, rfl, rfl, ?_⟩ | dsimp only))
    refine O.wp_eq (law_under_eq (n := 8) (p := pg) rfl v hL (by omega)) ?_
    rw [hkl]
    refine ⟨_, _, rfl, rfl, ?_⟩
    refine b_asg ?_
    (repeat' (first | refine w_v rfl ?_ | refine w_int ?_ | refine w_bl ?_ | refine w_non ?_ | refine w_str ?_ | refine w_cons ?_ | refine w_nil ?_ | refine w_bin ?_ | refine w_cmp ?_ | refine w_call ?_ | refine w_bi ?_ | refine w_isi ?_ | refine w_ix ?_ | refine w_and ?_ | refine w_or ?_ | refine w_not ?_ | refine w_chn ?_ | refine w_tup ?_ | refine w_lst ?_ | refine w_ite ?_ | refine w_neg ?_ | refine w_sl ?_ | refine sl_t ?_ | refine sl_n ?_ | refine sl_b ?_ | refine sl_l ?_ | refine w_rev ?_ | refine rv_t ?_ | refine rv_n ?_ | refine rv_l ?_ | refine rv_b ?_ | refine w_onone ?_ | refine w_osome ?_ | refine bw_add ?_ | refine bw_sub ?_ | refine cw_lt ?_ | refine cw_le ?_ | refine cw_gt ?_ | refine cw_ge ?_ | refine cw_eqI ?_ | refine cw_neI ?_ | refine bl_w ?_ | refine if_t ?_ | refine if_f ?_ | refine w_comp ?_ | refine fl_rt ?_ | refine fl_nx ?_ | refine And.intro (by assumption) ?_ | refine And.intro rfl ?_ | refine ⟨_, rfl, ?_⟩ | refine ⟨_, _, rfl, rfl, ?_⟩ | refine ⟨_, rfl, rfl, ?_⟩ | refine ⟨_, _, _, rfl, rfl, rfl, ?_⟩ | refine ⟨_, _, _, rfl, rfl, atD0, ?_⟩ | refine ⟨_, _, _, rfl, rfl, atD1, ?_⟩ | refine ⟨_, _, rfl, rfl, rfl, ?_⟩ | dsimp only))
    rw [show ((es.map exD).length : Int) = (es.length : Int) by simp]
    refine b_ss (ss' := [some (.v (scD ns)), some (.v (.obj 0)), some (.v (bD t es)), some (.v (.tup offers)), some (.v (.tup acts)), some (.v (bD t (kl.map (rowE acts)))), some (.v (.lst (kl.map fun p => .int (p.2 : Nat)))), some (.v (.int (es.length : Int))), none, none, none, none, none, none, none, none]) rfl ?_
    generalize hkd : (kl.map fun p => D.int (p.2 : Nat)) = keptD
    have okK : ∀ z ∈ keptD, z.okN 50 = true := fun z hz => by
      rw [← hkd] at hz
      obtain ⟨p, _, rfl⟩ := List.mem_map.mp hz
      rfl
    refine b_for (w_cons (w_int (w_nil ⟨rfl, ?_⟩)))
    refine it_rng (by decide) (by decide) ?_
    refine for_inv (fun j ss h' => (∃ x8 x9 x10 x11 x12, ss = [some (.v (scD ns)), some (.v (.obj 0)), some (.v (bD t es)), some (.v (.tup offers)), some (.v (.tup acts)), some (.v (bD t (kl.map (rowE acts)))), some (.v (.lst keptD)), some (.v (.int (es.length : Int))), x8, x9, x10, x11, x12, none, none, none]) ∧ Sta 0 [.lst []] (700 + 20 * j) h') ⟨⟨_, _, _, _, _, rfl⟩, s2⟩ (fun j d hd ss h' J => ?_) fun ss h' J => ?_
    · obtain ⟨⟨x8, x9, x10, x11, x12, rfl⟩, s⟩ := J
      have hj : j < 8 := by
        have := (List.getElem?_eq_some_iff.mp hd).1
        rw [rngD_len] at this
        omega
      refine ⟨_, rfl, ?_⟩
      refine b_asg (w_bi (w_cons (w_comp (w_cons (w_v rfl (w_nil ?_))))))
      refine it_rng (by omega) (by omega) ?_
      refine c_inv (J := fun acc h => (∃ xs : List Int, acc = xs.map .int ∧ ∀ x ∈ xs, 0 ≤ x ∧ x ≤ 30) ∧ Sta 0 [.lst []] (700 + 20 * j + 2 * acc.length) h) ⟨⟨[], rfl, by simp⟩, s⟩ (fun d hd acc h ha J => ?_) (by rw [rngD_len]; omega) fun ys h3 hy J => ?_
      · obtain ⟨⟨xs, rfl, hx⟩, s⟩ := J
        refine ⟨_, rfl, ?_⟩
        rw [rngD_len] at ha
        simp only [List.length_map] at ha s
        (repeat' (first | refine w_v rfl ?_ | refine w_int ?_ | refine w_bl ?_ | refine w_non ?_ | refine w_str ?_ | refine w_cons ?_ | refine w_nil ?_ | refine w_bin ?_ | refine w_cmp ?_ | refine w_call ?_ | refine w_bi ?_ | refine w_isi ?_ | refine w_ix ?_ | refine w_and ?_ | refine w_or ?_ | refine w_not ?_ | refine w_chn ?_ | refine w_tup ?_ | refine w_lst ?_ | refine w_ite ?_ | refine w_neg ?_ | refine w_sl ?_ | refine sl_t ?_ | refine sl_n ?_ | refine sl_b ?_ | refine sl_l ?_ | refine w_rev ?_ | refine rv_t ?_ | refine rv_n ?_ | refine rv_l ?_ | refine rv_b ?_ | refine w_onone ?_ | refine w_osome ?_ | refine bw_add ?_ | refine bw_sub ?_ | refine cw_lt ?_ | refine cw_le ?_ | refine cw_gt ?_ | refine cw_ge ?_ | refine cw_eqI ?_ | refine cw_neI ?_ | refine bl_w ?_ | refine if_t ?_ | refine if_f ?_ | refine w_comp ?_ | refine fl_rt ?_ | refine fl_nx ?_ | refine And.intro (by assumption) ?_ | refine And.intro rfl ?_ | refine ⟨_, rfl, ?_⟩ | refine ⟨_, _, rfl, rfl, ?_⟩ | refine ⟨_, rfl, rfl, ?_⟩ | refine ⟨_, _, _, rfl, rfl, rfl, ?_⟩ | refine ⟨_, _, _, rfl, rfl, atD0, ?_⟩ | refine ⟨_, _, _, rfl, rfl, atD1, ?_⟩ | refine ⟨_, _, rfl, rfl, rfl, ?_⟩ | dsimp only))
        refine O.wp_mono (pick_wp (n := 5) L.toPDr L.h9 s (by omega) (by decide) (by omega)) fun r h4 z => ?_
        obtain ⟨⟨d2, hd2, rfl⟩, s4⟩ := z
        obtain ⟨hi, rfl, hi0, hi1⟩ : ∃ hi : Int, d2 = .int hi ∧ 0 < hi ∧ hi ≤ 30 := by
          simp only [List.mem_cons, List.not_mem_nil, or_false] at hd2
          rcases hd2 with rfl | rfl | rfl <;> exact ⟨_, rfl, by decide, by decide⟩
        (repeat' (first | refine w_v rfl ?_ | refine w_int ?_ | refine w_bl ?_ | refine w_non ?_ | refine w_str ?_ | refine w_cons ?_ | refine w_nil ?_ | refine w_bin ?_ | refine w_cmp ?_ | refine w_call ?_ | refine w_bi ?_ | refine w_isi ?_ | refine w_ix ?_ | refine w_and ?_ | refine w_or ?_ | refine w_not ?_ | refine w_chn ?_ | refine w_tup ?_ | refine w_lst ?_ | refine w_ite ?_ | refine w_neg ?_ | refine w_sl ?_ | refine sl_t ?_ | refine sl_n ?_ | refine sl_b ?_ | refine sl_l ?_ | refine w_rev ?_ | refine rv_t ?_ | refine rv_n ?_ | refine rv_l ?_ | refine rv_b ?_ | refine w_onone ?_ | refine w_osome ?_ | refine bw_add ?_ | refine bw_sub ?_ | refine cw_lt ?_ | refine cw_le ?_ | refine cw_gt ?_ | refine cw_ge ?_ | refine cw_eqI ?_ | refine cw_neI ?_ | refine bl_w ?_ | refine if_t ?_ | refine if_f ?_ | refine w_comp ?_ | refine fl_rt ?_ | refine fl_nx ?_ | refine And.intro (by assumption) ?_ | refine And.intro rfl ?_ | refine ⟨_, rfl, ?_⟩ | refine ⟨_, _, rfl, rfl, ?_⟩ | refine ⟨_, rfl, rfl, ?_⟩ | refine ⟨_, _, _, rfl, rfl, rfl, ?_⟩ | refine ⟨_, _, _, rfl, rfl, atD0, ?_⟩ | refine ⟨_, _, _, rfl, rfl, atD1, ?_⟩ | refine ⟨_, _, rfl, rfl, rfl, ?_⟩ | dsimp only))
        refine O.wp_mono (draw_wp (n := 6) L.toPDr s4 (by omega) hi0 (by omega)) fun r h5 z => ?_
        obtain ⟨⟨i, rfl, i0, i1⟩, s5⟩ := z
        refine ⟨_, rfl, ⟨xs ++ [i], by rw [List.map_append]; rfl, ?_⟩, s5.mono (by simp; omega)⟩
        intro x hx'
        rcases List.mem_append.mp hx' with q | q
        · exact hx x q
        · have : x = i := by simpa using q
          omega
      obtain ⟨⟨counts, rfl, hcb⟩, s3⟩ := J
      rw [rngD_len] at hy
      simp only [List.length_map] at hy s3
      have hcl : counts.length = es.length := by omega
      have s3' : Sta 0 [.lst []] (700 + 20 * (j + 1)) h3 := s3.mono (by omega)
      refine w_nil ⟨_, rfl, _, _, rfl, rfl, ?_⟩
      refine b_ss (ss' := [some (.v (scD ns)), some (.v (.obj 0)), some (.v (bD t es)), some (.v (.tup offers)), some (.v (.tup acts)), some (.v (bD t (kl.map (rowE acts)))), some (.v (.lst keptD)), some (.v (.int (es.length : Int))), some (.v d), some (.v (tupI counts)), x10, x11, x12, none, none, none]) rfl ?_
      have atc : ∀ n : Int, 0 ≤ n → n < es.length → atD (counts.map D.int) n = some (.int ((counts[n.toNat]?).getD 0)) := fun n n0 n1 => by
        have hn : n.toNat < counts.length := by omega
        have e1 : counts[n.toNat]? = some counts[n.toNat] := List.getElem?_eq_getElem hn
        rw [e1]
        exact atD_get (f := D.int) n0 e1
      -- what is barred
      refine b_asg (w_comp (w_cons (w_v rfl (w_nil ?_))))
      refine it_rng (by omega) (by omega) ?_
      refine c_test (fun d => d) (fBar counts keptD) (fun d hd => ⟨_, rfl, ?_⟩) (by rw [rngD_len]; omega) ?_
      · obtain ⟨n, rfl, n0, n1⟩ := rngD_mem hd
        refine w_and (w_cmp (w_ix (w_v rfl (w_v rfl ⟨_, _, _, rfl, rfl, atc n n0 n1, w_int (cw_gt ?_)⟩))))
        by_cases hc : 0 < (counts[n.toNat]?).getD 0
        · rw [decide_eq_true hc]
          refine bl_w (if_t (w_cmp (w_v rfl (w_v rfl (cw_ninL rfl okK ?_)))))
          exact ⟨by simp [fBar, hc], rfl, fun _ => w_v rfl ⟨rfl, rfl⟩⟩
        · rw [decide_eq_false hc]
          refine bl_w (if_f ⟨by simp [fBar, hc], rfl, fun z => ?_⟩)
          simp [fBar, hc] at z
      refine ⟨_, _, rfl, rfl, ?_⟩
      have ebar := bar_empty (acts := acts) hcl
      rw [hkl, hkd] at ebar
      have okb : (D.lst (((rngD 0 (es.length : Int)).filter (fBar counts keptD)).map fun d => d)).okN 60 = true := by
        simp only [D.okN, List.all_eq_true, List.map_id'']
        intro x hx
        obtain ⟨i, rfl, _⟩ := rngD_mem (List.mem_filter.mp (by simpa using hx)).1
        rfl
      have ebe : D.eqb (.lst (((rngD 0 (es.length : Int)).filter (fBar counts keptD)).map fun d => d)) (.lst []) = !barP (usL es acts) counts := by
        rw [← ebar]
        cases (rngD 0 (es.length : Int)).filter (fBar counts keptD) <;> rfl
      generalize (((rngD 0 (es.length : Int)).filter (fBar counts keptD)).map fun d => d) = bars at okb ebe
      -- the counts that stay
      refine b_asg (w_comp (w_cons (w_v rfl (w_nil ⟨keptD, rfl, ?_⟩))))
      refine c_pure (fun d => match d with | .int n => .int ((counts[n.toNat]?).getD 0) | _ => .non) (fun d hd => ?_) (by rw [← hkd, List.length_map]; omega) ?_
      · rw [← hkd] at hd
        obtain ⟨q, hq, rfl⟩ := List.mem_map.mp hd
        refine ⟨_, rfl, ?_⟩
        exact w_ix (w_v rfl (w_v rfl ⟨_, _, _, rfl, rfl, atc _ (by omega) (by have := klm q hq; omega), rfl, rfl⟩))
      have esome : (keptD.map fun d => match d with | .int n => D.int ((counts[n.toNat]?).getD 0) | _ => .non) = (kl.map (cAt counts)).map .int := by
        rw [← hkd, List.map_map, List.map_map]
        refine List.map_congr_left fun p _ => ?_
        simp [cAt]
      rw [esome]
      refine ⟨_, _, rfl, rfl, ?_⟩
      refine b_ss (ss' := [some (.v (scD ns)), some (.v (.obj 0)), some (.v (bD t es)), some (.v (.tup offers)), some (.v (.tup acts)), some (.v (bD t (kl.map (rowE acts)))), some (.v (.lst keptD)), some (.v (.int (es.length : Int))), some (.v d), some (.v (tupI counts)), some (.v (.lst bars)), some (.v (.lst ((kl.map (cAt counts)).map .int))), x12, none, none, none]) rfl ?_
      -- what is due
      have hnet : ∀ x ∈ kl.map (fun p => netL (rowE acts p)), NV t.toNat x := fun x hx => by
        obtain ⟨p, hp, rfl⟩ := List.mem_map.mp hx
        exact nv_net (vr.ex _ (List.mem_map.mpr ⟨p, hp, rfl⟩))
      have hds := due_sum (k := t.toNat) (acts := acts) hcl
      rw [hkl] at hds
      have after : xB (pg.G 9) NX [.ifs (.not (.call 27 [(.call 111 [(.v 2), (.v 4), (.v 9)]), (.v 12)])) [.ret (.bl false)] [],
          .ifs (.or (.cmp .ne (.call 111 [(.v 2), (.tup []), (.v 9)]) (.call 54 [(.v 2), (.v 9)])) (.and (.v 12) (.not (.call 54 [(.v 2), (.v 9)])))) [.ret (.bl false)] []]
          [some (.v (scD ns)), some (.v (.obj 0)), some (.v (bD t es)), some (.v (.tup offers)), some (.v (.tup acts)), some (.v (bD t (kl.map (rowE acts)))), some (.v (.lst keptD)), some (.v (.int (es.length : Int))), some (.v d), some (.v (tupI counts)), some (.v (.lst bars)), some (.v (.lst ((kl.map (cAt counts)).map .int))), some (.v (.bl (gainB t.toNat (usL es acts) counts))), none, none, none] h3
          (FlW (fun ss h' => (∃ x8 x9 x10 x11 x12, ss = [some (.v (scD ns)), some (.v (.obj 0)), some (.v (bD t es)), some (.v (.tup offers)), some (.v (.tup acts)), some (.v (bD t (kl.map (rowE acts)))), some (.v (.lst keptD)), some (.v (.int (es.length : Int))), x8, x9, x10, x11, x12, none, none, none]) ∧ Sta 0 [.lst []] (700 + 20 * (j + 1)) h') fun r h' => r.pure = true ∧ ([] : MH).length < h'.length ∧ (h'.take ([] : MH).length).all MO.pure = true ∧ r = .v (.bl true)) := by
        have hcnt : cntD es.length (tupI counts) = true := areNum_tupI (by omega) fun i hi => by have := hcb i hi; omega
        have g1 := is_gain_under_eq (n := 2) (m := 5) (h := h3) LG v hA hB (ok_tupI (ns := counts) (n := 4))
        have g0 := is_gain_under_eq (n := 2) (m := 5) (h := h3) (acts := []) LG v (by simp) rfl (ok_tupI (ns := counts) (n := 4))
        have gg := is_gain_eq (n := 2) (m := 5) (h := h3) LG v (ok_tupI (ns := counts) (n := 4))
        rw [hcnt, numsD_tupI, Bool.true_and] at g1 g0 gg
        rw [us_nil v] at g0
        refine b_ifs (w_not ?_)
        (repeat' (first | refine w_v rfl ?_ | refine w_int ?_ | refine w_bl ?_ | refine w_non ?_ | refine w_str ?_ | refine w_cons ?_ | refine w_nil ?_ | refine w_bin ?_ | refine w_cmp ?_ | refine w_call ?_ | refine w_bi ?_ | refine w_isi ?_ | refine w_ix ?_ | refine w_and ?_ | refine w_or ?_ | refine w_not ?_ | refine w_chn ?_ | refine w_tup ?_ | refine w_lst ?_ | refine w_ite ?_ | refine w_neg ?_ | refine w_sl ?_ | refine sl_t ?_ | refine sl_n ?_ | refine sl_b ?_ | refine sl_l ?_ | refine w_rev ?_ | refine rv_t ?_ | refine rv_n ?_ | refine rv_l ?_ | refine rv_b ?_ | refine w_onone ?_ | refine w_osome ?_ | refine bw_add ?_ | refine bw_sub ?_ | refine cw_lt ?_ | refine cw_le ?_ | refine cw_gt ?_ | refine cw_ge ?_ | refine cw_eqI ?_ | refine cw_neI ?_ | refine bl_w ?_ | refine if_t ?_ | refine if_f ?_ | refine w_comp ?_ | refine fl_rt ?_ | refine fl_nx ?_ | refine And.intro (by assumption) ?_ | refine And.intro rfl ?_ | refine ⟨_, rfl, ?_⟩ | refine ⟨_, _, rfl, rfl, ?_⟩ | refine ⟨_, rfl, rfl, ?_⟩ | refine ⟨_, _, _, rfl, rfl, rfl, ?_⟩ | refine ⟨_, _, _, rfl, rfl, atD0, ?_⟩ | refine ⟨_, _, _, rfl, rfl, atD1, ?_⟩ | refine ⟨_, _, rfl, rfl, rfl, ?_⟩ | dsimp only))
        refine O.wp_eq g1 ?_
        (repeat' (first | refine w_v rfl ?_ | refine w_int ?_ | refine w_bl ?_ | refine w_non ?_ | refine w_str ?_ | refine w_cons ?_ | refine w_nil ?_ | refine w_bin ?_ | refine w_cmp ?_ | refine w_call ?_ | refine w_bi ?_ | refine w_isi ?_ | refine w_ix ?_ | refine w_and ?_ | refine w_or ?_ | refine w_not ?_ | refine w_chn ?_ | refine w_tup ?_ | refine w_lst ?_ | refine w_ite ?_ | refine w_neg ?_ | refine w_sl ?_ | refine sl_t ?_ | refine sl_n ?_ | refine sl_b ?_ | refine sl_l ?_ | refine w_rev ?_ | refine rv_t ?_ | refine rv_n ?_ | refine rv_l ?_ | refine rv_b ?_ | refine w_onone ?_ | refine w_osome ?_ | refine bw_add ?_ | refine bw_sub ?_ | refine cw_lt ?_ | refine cw_le ?_ | refine cw_gt ?_ | refine cw_ge ?_ | refine cw_eqI ?_ | refine cw_neI ?_ | refine bl_w ?_ | refine if_t ?_ | refine if_f ?_ | refine w_comp ?_ | refine fl_rt ?_ | refine fl_nx ?_ | refine And.intro (by assumption) ?_ | refine And.intro rfl ?_ | refine ⟨_, rfl, ?_⟩ | refine ⟨_, _, rfl, rfl, ?_⟩ | refine ⟨_, rfl, rfl, ?_⟩ | refine ⟨_, _, _, rfl, rfl, rfl, ?_⟩ | refine ⟨_, _, _, rfl, rfl, atD0, ?_⟩ | refine ⟨_, _, _, rfl, rfl, atD1, ?_⟩ | refine ⟨_, _, rfl, rfl, rfl, ?_⟩ | dsimp only))
        refine O.wp_eq (same_truth_eq (n := 8) (p := pg) rfl) ?_
        rw [beq_self_eq_true]
        refine bl_w (bl_w (if_f (b_nil (fl_nx ?_))))
        refine b_ifs (w_or (w_cmp ?_))
        (repeat' (first | refine w_v rfl ?_ | refine w_int ?_ | refine w_bl ?_ | refine w_non ?_ | refine w_str ?_ | refine w_cons ?_ | refine w_nil ?_ | refine w_bin ?_ | refine w_cmp ?_ | refine w_call ?_ | refine w_bi ?_ | refine w_isi ?_ | refine w_ix ?_ | refine w_and ?_ | refine w_or ?_ | refine w_not ?_ | refine w_chn ?_ | refine w_tup ?_ | refine w_lst ?_ | refine w_ite ?_ | refine w_neg ?_ | refine w_sl ?_ | refine sl_t ?_ | refine sl_n ?_ | refine sl_b ?_ | refine sl_l ?_ | refine w_rev ?_ | refine rv_t ?_ | refine rv_n ?_ | refine rv_l ?_ | refine rv_b ?_ | refine w_onone ?_ | refine w_osome ?_ | refine bw_add ?_ | refine bw_sub ?_ | refine cw_lt ?_ | refine cw_le ?_ | refine cw_gt ?_ | refine cw_ge ?_ | refine cw_eqI ?_ | refine cw_neI ?_ | refine bl_w ?_ | refine if_t ?_ | refine if_f ?_ | refine w_comp ?_ | refine fl_rt ?_ | refine fl_nx ?_ | refine And.intro (by assumption) ?_ | refine And.intro rfl ?_ | refine ⟨_, rfl, ?_⟩ | refine ⟨_, _, rfl, rfl, ?_⟩ | refine ⟨_, rfl, rfl, ?_⟩ | refine ⟨_, _, _, rfl, rfl, rfl, ?_⟩ | refine ⟨_, _, _, rfl, rfl, atD0, ?_⟩ | refine ⟨_, _, _, rfl, rfl, atD1, ?_⟩ | refine ⟨_, _, rfl, rfl, rfl, ?_⟩ | dsimp only))
        refine O.wp_eq g0 ?_
        (repeat' (first | refine w_v rfl ?_ | refine w_int ?_ | refine w_bl ?_ | refine w_non ?_ | refine w_str ?_ | refine w_cons ?_ | refine w_nil ?_ | refine w_bin ?_ | refine w_cmp ?_ | refine w_call ?_ | refine w_bi ?_ | refine w_isi ?_ | refine w_ix ?_ | refine w_and ?_ | refine w_or ?_ | refine w_not ?_ | refine w_chn ?_ | refine w_tup ?_ | refine w_lst ?_ | refine w_ite ?_ | refine w_neg ?_ | refine w_sl ?_ | refine sl_t ?_ | refine sl_n ?_ | refine sl_b ?_ | refine sl_l ?_ | refine w_rev ?_ | refine rv_t ?_ | refine rv_n ?_ | refine rv_l ?_ | refine rv_b ?_ | refine w_onone ?_ | refine w_osome ?_ | refine bw_add ?_ | refine bw_sub ?_ | refine cw_lt ?_ | refine cw_le ?_ | refine cw_gt ?_ | refine cw_ge ?_ | refine cw_eqI ?_ | refine cw_neI ?_ | refine bl_w ?_ | refine if_t ?_ | refine if_f ?_ | refine w_comp ?_ | refine fl_rt ?_ | refine fl_nx ?_ | refine And.intro (by assumption) ?_ | refine And.intro rfl ?_ | refine ⟨_, rfl, ?_⟩ | refine ⟨_, _, rfl, rfl, ?_⟩ | refine ⟨_, rfl, rfl, ?_⟩ | refine ⟨_, _, _, rfl, rfl, rfl, ?_⟩ | refine ⟨_, _, _, rfl, rfl, atD0, ?_⟩ | refine ⟨_, _, _, rfl, rfl, atD1, ?_⟩ | refine ⟨_, _, rfl, rfl, rfl, ?_⟩ | dsimp only))
        refine O.wp_eq gg ?_
        refine cw_ne_self rfl ?_
        refine bl_w (if_f (w_and (w_v rfl ?_)))
        cases hg : gainB t.toNat (usL es acts) counts with
        | false => exact bl_w (if_f (bl_w (if_f (b_nil (fl_nx (b_nil (fl_nx ⟨⟨_, _, _, _, _, rfl⟩, s3'⟩)))))))
        | true =>
          have hm := gain_mono v hF hcl (fun c hc => (hcb c hc).1) hg
          rw [hm] at gg
          refine bl_w (if_t (w_not ?_))
          (repeat' (first | refine w_v rfl ?_ | refine w_int ?_ | refine w_bl ?_ | refine w_non ?_ | refine w_str ?_ | refine w_cons ?_ | refine w_nil ?_ | refine w_bin ?_ | refine w_cmp ?_ | refine w_call ?_ | refine w_bi ?_ | refine w_isi ?_ | refine w_ix ?_ | refine w_and ?_ | refine w_or ?_ | refine w_not ?_ | refine w_chn ?_ | refine w_tup ?_ | refine w_lst ?_ | refine w_ite ?_ | refine w_neg ?_ | refine w_sl ?_ | refine sl_t ?_ | refine sl_n ?_ | refine sl_b ?_ | refine sl_l ?_ | refine w_rev ?_ | refine rv_t ?_ | refine rv_n ?_ | refine rv_l ?_ | refine rv_b ?_ | refine w_onone ?_ | refine w_osome ?_ | refine bw_add ?_ | refine bw_sub ?_ | refine cw_lt ?_ | refine cw_le ?_ | refine cw_gt ?_ | refine cw_ge ?_ | refine cw_eqI ?_ | refine cw_neI ?_ | refine bl_w ?_ | refine if_t ?_ | refine if_f ?_ | refine w_comp ?_ | refine fl_rt ?_ | refine fl_nx ?_ | refine And.intro (by assumption) ?_ | refine And.intro rfl ?_ | refine ⟨_, rfl, ?_⟩ | refine ⟨_, _, rfl, rfl, ?_⟩ | refine ⟨_, rfl, rfl, ?_⟩ | refine ⟨_, _, _, rfl, rfl, rfl, ?_⟩ | refine ⟨_, _, _, rfl, rfl, atD0, ?_⟩ | refine ⟨_, _, _, rfl, rfl, atD1, ?_⟩ | refine ⟨_, _, rfl, rfl, rfl, ?_⟩ | dsimp only))
          refine O.wp_eq gg ?_
          exact bl_w (bl_w (if_f (b_nil (fl_nx (b_nil (fl_nx ⟨⟨_, _, _, _, _, rfl⟩, s3'⟩))))))
      refine b_asg (w_and (w_cmp (w_v rfl (w_lst (w_nil ⟨_, rfl, rfl, cw_eq okb rfl ?_⟩)))))
      rw [show D.eqb (R.v (.lst bars)).rd (R.nl []).rd = !barP (usL es acts) counts from ebe]
      cases hbp : barP (usL es acts) counts with
      | true =>
        refine bl_w (if_f ⟨_, _, rfl, rfl, ?_⟩)
        have : gainB t.toNat (usL es acts) counts = false := by simp [gainB, hbp]
        rw [this] at after
        exact after
      | false =>
        refine bl_w (if_t ?_)
        (repeat' (first | refine w_v rfl ?_ | refine w_int ?_ | refine w_bl ?_ | refine w_non ?_ | refine w_str ?_ | refine w_cons ?_ | refine w_nil ?_ | refine w_bin ?_ | refine w_cmp ?_ | refine w_call ?_ | refine w_bi ?_ | refine w_isi ?_ | refine w_ix ?_ | refine w_and ?_ | refine w_or ?_ | refine w_not ?_ | refine w_chn ?_ | refine w_tup ?_ | refine w_lst ?_ | refine w_ite ?_ | refine w_neg ?_ | refine w_sl ?_ | refine sl_t ?_ | refine sl_n ?_ | refine sl_b ?_ | refine sl_l ?_ | refine w_rev ?_ | refine rv_t ?_ | refine rv_n ?_ | refine rv_l ?_ | refine rv_b ?_ | refine w_onone ?_ | refine w_osome ?_ | refine bw_add ?_ | refine bw_sub ?_ | refine cw_lt ?_ | refine cw_le ?_ | refine cw_gt ?_ | refine cw_ge ?_ | refine cw_eqI ?_ | refine cw_neI ?_ | refine bl_w ?_ | refine if_t ?_ | refine if_f ?_ | refine w_comp ?_ | refine fl_rt ?_ | refine fl_nx ?_ | refine And.intro (by assumption) ?_ | refine And.intro rfl ?_ | refine ⟨_, rfl, ?_⟩ | refine ⟨_, _, rfl, rfl, ?_⟩ | refine ⟨_, rfl, rfl, ?_⟩ | refine ⟨_, _, _, rfl, rfl, rfl, ?_⟩ | refine ⟨_, _, _, rfl, rfl, atD0, ?_⟩ | refine ⟨_, _, _, rfl, rfl, atD1, ?_⟩ | refine ⟨_, _, rfl, rfl, rfl, ?_⟩ | dsimp only))
        refine O.wp_eq (law_nets_eq (n := 8) (p := pg) rfl vr) ?_
        (repeat' (first | refine w_v rfl ?_ | refine w_int ?_ | refine w_bl ?_ | refine w_non ?_ | refine w_str ?_ | refine w_cons ?_ | refine w_nil ?_ | refine w_bin ?_ | refine w_cmp ?_ | refine w_call ?_ | refine w_bi ?_ | refine w_isi ?_ | refine w_ix ?_ | refine w_and ?_ | refine w_or ?_ | refine w_not ?_ | refine w_chn ?_ | refine w_tup ?_ | refine w_lst ?_ | refine w_ite ?_ | refine w_neg ?_ | refine w_sl ?_ | refine sl_t ?_ | refine sl_n ?_ | refine sl_b ?_ | refine sl_l ?_ | refine w_rev ?_ | refine rv_t ?_ | refine rv_n ?_ | refine rv_l ?_ | refine rv_b ?_ | refine w_onone ?_ | refine w_osome ?_ | refine bw_add ?_ | refine bw_sub ?_ | refine cw_lt ?_ | refine cw_le ?_ | refine cw_gt ?_ | refine cw_ge ?_ | refine cw_eqI ?_ | refine cw_neI ?_ | refine bl_w ?_ | refine if_t ?_ | refine if_f ?_ | refine w_comp ?_ | refine fl_rt ?_ | refine fl_nx ?_ | refine And.intro (by assumption) ?_ | refine And.intro rfl ?_ | refine ⟨_, rfl, ?_⟩ | refine ⟨_, _, rfl, rfl, ?_⟩ | refine ⟨_, rfl, rfl, ?_⟩ | refine ⟨_, _, _, rfl, rfl, rfl, ?_⟩ | refine ⟨_, _, _, rfl, rfl, atD0, ?_⟩ | refine ⟨_, _, _, rfl, rfl, atD1, ?_⟩ | refine ⟨_, _, rfl, rfl, rfl, ?_⟩ | dsimp only))
        have en : ((kl.map (rowE acts)).map netD) = (kl.map fun p => netL (rowE acts p)).map tupI := by rw [List.map_map, List.map_map]; rfl
        rw [en]
        have hls := law_shows_eq (p := pg) (n := 7) (k := t.toNat) (nets := kl.map fun p => netL (rowE acts p)) (counts := kl.map (cAt counts)) (h := h3) rfl rfl (by omega) (by omega) hnet (by rw [List.length_map]; omega)
        rw [show ((t.toNat : Nat) : Int) = t by omega, ← hds] at hls
        refine O.wp_eq hls ?_
        have : gainB t.toNat (usL es acts) counts = showsB (sumL t.toNat ((madeL t.toNat (usL es acts)).zip counts)) := by simp [gainB, hbp]
        rw [this] at after
        exact ⟨_, _, rfl, rfl, after⟩
    obtain ⟨⟨x8, x9, x10, x11, x12, rfl⟩, s⟩ := J
    -- what shows nothing
    have hc1000 : decide ((0 : Int) ≤ (es.length : Int) ∧ (es.length : Int) ≤ 1000) = true := decide_eq_true ⟨by omega, by omega⟩
    have hc1001 : decide ((0 : Int) ≤ (es.length : Int) + 1 ∧ (es.length : Int) + 1 ≤ 1000) = true := decide_eq_true ⟨by omega, by omega⟩
    have rT : ∀ (x : D) (k : Nat), decide ((0 : Int) ≤ (k : Int) ∧ (k : Int) ≤ 1000) = true → binR .mul (.v (.tup [x])) (.v (.int (k : Int))) = some (.v (.tup (List.replicate k x))) := fun x k hk => by
      simp only [binR, hk, List.length_singleton, Bool.true_and]
      rw [rep_flat]
      simp
    have rL : ∀ (x : D) (k : Nat), decide ((0 : Int) ≤ (k : Int) ∧ (k : Int) ≤ 1000) = true → binR .mul (.nl [x]) (.v (.int (k : Int))) = some (.nl (List.replicate k x)) := fun x k hk => by
      simp only [binR, R.rd, hk, List.length_singleton, Bool.true_and]
      rw [rep_flat]
      simp
    refine b_asg ?_
    (repeat' (first | refine w_v rfl ?_ | refine w_int ?_ | refine w_bl ?_ | refine w_non ?_ | refine w_str ?_ | refine w_cons ?_ | refine w_nil ?_ | refine w_bin ?_ | refine w_cmp ?_ | refine w_call ?_ | refine w_bi ?_ | refine w_isi ?_ | refine w_ix ?_ | refine w_and ?_ | refine w_or ?_ | refine w_not ?_ | refine w_chn ?_ | refine w_tup ?_ | refine w_lst ?_ | refine w_ite ?_ | refine w_neg ?_ | refine w_sl ?_ | refine sl_t ?_ | refine sl_n ?_ | refine sl_b ?_ | refine sl_l ?_ | refine w_rev ?_ | refine rv_t ?_ | refine rv_n ?_ | refine rv_l ?_ | refine rv_b ?_ | refine w_onone ?_ | refine w_osome ?_ | refine bw_add ?_ | refine bw_sub ?_ | refine cw_lt ?_ | refine cw_le ?_ | refine cw_gt ?_ | refine cw_ge ?_ | refine cw_eqI ?_ | refine cw_neI ?_ | refine bl_w ?_ | refine if_t ?_ | refine if_f ?_ | refine w_comp ?_ | refine fl_rt ?_ | refine fl_nx ?_ | refine And.intro (by assumption) ?_ | refine And.intro rfl ?_ | refine ⟨_, rfl, ?_⟩ | refine ⟨_, _, rfl, rfl, ?_⟩ | refine ⟨_, rfl, rfl, ?_⟩ | refine ⟨_, _, _, rfl, rfl, rfl, ?_⟩ | refine ⟨_, _, _, rfl, rfl, atD0, ?_⟩ | refine ⟨_, _, _, rfl, rfl, atD1, ?_⟩ | refine ⟨_, _, rfl, rfl, rfl, ?_⟩ | dsimp only))
    refine ⟨_, rT _ _ hc1000, ?_⟩
    (repeat' (first | refine w_v rfl ?_ | refine w_int ?_ | refine w_bl ?_ | refine w_non ?_ | refine w_str ?_ | refine w_cons ?_ | refine w_nil ?_ | refine w_bin ?_ | refine w_cmp ?_ | refine w_call ?_ | refine w_bi ?_ | refine w_isi ?_ | refine w_ix ?_ | refine w_and ?_ | refine w_or ?_ | refine w_not ?_ | refine w_chn ?_ | refine w_tup ?_ | refine w_lst ?_ | refine w_ite ?_ | refine w_neg ?_ | refine w_sl ?_ | refine sl_t ?_ | refine sl_n ?_ | refine sl_b ?_ | refine sl_l ?_ | refine w_rev ?_ | refine rv_t ?_ | refine rv_n ?_ | refine rv_l ?_ | refine rv_b ?_ | refine w_onone ?_ | refine w_osome ?_ | refine bw_add ?_ | refine bw_sub ?_ | refine cw_lt ?_ | refine cw_le ?_ | refine cw_gt ?_ | refine cw_ge ?_ | refine cw_eqI ?_ | refine cw_neI ?_ | refine bl_w ?_ | refine if_t ?_ | refine if_f ?_ | refine w_comp ?_ | refine fl_rt ?_ | refine fl_nx ?_ | refine And.intro (by assumption) ?_ | refine And.intro rfl ?_ | refine ⟨_, rfl, ?_⟩ | refine ⟨_, _, rfl, rfl, ?_⟩ | refine ⟨_, rfl, rfl, ?_⟩ | refine ⟨_, _, _, rfl, rfl, rfl, ?_⟩ | refine ⟨_, _, _, rfl, rfl, atD0, ?_⟩ | refine ⟨_, _, _, rfl, rfl, atD1, ?_⟩ | refine ⟨_, _, rfl, rfl, rfl, ?_⟩ | dsimp only))
    refine ⟨_, (by have := rT (.int 1) (es.length + 1) (by simpa using hc1001); simpa using this), ?_⟩
    (repeat' (first | refine w_v rfl ?_ | refine w_int ?_ | refine w_bl ?_ | refine w_non ?_ | refine w_str ?_ | refine w_cons ?_ | refine w_nil ?_ | refine w_bin ?_ | refine w_cmp ?_ | refine w_call ?_ | refine w_bi ?_ | refine w_isi ?_ | refine w_ix ?_ | refine w_and ?_ | refine w_or ?_ | refine w_not ?_ | refine w_chn ?_ | refine w_tup ?_ | refine w_lst ?_ | refine w_ite ?_ | refine w_neg ?_ | refine w_sl ?_ | refine sl_t ?_ | refine sl_n ?_ | refine sl_b ?_ | refine sl_l ?_ | refine w_rev ?_ | refine rv_t ?_ | refine rv_n ?_ | refine rv_l ?_ | refine rv_b ?_ | refine w_onone ?_ | refine w_osome ?_ | refine bw_add ?_ | refine bw_sub ?_ | refine cw_lt ?_ | refine cw_le ?_ | refine cw_gt ?_ | refine cw_ge ?_ | refine cw_eqI ?_ | refine cw_neI ?_ | refine bl_w ?_ | refine if_t ?_ | refine if_f ?_ | refine w_comp ?_ | refine fl_rt ?_ | refine fl_nx ?_ | refine And.intro (by assumption) ?_ | refine And.intro rfl ?_ | refine ⟨_, rfl, ?_⟩ | refine ⟨_, _, rfl, rfl, ?_⟩ | refine ⟨_, rfl, rfl, ?_⟩ | refine ⟨_, _, _, rfl, rfl, rfl, ?_⟩ | refine ⟨_, _, _, rfl, rfl, atD0, ?_⟩ | refine ⟨_, _, _, rfl, rfl, atD1, ?_⟩ | refine ⟨_, _, rfl, rfl, rfl, ?_⟩ | dsimp only))
    refine ⟨_, rL _ _ hc1000, ?_⟩
    (repeat' (first | refine w_v rfl ?_ | refine w_int ?_ | refine w_bl ?_ | refine w_non ?_ | refine w_str ?_ | refine w_cons ?_ | refine w_nil ?_ | refine w_bin ?_ | refine w_cmp ?_ | refine w_call ?_ | refine w_bi ?_ | refine w_isi ?_ | refine w_ix ?_ | refine w_and ?_ | refine w_or ?_ | refine w_not ?_ | refine w_chn ?_ | refine w_tup ?_ | refine w_lst ?_ | refine w_ite ?_ | refine w_neg ?_ | refine w_sl ?_ | refine sl_t ?_ | refine sl_n ?_ | refine sl_b ?_ | refine sl_l ?_ | refine w_rev ?_ | refine rv_t ?_ | refine rv_n ?_ | refine rv_l ?_ | refine rv_b ?_ | refine w_onone ?_ | refine w_osome ?_ | refine bw_add ?_ | refine bw_sub ?_ | refine cw_lt ?_ | refine cw_le ?_ | refine cw_gt ?_ | refine cw_ge ?_ | refine cw_eqI ?_ | refine cw_neI ?_ | refine bl_w ?_ | refine if_t ?_ | refine if_f ?_ | refine w_comp ?_ | refine fl_rt ?_ | refine fl_nx ?_ | refine And.intro (by assumption) ?_ | refine And.intro rfl ?_ | refine ⟨_, rfl, ?_⟩ | refine ⟨_, _, rfl, rfl, ?_⟩ | refine ⟨_, rfl, rfl, ?_⟩ | refine ⟨_, _, _, rfl, rfl, rfl, ?_⟩ | refine ⟨_, _, _, rfl, rfl, atD0, ?_⟩ | refine ⟨_, _, _, rfl, rfl, atD1, ?_⟩ | refine ⟨_, _, rfl, rfl, rfl, ?_⟩ | dsimp only))
    refine ⟨_, rT _ _ hc1000, ?_⟩
    (repeat' (first | refine w_v rfl ?_ | refine w_int ?_ | refine w_bl ?_ | refine w_non ?_ | refine w_str ?_ | refine w_cons ?_ | refine w_nil ?_ | refine w_bin ?_ | refine w_cmp ?_ | refine w_call ?_ | refine w_bi ?_ | refine w_isi ?_ | refine w_ix ?_ | refine w_and ?_ | refine w_or ?_ | refine w_not ?_ | refine w_chn ?_ | refine w_tup ?_ | refine w_lst ?_ | refine w_ite ?_ | refine w_neg ?_ | refine w_sl ?_ | refine sl_t ?_ | refine sl_n ?_ | refine sl_b ?_ | refine sl_l ?_ | refine w_rev ?_ | refine rv_t ?_ | refine rv_n ?_ | refine rv_l ?_ | refine rv_b ?_ | refine w_onone ?_ | refine w_osome ?_ | refine bw_add ?_ | refine bw_sub ?_ | refine cw_lt ?_ | refine cw_le ?_ | refine cw_gt ?_ | refine cw_ge ?_ | refine cw_eqI ?_ | refine cw_neI ?_ | refine bl_w ?_ | refine if_t ?_ | refine if_f ?_ | refine w_comp ?_ | refine fl_rt ?_ | refine fl_nx ?_ | refine And.intro (by assumption) ?_ | refine And.intro rfl ?_ | refine ⟨_, rfl, ?_⟩ | refine ⟨_, _, rfl, rfl, ?_⟩ | refine ⟨_, rfl, rfl, ?_⟩ | refine ⟨_, _, _, rfl, rfl, rfl, ?_⟩ | refine ⟨_, _, _, rfl, rfl, atD0, ?_⟩ | refine ⟨_, _, _, rfl, rfl, atD1, ?_⟩ | refine ⟨_, _, rfl, rfl, rfl, ?_⟩ | dsimp only))
    refine b_ret (w_not (w_bi (w_cons (w_comp (w_cons (w_v rfl (w_nil ⟨_, rfl, ?_⟩)))))))
    refine c_pure (fun d => .bl (cntD es.length d && gainB t.toNat (usL es acts) (numsD d))) (fun d hd => ⟨_, rfl, ?_⟩) (by simp) ?_
    · refine w_call (w_cons (w_v rfl (w_cons (w_v rfl (w_cons (w_v rfl (w_nil (O.wp_eq (is_gain_under_eq (n := 2) (m := 5) LG v hA hB ?_) ⟨rfl, rfl⟩))))))))
      simp only [List.mem_cons, List.not_mem_nil, or_false] at hd
      rcases hd with rfl | rfl | rfl | rfl | rfl | rfl <;> first | rfl | (simp only [D.okN, List.all_eq_true]; intro x hx; rw [List.eq_of_mem_replicate hx]; rfl)
    · refine w_nil (bi_any bls_map ?_)
      have zero : gainB t.toNat (usL es acts) (List.replicate es.length 0) = false := by
        unfold gainB
        rw [shows_zero fun q hq => ?_, Bool.and_false]
        have := (List.of_mem_zip (a := q.1) (b := q.2) hq).2
        exact List.eq_of_mem_replicate this
      rw [any_false fun d hd => ?_]
      · refine bl_w ⟨_, rfl, rfl, ?_, rfl, rfl⟩
        rw [s.len]
        decide
      · simp only [List.mem_cons, List.not_mem_nil, or_false] at hd
        rcases hd with rfl | rfl | rfl | rfl | rfl | rfl
        · rfl
        · have : numsD (.tup (List.replicate es.length (.int 0))) = List.replicate es.length 0 := by
            have := numsD_tupI (b := List.replicate es.length 0)
            simpa [tupI, List.map_replicate] using this
          rw [this, zero, Bool.and_false]
        · have : cntD es.length (.tup (List.replicate (es.length + 1) (.int 1))) = false := by
            simp only [cntD, areNum, List.length_replicate]
            rw [decide_eq_false (by omega), Bool.false_and]
          rw [this, Bool.false_and]
        · rfl
        · rfl
        · cases hz : es.length with
          | zero =>
            rw [hz] at zero
            have : numsD (.tup (List.replicate 0 (.bl true))) = [] := rfl
            rw [this]
            have z2 : gainB t.toNat (usL es acts) [] = false := zero
            rw [z2, Bool.and_false]
          | succ m =>
            have : cntD (m + 1) (.tup (List.replicate (m + 1) (.bl true))) = false := by
              simp [cntD, areNum, List.replicate_succ, isInt]
            rw [this, Bool.false_and]
  obtain ⟨r, h, e, rfl⟩ := O.wp_iff.mp z
  rw [Pg.c_def] at e
  exact ⟨h, e⟩
end K23
set_option Elab.async false
set_option linter.all false
set_option maxRecDepth 100000
set_option maxHeartbeats 0
namespace K23
open PySem L2 GV
def top (i : Nat) : PySem.Stmt := PySem.Challenge.pw_gainboards_k23_whole_gains_under.main.body.getD i (.Pass ⟨0, 0, 0, 0⟩)
def d_is_integer : DI := ⟨"is_integer", top 5, n_is_integer, f_is_integer.p, b_is_integer⟩
def d_rises : DI := ⟨"rises", top 6, n_rises, f_rises.p, b_rises⟩
def d_are_numbers : DI := ⟨"are_numbers", top 7, n_are_numbers, f_are_numbers.p, b_are_numbers⟩
def d_is_exchange : DI := ⟨"is_exchange", top 8, n_is_exchange, f_is_exchange.p, b_is_exchange⟩
def d_stands : DI := ⟨"stands", top 9, n_stands, f_stands.p, b_stands⟩
def d_need_board : DI := ⟨"need_board", top 10, n_need_board, f_need_board.p, b_need_board⟩
def d_net_of : DI := ⟨"net_of", top 11, n_net_of, f_net_of.p, b_net_of⟩
def d_all_nets : DI := ⟨"all_nets", top 12, n_all_nets, f_all_nets.p, b_all_nets⟩
def d_are_counts : DI := ⟨"are_counts", top 13, n_are_counts, f_are_counts.p, b_are_counts⟩
def d_net_sum : DI := ⟨"net_sum", top 15, n_net_sum, f_net_sum.p, b_net_sum⟩
def d_shows_gain : DI := ⟨"shows_gain", top 16, n_shows_gain, f_shows_gain.p, b_shows_gain⟩
def d_is_gain : DI := ⟨"is_gain", top 17, n_is_gain, f_is_gain.p, b_is_gain⟩
def d_is_act : DI := ⟨"is_act", top 19, n_is_act, f_is_act.p, b_is_act⟩
def d_acts_stand : DI := ⟨"acts_stand", top 20, n_acts_stand, f_acts_stand.p, b_acts_stand⟩
def d_need_acts : DI := ⟨"need_acts", top 21, n_need_acts, f_need_acts.p, b_need_acts⟩
def d_under : DI := ⟨"under", top 22, n_under, f_under.p, b_under⟩
def d_is_gain_under : DI := ⟨"is_gain_under", top 23, n_is_gain_under, f_is_gain_under.p, b_is_gain_under⟩
def d_law_same_truth : DI := ⟨"_law_same_truth", top 25, n_law_same_truth, f_law_same_truth.p, b_law_same_truth⟩
def d_law_cell_at : DI := ⟨"_law_cell_at", top 26, n_law_cell_at, f_law_cell_at.p, b_law_cell_at⟩
def d_law_mixed : DI := ⟨"_law_mixed", top 27, n_law_mixed, f_law_mixed.p, b_law_mixed⟩
def d_law_draw : DI := ⟨"_law_draw", top 28, n_law_draw, f_law_draw.p, b_law_draw⟩
def d_law_pick : DI := ⟨"_law_pick", top 29, n_law_pick, f_law_pick.p, b_law_pick⟩
def d_law_nets : DI := ⟨"_law_nets", top 30, n_law_nets, f_law_nets.p, b_law_nets⟩
def d_law_sum : DI := ⟨"_law_sum", top 31, n_law_sum, f_law_sum.p, b_law_sum⟩
def d_law_shows : DI := ⟨"_law_shows", top 32, n_law_shows, f_law_shows.p, b_law_shows⟩
def d_law_some_of : DI := ⟨"_law_some_of", top 33, n_law_some_of, f_law_some_of.p, b_law_some_of⟩
def d_law_all_acts : DI := ⟨"_law_all_acts", top 34, n_law_all_acts, f_law_all_acts.p, b_law_all_acts⟩
def d_law_some_acts : DI := ⟨"_law_some_acts", top 35, n_law_some_acts, f_law_some_acts.p, b_law_some_acts⟩
def d_law_under : DI := ⟨"_law_under", top 36, n_law_under, f_law_under.p, b_law_under⟩
def d_law_some_numbers : DI := ⟨"_law_some_numbers", top 37, n_law_some_numbers, f_law_some_numbers.p, b_law_some_numbers⟩
def d_law_some_exchange : DI := ⟨"_law_some_exchange", top 38, n_law_some_exchange, f_law_some_exchange.p, b_law_some_exchange⟩
def d_law_some_board : DI := ⟨"_law_some_board", top 39, n_law_some_board, f_law_some_board.p, b_law_some_board⟩
def d_law_some_case : DI := ⟨"_law_some_case", top 40, n_law_some_case, f_law_some_case.p, b_law_some_case⟩
def d_law : DI := ⟨"law", top 41, n_law, f_law.p, b_law⟩
def I : HI := ⟨[(1, d_is_integer), (70, d_rises), (2, d_are_numbers), (3, d_is_exchange), (4, d_stands), (13, d_need_board), (14, d_net_of), (15, d_all_nets), (25, d_are_counts), (48, d_net_sum), (53, d_shows_gain), (54, d_is_gain), (71, d_is_act), (105, d_acts_stand), (107, d_need_acts), (72, d_under), (111, d_is_gain_under), (27, d_law_same_truth), (6, d_law_cell_at), (7, d_law_mixed), (8, d_law_draw), (9, d_law_pick), (17, d_law_nets), (58, d_law_sum), (59, d_law_shows), (61, d_law_some_of), (62, d_law_all_acts), (81, d_law_some_acts), (109, d_law_under), (10, d_law_some_numbers), (11, d_law_some_exchange), (12, d_law_some_board), (63, d_law_some_case), (0, d_law)], [], [(0, "InvalidBoard"), (6, "InvalidActs")], none⟩
theorem chk : (I.ds.all fun d => d.2.ok I.T) = true := by decide +kernel
theorem whchk : I.whOk = true := by decide +kernel
theorem pt_eq : (fun f => (I.ds.lookup f).map DI.fd) = fun f => fds.lookup f := HI.pt (I := I) rfl
theorem wh_eq : I.whF = wh := by
  funext c
  rfl
abbrev Rw : PySem.W.OpenRow := PySem.W.OpenLaw.row PySem.Challenge.rw_gainboards_k23_whole_gains_under
theorem run (w : World) : HandSHeadRun.RunEq Rw (PySem.W.view Rw.prog [41]) (I.hook 4) (I.ob 4) 9000 ((["BoardError", "InvalidBoard", "InvalidActs", "is_integer", "rises", "are_numbers", "is_exchange", "stands", "need_board", "net_of", "all_nets", "are_counts", "net_sum", "shows_gain", "is_gain", "is_act", "acts_stand", "need_acts", "under", "is_gain_under", "_law_same_truth", "_law_cell_at", "_law_mixed", "_law_draw", "_law_pick", "_law_nets", "_law_sum", "_law_shows", "_law_some_of", "_law_all_acts"] : List Str) ++ (["_law_some_acts", "_law_under", "_law_some_numbers", "_law_some_exchange", "_law_some_board", "_law_some_case"] : List Str)) w := by
  intro os
  kernel_rfl
theorem main2 (ns : List Int) (hl : ns.length ≤ 63) : ∃ h', evCall (fun f => (I.ds.lookup f).map DI.fd) (fun c => (I.cs[c]?).map (·.2)) srt wf I.whF (lev + 1) 0 [.v (.lst (ns.map D.int))] [] = .ok (.v (.bl true)) h' := by
  rw [pt_eq, wh_eq]
  exact main ns hl
end K23
open PySem PySem.W PySem.Calls PyProof.Rows
theorem PySem.Challenge.cw_gainboards_k23_whole_gains_under_holds : PySem.Challenge.rw_gainboards_k23_whole_gains_under.Holds := by
  w_on; o_law
  refine HandSHeadRun.head_any (r := OpenLaw.row PySem.Challenge.rw_gainboards_k23_whole_gains_under) (q := view (OpenLaw.row PySem.Challenge.rw_gainboards_k23_whole_gains_under).prog [41]) (H := K23.I.hook 4) (ob := K23.I.ob 4) (M := 9000)
    (d := HandSHeadRun.topDef (OpenLaw.row PySem.Challenge.rw_gainboards_k23_whole_gains_under).prog 41) (kwd := []) (K23.I.ob_eq 4)
    (by kernel_rfl) (fun s => by kernel_rfl) K23.run (by kernel_rfl) (by kernel_rfl) (by kernel_rfl) (by rfl) (by first | assumption | decide +kernel) (by decide +kernel) ⟨rfl, rfl, rfl, rfl, rfl, by decide +kernel⟩ ?hw ?hc
  case hw => w_witness2
  case hc => exact GV.HI.walk (l := PySem.Challenge.rw_gainboards_k23_whole_gains_under) (x := "script") (dl := K23.d_law) rfl (by kernel_rfl) ⟨rfl, by decide, by decide⟩ K23.chk K23.whchk (f := 0) rfl (by kernel_rfl) rfl K23.main2
