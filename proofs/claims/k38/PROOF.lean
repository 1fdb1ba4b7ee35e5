import PyProof.Rows.All
import Wide.All
import OpenK.AllK
import Wide.FinOn
import HandS.ForMost
import HandS.Exc
import HandS.ExcOwn
import HandS.WordsExc
import HandS.IsInst
import HandS.Zip
import HandS.Walk
import HandS.TupAny
import HandS.TupMul
import HandS.Deep
import HandS.Style
import HandS.Conv
import HandS.Wide
import KE.KDictKeyed
import KE.KDictDisplayH
import KE.KDictWalk
import KE.LtData
import KE.SortData
import HandS.Text
import HandS.Codes
import KE.KTupSum
import KE.DataMinMax
import KE.GoesEnum
import KE.GoesMore
import KE.KRevSl
import HandS.HotCalls
import HandS.ExcIs
import HandS.SetFor
import HandS.Defaults
import HandS.HeadHook2
import PyProof.ExcBaseAll.ValueError
import HandS.Head2
import HandS.HeadEnd
import Lean
import PySem.Challenge.RW_gainboards_k38_whole_board_texts
set_option Elab.async false
set_option linter.all false
set_option maxRecDepth 100000
set_option maxHeartbeats 4000000
/-! GV1: data, worlds, relations. -/
namespace GV
open PySem L2

inductive D where
  | non | bl (b : Bool) | int (i : Int) | str (x : Str) | tup (xs : List D) | lst (xs : List D) | obj (n : Nat)
inductive Fd where
  | v (d : D) | own (n : Nat) (xs : List D)
inductive MO where
  | lst (xs : List D) | ins (c : Nat) (fs : List (Str × Fd)) | dic (n : Nat) (kvs : List (D × D))
abbrev MH := List MO
/-- what an expression yields: plain data, a list that nobody else holds, a list lent by its holder -/
inductive R where
  | v (d : D) | nl (xs : List D) | bw (xs : List D)
inductive Sl where
  | v (d : D) | own (xs : List D) | bw (xs : List D)
abbrev SS := List (Option Sl)
inductive O (α : Type) where
  | ok (a : α) (h : MH) | ex (c : Nat) (h : MH) | no
def O.bind {α β : Type} : O α → (α → MH → O β) → O β
  | .ok a h, k => k a h
  | .ex c h, _ => .ex c h
  | .no, _ => .no
@[simp] theorem O.bind_ok {α β : Type} (a : α) (h : MH) (k : α → MH → O β) : (O.ok a h).bind k = k a h := rfl
@[simp] theorem O.bind_ex {α β : Type} (c : Nat) (h : MH) (k : α → MH → O β) : (O.ex c h : O α).bind k = .ex c h := rfl
@[simp] theorem O.bind_no {α β : Type} (k : α → MH → O β) : (O.no : O α).bind k = .no := rfl
def O.of {α : Type} (h : MH) : Option α → O α
  | some a => .ok a h
  | none => .no
@[simp] theorem O.of_some {α : Type} (h : MH) (a : α) : O.of h (some a) = .ok a h := rfl
@[simp] theorem O.of_none {α : Type} (h : MH) : O.of h (none : Option α) = .no := rfl

structure Wd where
  k : Nat × Option (Str × Nat) → Option Addr
  F : Addr → Prop
  ob : Nat × Nat → Option (Obj × List (NestedKey × Addr × Value))
/-- the classes, and the world -/
structure Cl where
  f : Nat → Option Addr
  w : World
instance : CoeFun Cl fun _ => Nat → Option Addr := ⟨Cl.f⟩
def Wd.fp (W : Wd) (a : Addr) : Prop := ∃ q, W.k q = some a

mutual
inductive Rep (K : PySem.W.Frag) (W : Wd) (H : Hp) : V → D → Prop
  | non : Rep K W H .non .non
  | bl (b : Bool) : Rep K W H (.bl b) (.bl b)
  | int (i : Int) : Rep K W H (.int i) (.int i)
  | str (x : Str) : Rep K W H (.str x) (.str x)
  | tup {a : Addr} {vs : List V} {ds : List D} : SqT K H a vs → RepL K W H vs ds → Rep K W H (.ref a) (.tup ds)
  | lst {a : Addr} {vs : List V} {ds : List D} : Rd H a (.lst vs) → W.F a → RepL K W H vs ds → Rep K W H (.ref a) (.lst ds)
  | obj {i : Nat} {a : Addr} : W.k (i, none) = some a → Rep K W H (.ref a) (.obj i)
inductive RepL (K : PySem.W.Frag) (W : Wd) (H : Hp) : List V → List D → Prop
  | nil : RepL K W H [] []
  | cons {v : V} {vs : List V} {d : D} {ds : List D} : Rep K W H v d → RepL K W H vs ds → RepL K W H (v :: vs) (d :: ds)
end

def FRel (K : PySem.W.Frag) (W : Wd) (H : Hp) (i : Nat) (p : Str × Fd) (q : Str × V) : Prop :=
  p.1 = q.1 ∧ match p.2 with
  | .v d => Rep K W H q.2 d
  | .own n xs => ∃ a vs, W.k (i, some (p.1, n)) = some a ∧ q.2 = .ref a ∧ H a = some (.lst vs) ∧ RepL K W H vs xs
mutual
/-- data as a key -/
def D.nk : D → NestedKey
  | .non => .none
  | .bl b => .num (if b = true then 1 else 0)
  | .int i => .num i
  | .str x => .text x
  | .tup xs => .tup (D.nkL xs)
  | .lst _ => .none
  | .obj _ => .none
def D.nkL : List D → List NestedKey
  | [] => []
  | d :: ds => D.nk d :: D.nkL ds
end
/-- data that may stand in a key, not deeper than n -/
def D.keyN : Nat → D → Bool
  | _, .non => true
  | _, .bl _ => true
  | _, .int _ => true
  | _, .str _ => true
  | n + 1, .tup xs => xs.all (D.keyN n)
  | _, _ => false
def D.keyB (d : D) : Bool := match d with
  | .tup _ => D.keyN 8 d
  | _ => false
def dEnt (w : World) (x : NestedKey × Addr × Value) : DictEntry := ⟨x.1.hash w, .ref x.2.1, x.2.2⟩
/-- a dict: its object, its entries -/
def DicP (w : World) (a : Addr) (o : Obj) (xs : List (NestedKey × Addr × Value)) : Prop :=
  (a == sysModules) = false ∧ o.ExactDict ∧ xs.length ≤ sizeLine ∧ ∃ es ep, o.data = .dict es ep ∧ es.toList = xs.map (dEnt w) ∧ (xs.map (·.1)).Nodup
def DicO (w : World) (a : Addr) (o : Obj) (xs : List (NestedKey × Addr × Value)) : HO := .ext fun h => h.get? a = some o ∧ DicP w a o xs
def DP (K : PySem.W.Frag) (W : Wd) (H : Hp) (p : D × D) (x : NestedKey × Addr × Value) : Prop :=
  x.1 = p.1.nk ∧ p.1.keyB = true ∧ Rep K W H (.ref x.2.1) p.1 ∧ ∃ v, RelV v x.2.2 ∧ Rep K W H v p.2
def MRel (K : PySem.W.Frag) (cl : Cl) (W : Wd) (H : Hp) (i : Nat) : MO → Prop
  | .lst xs => ∃ a vs, W.k (i, none) = some a ∧ H a = some (.lst vs) ∧ RepL K W H vs xs
  | .ins c fs => ∃ a C dx gs, W.k (i, none) = some a ∧ cl c = some C ∧ H a = some (.ins C dx gs) ∧ Paired (FRel K W H i) fs gs
  | .dic n kvs => ∃ a o xs, W.k (i, none) = some a ∧ W.ob (i, n) = some (o, xs) ∧ H a = some (DicO cl.w a o xs) ∧ Paired (DP K W H) kvs xs

structure WOk (K : PySem.W.Frag) (cl : Cl) (W : Wd) (h : MH) (H : Hp) : Prop where
  inj : ∀ q q' a, W.k q = some a → W.k q' = some a → q = q'
  dis : ∀ a, W.F a → ¬ W.fp a
  cov : ∀ a, W.fp a → (∃ xs, H a = some (.lst xs)) ∨ (∃ C dx fs, H a = some (.ins C dx fs)) ∨ ∃ φ, H a = some (.ext φ)
  frz : ∀ a, W.F a → H a ≠ none
  obj : ∀ (i : Nat) o, h[i]? = some o → MRel K cl W H i o
  bnd : ∀ q a, W.k q = some a → q.1 < h.length
  nxt : ∀ (i : Nat) c fs, h[i]? = some (.ins c fs) → ∀ f m a, W.k (i, some (f, m)) = some a → ∃ n xs, fs.lookup f = some (.own n xs) ∧ m ≤ n
  dbd : ∀ q o, W.ob q = some o → q.1 < h.length
  dnx : ∀ (i : Nat) n kvs, h[i]? = some (.dic n kvs) → ∀ m o, W.ob (i, m) = some o → m ≤ n

structure Ext (W : Wd) (H : Hp) (W' : Wd) (H' : Hp) : Prop where
  keep : ∀ a o, H a = some o → ¬ W.fp a → H' a = some o
  there : ∀ a, H a ≠ none → H' a ≠ none
  fpn : ∀ a, W'.fp a → W.fp a ∨ H a = none
  ids : ∀ q a, W.k q = some a → W'.k q = some a
  fF : ∀ a, W.F a → W'.F a
  fn : ∀ a, W'.F a → W.F a ∨ H a = none
  ob : ∀ q o, W.ob q = some o → W'.ob q = some o

theorem Ext.refl (W : Wd) (H : Hp) : Ext W H W H :=
  ⟨fun _ _ e _ => e, fun _ e => e, fun _ e => .inl e, fun _ _ e => e, fun _ e => e, fun _ e => .inl e, fun _ _ e => e⟩
theorem Ext.new {W W' : Wd} {H H' : Hp} (x : Ext W H W' H') {a : Addr} (e : H' a = none) : H a = none := by
  cases q : H a with
  | none => rfl
  | some o => exact absurd e (x.there a (by rw [q]; exact Option.some_ne_none _))
theorem Ext.trans {W W1 W2 : Wd} {H H1 H2 : Hp} (a : Ext W H W1 H1) (b : Ext W1 H1 W2 H2) : Ext W H W2 H2 where
  keep := fun c o e n => b.keep c o (a.keep c o e n) fun z => (a.fpn c z).elim n fun q => by rw [q] at e; cases e
  there := fun c e => b.there c (a.there c e)
  fpn := fun c z => (b.fpn c z).elim (a.fpn c) fun q => .inr (a.new q)
  ids := fun i c e => b.ids i c (a.ids i c e)
  fF := fun c e => b.fF c (a.fF c e)
  fn := fun c z => (b.fn c z).elim (a.fn c) fun q => .inr (a.new q)
  ob := fun q o e => b.ob q o (a.ob q o e)

section
variable {K : PySem.W.Frag} {cl : Cl} {W W' : Wd} {H H' : Hp} {h h' : MH}
theorem notfp_tup {a : Addr} {xs : List V} (ok : WOk K cl W h H) (e : H a = some (.tup xs)) : ¬ W.fp a := fun z => by
  rcases ok.cov a z with ⟨ys, q⟩ | ⟨C, dx, fs, q⟩ | ⟨φ, q⟩ <;> rw [e] at q <;> cases q
theorem notfp_frz {a : Addr} {o : Obj} {u : HO} (ok : WOk K cl W h H) (e : H a = some (.frz o u)) : ¬ W.fp a := fun z => by
  rcases ok.cov a z with ⟨ys, q⟩ | ⟨C, dx, fs, q⟩ | ⟨φ, q⟩ <;> rw [e] at q <;> cases q
theorem sqT_ext {a : Addr} {xs : List V} (ok : WOk K cl W h H) (x : Ext W H W' H') (e : SqT K H a xs) : SqT K H' a xs := by
  rcases e with (e | ⟨o, e⟩) | e
  · exact .inl (.inl (x.keep _ _ e (notfp_tup ok e)))
  · exact .inl (.inr ⟨o, x.keep _ _ e (notfp_frz ok e)⟩)
  · exact .inr e
theorem rd_ext {a : Addr} {u : HO} (x : Ext W H W' H') (n : ¬ W.fp a) (e : Rd H a u) : Rd H' a u := by
  rcases e with e | ⟨o, e⟩
  · exact .inl (x.keep _ _ e n)
  · exact .inr ⟨o, x.keep _ _ e n⟩
mutual
theorem Rep.ext (ok : WOk K cl W h H) (x : Ext W H W' H') : ∀ {v : V} {d : D}, Rep K W H v d → Rep K W' H' v d
  | _, _, .non => .non
  | _, _, .bl b => .bl b
  | _, _, .int i => .int i
  | _, _, .str s => .str s
  | _, _, .tup e r => .tup (sqT_ext ok x e) (RepL.ext ok x r)
  | _, _, .lst e f r => .lst (rd_ext x (ok.dis _ f) e) (x.fF _ f) (RepL.ext ok x r)
  | _, _, .obj e => .obj (x.ids _ _ e)
theorem RepL.ext (ok : WOk K cl W h H) (x : Ext W H W' H') : ∀ {vs : List V} {ds : List D}, RepL K W H vs ds → RepL K W' H' vs ds
  | _, _, .nil => .nil
  | _, _, .cons a b => .cons (Rep.ext ok x a) (RepL.ext ok x b)
end
theorem RepL.length : ∀ {vs : List V} {ds : List D}, RepL K W H vs ds → vs.length = ds.length
  | _, _, .nil => rfl
  | _, _, .cons _ b => by simp [RepL.length b]
theorem RepL.get : ∀ {vs : List V} {ds : List D} {i : Nat} {v : V}, RepL K W H vs ds → vs[i]? = some v → ∃ d, ds[i]? = some d ∧ Rep K W H v d
  | _, _, _, _, .nil, e => by simp at e
  | _, _, 0, _, .cons a _, e => by simp at e; subst e; exact ⟨_, rfl, a⟩
  | _, _, i + 1, v, .cons _ b, e => by simpa using RepL.get (i := i) b (by simpa using e)
theorem RepL.get' : ∀ {vs : List V} {ds : List D} {i : Nat} {d : D}, RepL K W H vs ds → ds[i]? = some d → ∃ v, vs[i]? = some v ∧ Rep K W H v d
  | _, _, _, _, .nil, e => by simp at e
  | _, _, 0, _, .cons a _, e => by simp at e; subst e; exact ⟨_, rfl, a⟩
  | _, _, i + 1, v, .cons _ b, e => by simpa using RepL.get' (i := i) b (by simpa using e)
theorem RepL.append : ∀ {vs ws : List V} {ds es : List D}, RepL K W H vs ds → RepL K W H ws es → RepL K W H (vs ++ ws) (ds ++ es)
  | _, _, _, _, .nil, q => q
  | _, _, _, _, .cons a b, q => .cons a (RepL.append b q)
theorem RepL.drop : ∀ {vs : List V} {ds : List D} (n : Nat), RepL K W H vs ds → RepL K W H (vs.drop n) (ds.drop n)
  | _, _, 0, r => r
  | _, _, _ + 1, .nil => .nil
  | _, _, n + 1, .cons _ b => RepL.drop n b
theorem RepL.take : ∀ {vs : List V} {ds : List D} (n : Nat), RepL K W H vs ds → RepL K W H (vs.take n) (ds.take n)
  | _, _, 0, _ => .nil
  | _, _, _ + 1, .nil => .nil
  | _, _, n + 1, .cons a b => .cons a (RepL.take n b)
theorem RepL.set : ∀ {vs : List V} {ds : List D} (n : Nat) {v : V} {d : D}, RepL K W H vs ds → Rep K W H v d → RepL K W H (vs.set n v) (ds.set n d)
  | _, _, _, _, _, .nil, _ => .nil
  | _, _, 0, _, _, .cons _ b, q => .cons q b
  | _, _, n + 1, _, _, .cons a b, q => .cons a (RepL.set n b q)
theorem RepL.ints : ∀ {vs : List V} {ns : List Int}, RepL K W H vs (ns.map D.int) → vs = ns.map V.int
  | _, [], .nil => rfl
  | _, n :: ns, .cons (.int _) b => by simp [RepL.ints b]
theorem RepL.bls : ∀ {vs : List V} {ns : List Bool}, RepL K W H vs (ns.map D.bl) → vs = ns.map V.bl
  | _, [], .nil => rfl
  | _, n :: ns, .cons (.bl _) b => by simp [RepL.bls b]
theorem RepL.flat : ∀ (n : Nat) {vs : List V} {ds : List D}, RepL K W H vs ds → RepL K W H (List.replicate n vs).flatten (List.replicate n ds).flatten
  | 0, _, _, _ => .nil
  | n + 1, _, _, r => by simpa [List.replicate_succ] using r.append (RepL.flat n r)
theorem Paired.ext {i : Nat} (ok : WOk K cl W h H) (x : Ext W H W' H') (own : ∀ f a, W.k (i, some f) = some a → H' a = H a) : ∀ {fs : List (Str × Fd)} {gs : List (Str × V)}, Paired (FRel K W H i) fs gs → Paired (FRel K W' H' i) fs gs
  | _, _, .nil => .nil
  | (f, .v d) :: _, _, .cons a b => .cons ⟨a.1, Rep.ext ok x a.2⟩ (Paired.ext ok x own b)
  | (f, .own n xs) :: _, _, .cons a b => .cons ⟨a.1, by
      obtain ⟨_, p, vs, h1, h2, h3, h4⟩ := a
      exact ⟨p, vs, x.ids _ _ h1, h2, by rw [own _ _ h1]; exact h3, RepL.ext ok x h4⟩⟩ (Paired.ext ok x own b)
end

theorem DP.map {K : PySem.W.Frag} {W W' : Wd} {H H' : Hp} (f : ∀ v d, Rep K W H v d → Rep K W' H' v d) : ∀ {kvs : List (D × D)} {xs : List (NestedKey × Addr × Value)}, Paired (DP K W H) kvs xs → Paired (DP K W' H') kvs xs
  | _, _, .nil => .nil
  | _, _, .cons a b => .cons ⟨a.1, a.2.1, f _ _ a.2.2.1, let ⟨v, h1, h2⟩ := a.2.2.2; ⟨v, h1, f _ _ h2⟩⟩ (DP.map f b)
/-- a result -/
def RRel (K : PySem.W.Frag) (W' : Wd) (H H' : Hp) (v : V) : R → Prop
  | .v d => Rep K W' H' v d
  | .nl xs => ∃ p vs, v = .ref p ∧ H p = none ∧ H' p = some (.lst vs) ∧ RepL K W' H' vs xs ∧ ¬ W'.F p ∧ ¬ W'.fp p
  | .bw xs => ∃ p vs, v = .ref p ∧ H' p = some (.lst vs) ∧ RepL K W' H' vs xs ∧ ¬ W'.fp p
section
variable {K : PySem.W.Frag} {cl : Cl} {W W1 W2 : Wd} {H H1 H2 : Hp} {h1 h2 : MH} {v : V} {r : R}
theorem RRel.ext (ok : WOk K cl W1 h1 H1) (x : Ext W1 H1 W2 H2) (q : RRel K W1 H H1 v r) : RRel K W2 H H2 v r := by
  cases r with
  | v d => exact Rep.ext ok x q
  | nl xs =>
    obtain ⟨p, vs, e1, e2, e3, e4, e5, e6⟩ := q
    have t : H1 p ≠ none := by rw [e3]; exact Option.some_ne_none _
    exact ⟨p, vs, e1, e2, x.keep _ _ e3 e6, RepL.ext ok x e4, fun z => (x.fn p z).elim e5 t, fun z => (x.fpn p z).elim e6 t⟩
  | bw xs =>
    obtain ⟨p, vs, e1, e3, e4, e6⟩ := q
    have t : H1 p ≠ none := by rw [e3]; exact Option.some_ne_none _
    exact ⟨p, vs, e1, x.keep _ _ e3 e6, RepL.ext ok x e4, fun z => (x.fpn p z).elim e6 t⟩
theorem RRel.back (x : Ext W H W1 H1) (q : RRel K W2 H1 H2 v r) : RRel K W2 H H2 v r := by
  cases r with
  | v d => exact q
  | nl xs =>
    obtain ⟨p, vs, e1, e2, e⟩ := q
    exact ⟨p, vs, e1, x.new e2, e⟩
  | bw xs => exact q
end

/-- the slots -/
structure SRel (K : PySem.W.Frag) (W : Wd) (H : Hp) (oA : Nat → Option Addr) (ss : SS) (σ : St) : Prop where
  vs : ∀ (j : Nat) d, ss[j]? = some (some (.v d)) → ∃ v, σ[j]? = some (some v) ∧ Rep K W H v d
  own : ∀ (j : Nat) xs, ss[j]? = some (some (.own xs)) → ∃ a vs, oA j = some a ∧ σ[j]? = some (some (.ref a)) ∧ H a = some (.lst vs) ∧ RepL K W H vs xs
  bw : ∀ (j : Nat) xs, ss[j]? = some (some (.bw xs)) → ∃ a vs, σ[j]? = some (some (.ref a)) ∧ H a = some (.lst vs) ∧ RepL K W H vs xs ∧ ¬ W.fp a ∧ ∀ i, oA i ≠ some a
  inj : ∀ i j a, oA i = some a → oA j = some a → i = j
  free : ∀ j a, oA j = some a → ¬ W.fp a ∧ ¬ W.F a ∧ H a ≠ none
  len : ss.length = σ.length
theorem SRel.ext {K : PySem.W.Frag} {cl : Cl} {W W' : Wd} {H H' : Hp} {h : MH} {oA : Nat → Option Addr} {ss : SS} {σ : St} (ok : WOk K cl W h H) (x : Ext W H W' H') (s : SRel K W H oA ss σ) : SRel K W' H' oA ss σ where
  vs := fun j d e => let ⟨v, e1, e2⟩ := s.vs j d e; ⟨v, e1, Rep.ext ok x e2⟩
  own := fun j xs e => let ⟨a, vs, e1, e2, e3, e4⟩ := s.own j xs e; ⟨a, vs, e1, e2, x.keep _ _ e3 (s.free j a e1).1, RepL.ext ok x e4⟩
  bw := fun j xs e => let ⟨a, vs, e2, e3, e4, e5, e6⟩ := s.bw j xs e; ⟨a, vs, e2, x.keep _ _ e3 e5, RepL.ext ok x e4, fun z => (x.fpn a z).elim e5 (by rw [e3]; exact Option.some_ne_none _), e6⟩
  inj := s.inj
  free := fun j a e => let ⟨e1, e2, e3⟩ := s.free j a e; ⟨fun z => (x.fpn a z).elim e1 e3, fun z => (x.fn a z).elim e2 e3, x.there a e3⟩
  len := s.len
end GV
set_option Elab.async false
set_option linter.all false
set_option maxRecDepth 100000
set_option maxHeartbeats 4000000
/-! GV2: the small language and what it computes. -/
namespace GV
open PySem L2

inductive BOp where | add | sub | mul | fdiv | mod | pow
  deriving DecidableEq
inductive COp where | eq | ne | lt | le | gt | ge | isin | notin | is_ | isnot
  deriving DecidableEq
inductive Ty where | int | bool | tuple | str | list
  deriving DecidableEq
inductive Bi where | len | sum | all | any | min | max | tuple | list | sorted | str | int
  deriving DecidableEq
inductive Mt where | count | index | join | split | upper
  deriving DecidableEq
inductive IK where | seq | rng | enum | zip
  deriving DecidableEq
inductive Tg where | n (j : Nat) | t (ts : List Tg)
inductive E where
  | non | bl (b : Bool) | int (i : Int) | str (x : Str)
  | v (j : Nat)
  | g (c : Nat)
  | bin (o : BOp) (a b : E)
  | neg (a : E)
  | cmp (o : COp) (a b : E)
  | chn (o o' : COp) (a b c : E)
  | and (a b : E) | or (a b : E) | not (a : E)
  | ite (c a b : E)
  | tup (es : List E) | lst (es : List E)
  | ix (a i : E)
  | sl (a : E) (lo hi : Option E)
  | rev (a : E) (lo : Option Nat)
  | rgl (t : Bool) (a : E)
  | call (f : Nat) (es : List E)
  | make (c f : Nat) (es : List E)
  | meth (j c : Nat) (m : Str) (f : Nat) (es : List E)
  | bi (f : Bi) (es : List E)
  | mt (m : Mt) (a : E) (es : List E)
  | isi (a : E) (t : Ty)
  | fld (j : Nat) (f : Str)
  | fix (j : Nat) (f : Str) (i : E)
  | flen (j : Nat) (f : Str)
  | fcut (j : Nat) (f : Str) (lo hi : Option Int)
  | comp (k : IK) (src : List E) (t : Tg) (own : List Nat) (ifs : List E) (e : E)
  | dct0
  | dct1 (k v : E)
  | dix (j : Nat) (i : E)
  | din (b : Bool) (i : E) (j : Nat)
  | dsrt (j : Nat)
  | srep (a b : E)
inductive S where
  | asg (t : Tg) (e : E)
  | asgO (j : Nat) (e : E)
  | asgR (j : Nat) (e : E)
  | par (js : List Nat) (es : List E)
  | par2 (o o' : Bool) (i j : Nat) (a b : E)
  | par3 (o o' o'' : Bool) (i j l : Nat) (a b c : E)
  | setI (j : Nat) (i e : E)
  | setD (j : Nat) (i e : E)
  | forD (j : Nat) (t : Tg) (b : List S)
  | par4 (o o' o'' o3 : Bool) (i j l m : Nat) (a b c d : E)
  | setT (j a b : Nat) (e : E)
  | augI (j : Nat) (o : BOp) (i e : E)
  | aug (j : Nat) (o : BOp) (e : E)
  | app (j : Nat) (e : E)
  | ext (j : Nat) (e : E)
  | pop (t : Tg) (j : Nat) (es : List E)
  | appPop (j l : Nat) (e : E)
  | popX (l : Nat) (e : E)
  | fldV (j : Nat) (f : Str) (e : E)
  | fldO (j : Nat) (f : Str) (e : E)
  | fldSet (j : Nat) (f : Str) (i e : E)
  | fldApp (j : Nat) (f : Str) (e : E)
  | expr (e : E)
  | ifs (c : E) (a b : List S)
  | for_ (k : IK) (src : List E) (t : Tg) (b : List S)
  | forF (k : IK) (j : Nat) (f : Str) (t : Tg) (b : List S)
  | while_ (c : E) (b : List S)
  | ret (e : E)
  | retN
  | retO (j : Nat)
  | raise (c : Nat)
  | tryW (e : E) (i : Nat)
  | pass
  | frz (j : Nat)
  | wall

/-! ### data -/
def strOkB (x : Str) : Bool := x.cps.all (· < 0x110000)
/-- plain data, not deeper than n -/
def D.okN : Nat → D → Bool
  | _, .non => true
  | _, .bl _ => true
  | _, .int _ => true
  | _, .str x => strOkB x
  | n + 1, .tup xs => xs.all (D.okN n)
  | n + 1, .lst xs => xs.all (D.okN n)
  | 0, .tup _ => false
  | 0, .lst _ => false
  | _, .obj _ => false
mutual
def D.eqb : D → D → Bool
  | .non, .non => true
  | .bl a, .bl b => a == b
  | .bl a, .int j => (if a then 1 else 0) == j
  | .int i, .bl b => i == (if b then 1 else 0)
  | .int i, .int j => i == j
  | .str x, .str y => x == y
  | .lst xs, .lst ys => D.eqbL xs ys
  | .tup xs, .tup ys => D.eqbL xs ys
  | _, _ => false
def D.eqbL : List D → List D → Bool
  | [], [] => true
  | x :: xs, y :: ys => D.eqb x y && D.eqbL xs ys
  | _, _ => false
end
def D.int? : D → Option Int
  | .int i => some i
  | _ => none
def D.bl? : D → Option Bool
  | .bl b => some b
  | _ => none
def ints? : List D → Option (List Int)
  | [] => some []
  | .int i :: r => (ints? r).map (i :: ·)
  | _ => none
def bls? : List D → Option (List Bool)
  | [] => some []
  | .bl i :: r => (bls? r).map (i :: ·)
  | _ => none
def strs? : List D → Option (List Str)
  | [] => some []
  | .str i :: r => (strs? r).map (i :: ·)
  | _ => none
def R.toD : R → Option D
  | .v d => some d
  | .nl xs => some (.lst xs)
  | .bw _ => none
/-- as an operand that is read at once -/
def R.rd : R → D
  | .v d => d
  | .nl xs => .lst xs
  | .bw xs => .lst xs
def R.arg : R → Sl
  | .v d => .v d
  | .nl xs => .v (.lst xs)
  | .bw xs => .bw xs
def D.seq : D → Option (List D)
  | .tup xs => some xs
  | .lst xs => some xs
  | _ => none
def small (n : Nat) : Bool := decide (n ≤ 1000000)
def atD (xs : List D) (i : Int) : Option D := L2.atI xs i
def cutD (xs : List D) (lo hi : Option Int) : List D := (xs.drop (HT.sIx xs.length 0 lo)).take (HT.sIx xs.length xs.length hi - HT.sIx xs.length 0 lo)
def mulOk (i j : Int) : Bool := decide (-(2 ^ 64) < i ∧ i < 2 ^ 64) || decide (-(2 ^ 64) < j ∧ j < 2 ^ 64)
def divOk (j : Int) : Bool := decide (0 < j ∧ j < 2 ^ 2000)
def powOk (i j : Int) : Bool := decide (0 ≤ j ∧ j ≤ 1000 ∧ i.natAbs < 2 ^ 64)
def binI : BOp → Int → Int → Option Int
  | .add, i, j => some (i + j)
  | .sub, i, j => some (i - j)
  | .mul, i, j => if mulOk i j then some (i * j) else none
  | .fdiv, i, j => if divOk j then some (i / j) else none
  | .mod, i, j => if 0 < j then some (i % j) else none
  | .pow, i, j => if powOk i j then some (i ^ j.toNat) else none
def binR : BOp → R → R → Option R
  | o, .v (.int i), .v (.int j) => (binI o i j).map fun k => .v (.int k)
  | .add, .v (.str x), .v (.str y) => if small (x.length + y.length) then some (.v (.str (x ++ y))) else none
  | .add, .v (.tup xs), .v (.tup ys) => if small (xs.length + ys.length) then some (.v (.tup (xs ++ ys))) else none
  | .add, a, b => match a.rd, b.rd with
    | .lst xs, .lst ys => if small (xs.length + ys.length) then some (.nl (xs ++ ys)) else none
    | _, _ => none
  | .mul, .v (.tup xs), .v (.int k) => if decide (0 ≤ k ∧ k ≤ 1000) && decide (xs.length ≤ 1000) then some (.v (.tup (List.replicate k.toNat xs).flatten)) else none
  | .mul, a, .v (.int k) => match a.rd with
    | .lst xs => if decide (0 ≤ k ∧ k ≤ 1000) && decide (xs.length ≤ 1000) then some (.nl (List.replicate k.toNat xs).flatten) else none
    | _ => none
  | _, _, _ => none
mutual
def D.py : D → PyData
  | .non => .none
  | .bl b => .bool b
  | .int i => .int i
  | .str x => .str x
  | .tup xs => .tuple (D.pyL xs)
  | .lst xs => .list (D.pyL xs)
  | .obj _ => .none
def D.pyL : List D → List PyData
  | [] => []
  | d :: ds => D.py d :: D.pyL ds
end
/-- order of plain data -/
def D.ltb (x y : D) : Option Bool := if x.okN 50 && y.okN 50 && PySem.W.alike x.py y.py then some (PySem.W.dataLt x.py y.py) else none
def D.isNon : D → Bool
  | .non => true
  | _ => false
def cmpR : COp → R → R → Option Bool
  | .eq, a, b => if a.rd.okN 60 && b.rd.okN 60 then some (D.eqb a.rd b.rd) else none
  | .ne, a, b => if a.rd.okN 60 && b.rd.okN 60 then some (!D.eqb a.rd b.rd) else none
  | .lt, .v (.int i), .v (.int j) => some (decide (i < j))
  | .le, .v (.int i), .v (.int j) => some (decide (i ≤ j))
  | .gt, .v (.int i), .v (.int j) => some (decide (j < i))
  | .ge, .v (.int i), .v (.int j) => some (decide (j ≤ i))
  | .lt, .v (.tup xs), .v (.tup ys) => D.ltb (.tup xs) (.tup ys)
  | .isin, a, b => match b.rd with
    | .str y => match a with
      | .v (.str x) => some (!(Builtin.Str.occurrences y x 0 y.length 1).isEmpty)
      | _ => none
    | d => match d.seq with
      | some xs => if a.rd.okN 50 && xs.all (D.okN 50) then some (xs.any fun z => D.eqb z a.rd) else none
      | none => none
  | .notin, a, b => match b.rd with
    | .str y => match a with
      | .v (.str x) => some (!!(Builtin.Str.occurrences y x 0 y.length 1).isEmpty)
      | _ => none
    | d => match d.seq with
      | some xs => if a.rd.okN 50 && xs.all (D.okN 50) then some (!xs.any fun z => D.eqb z a.rd) else none
      | none => none
  | .is_, .v d, .v .non => some d.isNon
  | .is_, .nl _, .v .non => some false
  | .is_, .v (.bl x), .v (.bl y) => some (decide (x = y))
  | .isnot, .v d, .v .non => some (!d.isNon)
  | .isnot, .nl _, .v .non => some true
  | .isnot, .v (.bl x), .v (.bl y) => some (!decide (x = y))
  | _, _, _ => none
def tyD : Ty → D → Bool
  | .int, .int _ => true
  | .int, .bl _ => true
  | .bool, .bl _ => true
  | .tuple, .tup _ => true
  | .str, .str _ => true
  | .list, .lst _ => true
  | _, _ => false
def D.noObj : D → Bool
  | .obj _ => false
  | _ => true
def lenD : D → Option Nat
  | .tup xs => some xs.length
  | .lst xs => some xs.length
  | .str x => if small x.length then some x.length else none
  | _ => none
def maxL : List Int → Option Int
  | [] => none
  | x :: r => some (r.foldl max x)
def minL : List Int → Option Int
  | [] => none
  | x :: r => some (r.foldl min x)
/-- sorted(xs): plain data, alike, all tuples or no tuples at all -/
def srtOk (ds : List D) : Bool := ds.all (fun d => d.okN 50) && ds.all (fun d => ds.all fun d' => PySem.W.alike d.py d'.py) &&
  (ds.all (fun d => match d with | .tup _ => true | _ => false) || ds.all (fun d => match d with | .bl _ => true | .int _ => true | .str _ => true | _ => false)) && small ds.length
def srtD (ds : List D) : Option (List D) := if srtOk ds then some (ds.mergeSort (PySem.W.dataLe false D.py)) else none
def revD (lo : Option Nat) (xs : List D) : List D := (xs.take (match lo with | none => xs.length | some k => k + 1)).reverse
def biR (srt : List D → Option (List D)) : Bi → List R → MH → Option R
  | .len, [.v (.obj i)], h => match h[i]? with
    | some (.lst xs) => some (.v (.int xs.length))
    | _ => none
  | .len, [a], _ => (lenD a.rd).map fun n => .v (.int n)
  | .sum, [a], _ => (a.rd.seq.bind ints?).map fun ns => .v (.int ns.sum)
  | .all, [a], _ => match a.rd with
    | .lst xs => (bls? xs).map fun bs => .v (.bl (bs.all id))
    | _ => none
  | .any, [a], _ => match a.rd with
    | .lst xs => (bls? xs).map fun bs => .v (.bl (bs.any id))
    | _ => none
  | .min, [.v (.int i), .v (.int j)], _ => some (.v (.int (if j < i then j else i)))
  | .max, [.v (.int i), .v (.int j)], _ => some (.v (.int (if j > i then j else i)))
  | .min, [a], _ => ((a.rd.seq.bind ints?).bind minL).map fun n => .v (.int n)
  | .max, [a], _ => ((a.rd.seq.bind ints?).bind maxL).map fun n => .v (.int n)
  | .tuple, [a], _ => a.rd.seq.map fun xs => .v (.tup xs)
  | .list, [a], _ => a.rd.seq.map fun xs => .nl xs
  | .sorted, [a], _ => match a.rd.seq with
    | some xs => (srtD xs).map fun ys => .nl ys
    | none => none
  | .str, [.v (.int i)], _ => if decide (i.natAbs.log2 < 1920) then some (.v (.str (Str.ofString (toString i)))) else none
  | .int, [.v (.str x)], _ => if decide (x.length ≤ 640) then (PySem.intText? x).map fun n => .v (.int n) else none
  | _, _, _ => none
def mtR : Mt → R → List R → Option R
  | .count, a, [b] => match a.rd with
    | .lst xs => if b.rd.okN 50 && xs.all (D.okN 50) then some (.v (.int ((xs.countP fun z => D.eqb z b.rd : Nat) : Int))) else none
    | _ => none
  | .index, a, [b] => match a.rd with
    | .lst xs => if b.rd.okN 50 && xs.all (D.okN 50) then (xs.findIdx? fun z => D.eqb z b.rd).map fun n => .v (.int n) else none
    | _ => none
  | .join, .v (.str x), [b] => match b.rd with
    | .lst ys => match strs? ys with
      | some ss => if decide ((ss.map (·.length)).sum + ss.length * x.length ≤ 1000000) then some (.v (.str (PySem.Txt.join x ss))) else none
      | none => none
    | _ => none
  | .split, .v (.str x), [.v (.str y)] => if decide ((y.length == 0) = false ∧ x.length ≤ 1000000) then some (.nl ((PySem.Txt.split x y).map .str)) else none
  | .upper, .v (.str x), [] => if decide (x.length ≤ 1000000) then some (.v (.str (PySem.Txt.upper x))) else none
  | _, _, _ => none
def mtPre : Mt → D → Bool
  | .index, .lst _ => true
  | .count, .lst _ => true
  | .join, .str _ => true
  | .split, .str _ => true
  | .upper, .str _ => true
  | _, _ => false
def rngD (a b : Int) : List D := (List.range (b - a).toNat).map fun i => .int (a + (i : Nat))
def itemsR : IK → List R → Option (List D)
  | .seq, [a] => a.rd.seq
  | .rng, [.v (.int n)] => if decide (-(2 ^ 62) ≤ n ∧ n < 2 ^ 62) then some (rngD 0 n) else none
  | .rng, [.v (.int a), .v (.int b)] => if decide ((-(2 ^ 62) ≤ a ∧ a < 2 ^ 62) ∧ -(2 ^ 62) ≤ b ∧ b < 2 ^ 62) then some (rngD a b) else none
  | .enum, [a] => a.rd.seq.map fun xs => xs.zipIdx.map fun p => .tup [.int (p.2 : Nat), p.1]
  | .zip, [a, b] => a.rd.seq.bind fun xs => b.rd.seq.map fun ys => (xs.zip ys).map fun p => .tup [p.1, p.2]
  | .zip, [a, b, c] => a.rd.seq.bind fun xs => b.rd.seq.bind fun ys => c.rd.seq.map fun zs => (xs.zip (ys.zip zs)).map fun p => .tup [p.1, p.2.1, p.2.2]
  | _, _ => none
mutual
def asgT : Tg → D → SS → Option SS
  | .n j, d, ss => if j < ss.length then some (ss.set j (some (.v d))) else none
  | .t ts, .tup ds, ss => asgTs ts ds ss
  | .t _, _, _ => none
def asgTs : List Tg → List D → SS → Option SS
  | [], [], ss => some ss
  | t :: ts, d :: ds, ss => (asgT t d ss).bind (asgTs ts ds)
  | _, _, _ => none
end
def wipeS (ss : SS) : List Nat → SS
  | [] => ss
  | v :: vs => (wipeS ss vs).set v none
def readV (ss : SS) (j : Nat) : Option R := match ss[j]? with
  | some (some (.v d)) => some (.v d)
  | some (some (.own xs)) => some (.bw xs)
  | some (some (.bw xs)) => some (.bw xs)
  | _ => none
def toDs : List R → Option (List D)
  | [] => some []
  | r :: rs => r.toD.bind fun d => (toDs rs).map (d :: ·)
/-- the items of a comprehension -/
def evItems (f : D → MH → O (Option D)) : List D → List D → MH → O (List D)
  | [], acc, h => .ok acc h
  | d :: ds, acc, h => match f d h with
    | .ok (some y) h1 => if small acc.length then evItems f ds (acc ++ [y]) h1 else .no
    | .ok none h1 => evItems f ds acc h1
    | _ => .no
structure Cfg where
  cf : Nat → List Sl → MH → O R
  gc : Nat → Option D
  srt : List D → Option (List D)
  wf : Nat
  wh : Nat → Option D
def blE (r : R) : Option Bool := match r with
  | .v (.bl b) => some b
  | _ => none
def objF (ss : SS) (h : MH) (j : Nat) (f : Str) : Option (Nat × Fd) := match ss[j]? with
  | some (some (.v (.obj i))) => match h[i]? with
    | some (.ins _ fs) => (fs.lookup f).map fun x => (i, x)
    | _ => none
  | _ => none
def fldV (ss : SS) (h : MH) (j : Nat) (f : Str) : Option D := match objF ss h j f with
  | some (_, .v d) => some d
  | _ => none
def fldL (ss : SS) (h : MH) (j : Nat) (f : Str) : Option (List D) := match objF ss h j f with
  | some (_, .own _ xs) => some xs
  | _ => none
/-- an instance of the class c, without a field m -/
def insAt (ss : SS) (h : MH) (j c : Nat) (m : Str) : Option Nat := match ss[j]? with
  | some (some (.v (.obj i))) => match h[i]? with
    | some (.ins c' fs) => if c' = c ∧ (fs.lookup m).isNone = true then some i else none
    | _ => none
  | _ => none
/-- a plain index: a name or a written number -/
def simpI (ss : SS) : E → Option Int
  | .v j => match ss[j]? with
    | some (some (.v (.int i))) => some i
    | _ => none
  | .int i => some i
  | .neg (.int i) => some (-i)
  | _ => none
/-- the dict that a name holds: its number, how often it changed, its pairs -/
def dicAt (ss : SS) (h : MH) (j : Nat) : Option (Nat × Nat × List (D × D)) := match ss[j]? with
  | some (some (.v (.obj i))) => match h[i]? with
    | some (.dic n kvs) => some (i, n, kvs)
    | _ => none
  | _ => none
def dget (kvs : List (D × D)) (k : D) : Option D := (kvs.find? fun p => D.eqb p.1 k).map (·.2)
def dput (kvs : List (D × D)) (k v : D) : List (D × D) := if (kvs.any fun p => D.eqb p.1 k) = true then kvs.map (fun p => if D.eqb p.1 k = true then (p.1, v) else p) else kvs ++ [(k, v)]
def dixR (kvs : List (D × D)) : R → Option R
  | .v d => if d.keyB = true then (dget kvs d).map .v else none
  | _ => none
def dinR (b : Bool) (kvs : List (D × D)) : R → Option R
  | .v d => if d.keyB = true then some (.v (.bl ((dget kvs d).isSome == b))) else none
  | _ => none
def intOpt : R → Option (Option Int)
  | .v (.int i) => some (some i)
  | _ => none
/-- an item of a sequence or of a text -/
def ixR (d : D) (k : Int) : Option R := match d with
  | .str z => if small z.length = true then (L2.atI z.cps.toList k).map fun c => .v (.str ⟨#[c]⟩) else none
  | d => (d.seq.bind fun xs => atD xs k).map .v
/-- a text of one letter, that many times -/
def mulSOk (x : Str) (k : Int) : Bool := decide (1 < k ∧ k < 2 ^ 31) && (x.length == 1) && !Builtin.Str.tooLong (x.length * k.toNat)
mutual
def evE (G : Cfg) : E → SS → MH → O R
  | .non, _, h => .ok (.v .non) h
  | .bl b, _, h => .ok (.v (.bl b)) h
  | .int i, _, h => .ok (.v (.int i)) h
  | .str x, _, h => .ok (.v (.str x)) h
  | .v j, ss, h => O.of h (readV ss j)
  | .g c, _, h => O.of h ((G.gc c).map .v)
  | .bin o a b, ss, h => (evE G a ss h).bind fun x h => (evE G b ss h).bind fun y h => O.of h (binR o x y)
  | .neg a, ss, h => (evE G a ss h).bind fun x h => O.of h (match x with | .v (.int i) => some (.v (.int (-i))) | _ => none)
  | .cmp o a b, ss, h => (evE G a ss h).bind fun x h => (evE G b ss h).bind fun y h => O.of h ((cmpR o x y).map fun t => .v (.bl t))
  | .chn o o' a b c, ss, h => (evE G a ss h).bind fun x h => (evE G b ss h).bind fun y h => (O.of h (cmpR o x y)).bind fun t h => match t with
    | true => (evE G c ss h).bind fun z h => O.of h ((cmpR o' y z).map fun t => .v (.bl t))
    | false => .ok (.v (.bl false)) h
  | .and a b, ss, h => (evE G a ss h).bind fun x h => (O.of h (blE x)).bind fun t h => match t with
    | true => evE G b ss h
    | false => .ok (.v (.bl false)) h
  | .or a b, ss, h => (evE G a ss h).bind fun x h => (O.of h (blE x)).bind fun t h => match t with
    | true => .ok (.v (.bl true)) h
    | false => evE G b ss h
  | .not a, ss, h => (evE G a ss h).bind fun x h => O.of h ((blE x).map fun t => .v (.bl (!t)))
  | .ite c a b, ss, h => (evE G c ss h).bind fun x h => (O.of h (blE x)).bind fun t h => match t with
    | true => evE G a ss h
    | false => evE G b ss h
  | .tup es, ss, h => (evL G es ss h).bind fun rs h => O.of h ((toDs rs).bind fun ds => if small ds.length then some (.v (.tup ds)) else none)
  | .lst es, ss, h => (evL G es ss h).bind fun rs h => O.of h ((toDs rs).bind fun ds => if small ds.length then some (.nl ds) else none)
  | .ix a i, ss, h => (evE G a ss h).bind fun x h => (evE G i ss h).bind fun y h => O.of h (match y with
    | .v (.int k) => ixR x.rd k
    | _ => none)
  | .sl a lo hi, ss, h => (evE G a ss h).bind fun x h => (evO G lo ss h).bind fun l h => (evO G hi ss h).bind fun u h => O.of h (match x.rd with
      | .lst xs => some (.nl (cutD xs l u))
      | .tup xs => some (.v (.tup (cutD xs l u)))
      | .str z => if small z.length = true then some (.v (.str (PySem.Txt.slice z l u))) else none
      | _ => none)
  | .srep a b, ss, h => (evE G a ss h).bind fun x h => (evE G b ss h).bind fun y h => O.of h (match x, y with
    | .v (.str z), .v (.int k) => if mulSOk z k = true then some (.v (.str (PySem.Txt.mul z k))) else none
    | _, _ => none)
  | .rgl t a, ss, h => (evE G a ss h).bind fun x h => O.of h (match x with
    | .v (.int n) => if decide (0 ≤ n ∧ n ≤ 1000) then some (match t with | true => .v (.tup (rngD 0 n)) | false => .nl (rngD 0 n)) else none
    | _ => none)
  | .rev a lo, ss, h => (evE G a ss h).bind fun x h => O.of h (match x.rd with
    | .lst xs => some (.nl (revD lo xs))
    | .tup xs => some (.v (.tup (revD lo xs)))
    | _ => none)
  | .call f es, ss, h => (evL G es ss h).bind fun rs h => G.cf f (rs.map R.arg) h
  | .make c f es, ss, h => (evL G es ss h).bind fun rs h => (G.cf f (.v (.obj h.length) :: rs.map R.arg) (h ++ [.ins c []])).bind fun r h1 => match r with
    | .v .non => .ok (.v (.obj h.length)) h1
    | _ => .no
  | .meth j c m f es, ss, h => match insAt ss h j c m with
    | some i => (evL G es ss h).bind fun rs h => G.cf f (.v (.obj i) :: rs.map R.arg) h
    | none => .no
  | .bi f es, ss, h => (evL G es ss h).bind fun rs h => O.of h (biR G.srt f rs h)
  | .mt m a es, ss, h => (evE G a ss h).bind fun x h => match mtPre m x.rd with
    | true => (evL G es ss h).bind fun rs h => O.of h (mtR m x rs)
    | false => .no
  | .isi a t, ss, h => (evE G a ss h).bind fun x h => O.of h (if x.rd.noObj then some (.v (.bl (tyD t x.rd))) else none)
  | .fld j f, ss, h => O.of h ((fldV ss h j f).map .v)
  | .fix j f i, ss, h => O.of h ((fldL ss h j f).bind fun xs => (simpI ss i).bind fun k => (atD xs k).map .v)
  | .flen j f, ss, h => O.of h ((fldL ss h j f).map fun xs => .v (.int xs.length))
  | .fcut j f lo hi, ss, h => O.of h ((fldL ss h j f).map fun xs => .nl (cutD xs lo hi))
  | .comp k src t own ifs e, ss, h => (evL G src ss h).bind fun rs h => (O.of h (itemsR k rs)).bind fun ds h =>
      (evItems (fun d h => match asgT t d (wipeS ss own) with
        | none => .no
        | some ss1 => (evT G ifs ss1 h).bind fun b h => match b with
          | true => (evE G e ss1 h).bind fun r h => O.of h (r.toD.map some)
          | false => .ok none h) ds [] h).bind fun xs h => .ok (.nl xs) h
  | .dct0, _, h => .ok (.v (.obj h.length)) (h ++ [.dic 0 []])
  | .dct1 k v, ss, h => (evE G k ss h).bind fun x h => (evE G v ss h).bind fun y h => match x, y.toD with
    | .v d, some e => if d.keyB = true then .ok (.v (.obj h.length)) (h ++ [.dic 0 [(d, e)]]) else .no
    | _, _ => .no
  | .dix j i, ss, h => match dicAt ss h j with
    | some _ => (evE G i ss h).bind fun y h => match dicAt ss h j with
      | some (_, _, kvs) => O.of h (dixR kvs y)
      | none => .no
    | none => .no
  | .din b i j, ss, h => (evE G i ss h).bind fun y h => match dicAt ss h j with
    | some (_, _, kvs) => O.of h (dinR b kvs y)
    | none => .no
  | .dsrt j, ss, h => match dicAt ss h j with
    | some (_, _, kvs) => O.of h ((srtD (kvs.map (·.1))).map .nl)
    | none => .no
def evL (G : Cfg) : List E → SS → MH → O (List R)
  | [], _, h => .ok [] h
  | e :: es, ss, h => (evE G e ss h).bind fun r h => (evL G es ss h).bind fun rs h => .ok (r :: rs) h
def evO (G : Cfg) : Option E → SS → MH → O (Option Int)
  | none, _, h => .ok none h
  | some e, ss, h => (evE G e ss h).bind fun r h => O.of h (intOpt r)
def evT (G : Cfg) : List E → SS → MH → O Bool
  | [], _, h => .ok true h
  | [e], ss, h => (evE G e ss h).bind fun r h => O.of h (blE r)
  | _, _, _ => .no
end
end GV
set_option Elab.async false
set_option linter.all false
set_option maxRecDepth 100000
set_option maxHeartbeats 4000000
/-! GV3: statements, functions. -/
namespace GV
open PySem L2

inductive Fl where
  | nx (ss : SS) | rt (r : R)
def setSl (ss : SS) (j : Nat) (x : Sl) : Option SS := if j < ss.length then some (ss.set j (some x)) else none
def evFor (body : SS → MH → O Fl) (t : Tg) : List D → SS → MH → O Fl
  | [], ss, h => .ok (.nx ss) h
  | d :: ds, ss, h => (O.of h (asgT t d ss)).bind fun ss1 h => (body ss1 h).bind fun f h1 => match f with
    | .nx ss2 => evFor body t ds ss2 h1
    | .rt r => .ok (.rt r) h1
open Classical in
/-- the field still holds that list -/
noncomputable def sameF (i : Nat) (f : Str) (x : Fd) (h : MH) : Bool := match h[i]? with
  | some (.ins _ fs) => decide (fs.lookup f = some x)
  | _ => false
noncomputable def evForF (body : SS → MH → O Fl) (t : Tg) (i : Nat) (f : Str) (x : Fd) : List D → SS → MH → O Fl
  | [], ss, h => if sameF i f x h then .ok (.nx ss) h else .no
  | d :: ds, ss, h => if sameF i f x h then (O.of h (asgT t d ss)).bind fun ss1 h => (body ss1 h).bind fun f' h1 => match f' with
      | .nx ss2 => evForF body t i f x ds ss2 h1
      | .rt r => .ok (.rt r) h1
    else .no
open Classical in
/-- the dict stands as it was -/
noncomputable def sameD (i n : Nat) (kvs : List (D × D)) (h : MH) : Bool := match h[i]? with
  | some (.dic n' kvs') => decide (n' = n ∧ kvs' = kvs)
  | _ => false
noncomputable def evForD (body : SS → MH → O Fl) (t : Tg) (i n : Nat) (kvs : List (D × D)) : List D → SS → MH → O Fl
  | [], ss, h => if sameD i n kvs h then .ok (.nx ss) h else .no
  | d :: ds, ss, h => if sameD i n kvs h then (O.of h (asgT t d ss)).bind fun ss1 h => (body ss1 h).bind fun f' h1 => match f' with
      | .nx ss2 => evForD body t i n kvs ds ss2 h1
      | .rt r => .ok (.rt r) h1
    else .no
def evWhile (c : SS → MH → O Bool) (body : SS → MH → O Fl) : Nat → SS → MH → O Fl
  | 0, _, _ => .no
  | n + 1, ss, h => (c ss h).bind fun b h => match b with
    | true => (body ss h).bind fun f h1 => match f with
      | .nx ss2 => evWhile c body n ss2 h1
      | .rt r => .ok (.rt r) h1
    | false => .ok (.nx ss) h
def parS : List Nat → List D → SS → Option SS
  | [], [], ss => some ss
  | j :: js, d :: ds, ss => (setSl ss j (.v d)).bind (parS js ds)
  | _, _, _ => none
/-- one name of two takes a value, as its own list or as data -/
def putS (o : Bool) (j : Nat) (r : R) (ss : SS) : Option SS := match o, r with
  | true, .nl xs => setSl ss j (.own xs)
  | true, _ => none
  | false, r => r.toD.bind fun d => setSl ss j (.v d)
def idxN (n : Nat) (i : Int) : Option Nat := L2.ixN n i
def setFd (f : Str) (x : Fd) : List (Str × Fd) → List (Str × Fd)
  | [] => [(f, x)]
  | (g, y) :: r => if g = f then (g, x) :: r else (g, y) :: setFd f x r
def isOwnF (fs : List (Str × Fd)) (f : Str) : Bool := match fs.lookup f with
  | some (.own _ _) => true
  | _ => false
/-- a field takes plain data -/
def putV (h : MH) (i : Nat) (f : Str) (d : D) : Option MH := match h[i]? with
  | some (.ins c fs) => if fs.length ≤ 100 ∧ isOwnF fs f = false then some (h.set i (.ins c (setFd f (.v d) fs))) else none
  | _ => none
/-- a field takes a new list -/
def putO (h : MH) (i : Nat) (f : Str) (xs : List D) : Option MH := match h[i]? with
  | some (.ins c fs) => if fs.length ≤ 100 then match fs.lookup f with
    | some (.own n _) => some (h.set i (.ins c (setFd f (.own (n + 1) xs) fs)))
    | none => some (h.set i (.ins c (setFd f (.own 0 xs) fs)))
    | _ => none
    else none
  | _ => none
/-- a field's list changes -/
def putL (h : MH) (i : Nat) (f : Str) (xs : List D) : Option MH := match h[i]? with
  | some (.ins c fs) => match fs.lookup f with
    | some (.own n _) => if (fs.map (·.1)).Nodup then some (h.set i (.ins c (setFd f (.own n xs) fs))) else none
    | _ => none
  | _ => none
def objAt (ss : SS) (j : Nat) : Option Nat := match ss[j]? with
  | some (some (.v (.obj i))) => some i
  | _ => none
def retR : R → Option R
  | .bw _ => none
  | r => some r
def lstOnly : R → Option (List D)
  | .nl xs => some xs
  | .bw xs => some xs
  | _ => none
def popL (xs : List D) : List R → Option (D × List D)
  | [] => (xs[xs.length - 1]?).map fun d => (d, xs.dropLast)
  | [.v (.int i)] => if 0 ≤ i ∧ i < xs.length ∧ i < 1000000 then (xs[i.toNat]?).map fun d => (d, xs.eraseIdx i.toNat) else none
  | _ => none
/-- a list grows: one of the frame's own, or one by reference -/
def appTo (ss : SS) (j : Nat) (ys : List D) (h : MH) : O Fl := match ss[j]? with
  | some (some (.own xs)) => if small (xs.length + ys.length) then O.of h ((setSl ss j (.own (xs ++ ys))).map .nx) else .no
  | some (some (.v (.obj i))) => match h[i]? with
    | some (.lst xs) => if small (xs.length + ys.length) then .ok (.nx ss) (h.set i (.lst (xs ++ ys))) else .no
    | _ => .no
  | _ => .no
/-- the name holds a list that may grow -/
def isLst (ss : SS) (j : Nat) (h : MH) : Bool := match ss[j]? with
  | some (some (.own _)) => true
  | some (some (.v (.obj i))) => match h[i]? with
    | some (.lst _) => true
    | _ => false
  | _ => false
mutual
noncomputable def evS (G : Cfg) : S → SS → MH → O Fl
  | .asg t e, ss, h => (evE G e ss h).bind fun r h => O.of h ((r.toD.bind fun d => asgT t d ss).map .nx)
  | .asgO j e, ss, h => (evE G e ss h).bind fun r h => match r with
    | .nl xs => O.of h ((setSl ss j (.own xs)).map .nx)
    | _ => .no
  | .asgR j e, ss, h => (evE G e ss h).bind fun r h => match r with
    | .nl xs => match setSl ss j (.v (.obj h.length)) with
      | some ss' => .ok (.nx ss') (h ++ [.lst xs])
      | none => .no
    | _ => .no
  | .par js es, ss, h => (evL G es ss h).bind fun rs h => O.of h (((toDs rs).bind fun ds => parS js ds ss).map .nx)
  | .par2 o o' i j a b, ss, h => (evE G a ss h).bind fun r h => (evE G b ss h).bind fun r' h => O.of h (((putS o i r ss).bind (putS o' j r')).map .nx)
  | .par3 o o' o'' i j l a b c, ss, h => (evE G a ss h).bind fun r h => (evE G b ss h).bind fun r' h => (evE G c ss h).bind fun r'' h => O.of h ((((putS o i r ss).bind (putS o' j r')).bind (putS o'' l r'')).map .nx)
  | .setT j a b e, ss, h => match ss[j]? with
    | some (some (.own xs)) => (evE G e ss h).bind fun r h => match r.toD with
      | some (.tup [d1, d2]) => match simpI ss (.v a), simpI ss (.v b) with
        | some k1, some k2 => match idxN xs.length k1, idxN xs.length k2 with
          | some n1, some n2 => O.of h ((setSl ss j (.own ((xs.set n1 d1).set n2 d2))).map .nx)
          | _, _ => .no
        | _, _ => .no
      | _ => .no
    | _ => .no
  | .setI j i e, ss, h => match ss[j]? with
    | some (some (.own xs)) => (evE G e ss h).bind fun r h => match r.toD with
      | some d => (evE G i ss h).bind fun k h => match k with
        | .v (.int k) => match idxN xs.length k with
          | some n => O.of h ((setSl ss j (.own (xs.set n d))).map .nx)
          | none => .no
        | _ => .no
      | none => .no
    | _ => .no
  | .par4 o o' o'' o3 i j l m a b c d, ss, h => (evE G a ss h).bind fun r h => (evE G b ss h).bind fun r' h => (evE G c ss h).bind fun r'' h => (evE G d ss h).bind fun r3 h => O.of h (((((putS o i r ss).bind (putS o' j r')).bind (putS o'' l r'')).bind (putS o3 m r3)).map .nx)
  | .setD j i e, ss, h => (evE G e ss h).bind fun r h => match r.toD with
    | some d => match dicAt ss h j with
      | some _ => (evE G i ss h).bind fun k h => match k, dicAt ss h j with
        | .v kd, some (a, n, kvs) => if kd.keyB = true ∧ small (kvs.length + 1) = true then .ok (.nx ss) (h.set a (.dic (n + 1) (dput kvs kd d))) else .no
        | _, _ => .no
      | none => .no
    | none => .no
  | .forD j t b, ss, h => match dicAt ss h j with
    | some (i, n, kvs) => evForD (evB G b) t i n kvs (kvs.map (·.1)) ss h
    | none => .no
  | .augI j o i e, ss, h => match ss[j]? with
    | some (some (.own xs)) => (evE G i ss h).bind fun k h => match k with
      | .v (.int k) => match idxN xs.length k, atD xs k with
        | some n, some (.int x) => (evE G e ss h).bind fun r h => match r with
          | .v (.int y) => match o with
            | .add => O.of h ((setSl ss j (.own (xs.set n (.int (x + y))))).map .nx)
            | .sub => O.of h ((setSl ss j (.own (xs.set n (.int (x - y))))).map .nx)
            | _ => .no
          | _ => .no
        | _, _ => .no
      | _ => .no
    | _ => .no
  | .aug j o e, ss, h => match ss[j]? with
    | some (some (.v (.int x))) => (evE G e ss h).bind fun r h => match r, o with
      | .v (.int y), .add => O.of h ((setSl ss j (.v (.int (x + y)))).map .nx)
      | .v (.int y), .sub => O.of h ((setSl ss j (.v (.int (x - y)))).map .nx)
      | _, _ => .no
    | _ => .no
  | .app j e, ss, h => match isLst ss j h with
    | true => (evE G e ss h).bind fun r h => match r.toD with
      | some d => appTo ss j [d] h
      | none => .no
    | false => .no
  | .ext j e, ss, h => match isLst ss j h with
    | true => (evE G e ss h).bind fun r h => match r with
      | .nl ys => appTo ss j ys h
      | _ => .no
    | false => .no
  | .pop t j es, ss, h => (evL G es ss h).bind fun rs h => match ss[j]? with
    | some (some (.own xs)) => match popL xs rs with
      | some (d, ys) => O.of h (((setSl ss j (.own ys)).bind (asgT t d)).map .nx)
      | none => .no
    | _ => .no
  | .appPop j l e, ss, h => match ss[j]?, ss[l]? with
    | some (some (.own ys)), some (some (.own xs)) => (evE G e ss h).bind fun r h => match popL xs [r] with
      | some (d, zs) => if j ≠ l ∧ small (ys.length + 1) = true then O.of h (((setSl ss l (.own zs)).bind fun ss1 => setSl ss1 j (.own (ys ++ [d]))).map .nx) else .no
      | none => .no
    | _, _ => .no
  | .popX l e, ss, h => match ss[l]? with
    | some (some (.own xs)) => (evE G e ss h).bind fun r h => match popL xs [r] with
      | some (_, zs) => O.of h ((setSl ss l (.own zs)).map .nx)
      | none => .no
    | _ => .no
  | .fldV j f e, ss, h => (evE G e ss h).bind fun r h => match r.toD, objAt ss j with
    | some d, some i => match putV h i f d with
      | some h' => .ok (.nx ss) h'
      | none => .no
    | _, _ => .no
  | .fldO j f e, ss, h => (evE G e ss h).bind fun r h => match r, objAt ss j with
    | .nl xs, some i => match putO h i f xs with
      | some h' => .ok (.nx ss) h'
      | none => .no
    | _, _ => .no
  | .fldSet j f i e, ss, h => (evE G e ss h).bind fun r h => match r.toD, simpI ss i, objF ss h j f with
    | some d, some k, some (a, .own n xs) => match idxN xs.length k with
      | some m => match putL h a f (xs.set m d) with
        | some h' => .ok (.nx ss) h'
        | none => .no
      | none => .no
    | _, _, _ => .no
  | .fldApp j f e, ss, h => match objF ss h j f with
    | some (a, .own n xs) => (evE G e ss h).bind fun r h => match r.toD, objF ss h j f with
      | some d, some (a', .own n' xs') => if n = n' ∧ small (xs'.length + 1) = true then match putL h a' f (xs' ++ [d]) with
          | some h' => .ok (.nx ss) h'
          | none => .no
        else .no
      | _, _ => .no
    | _ => .no
  | .expr e, ss, h => (evE G e ss h).bind fun _ h => .ok (.nx ss) h
  | .ifs c a b, ss, h => (evE G c ss h).bind fun r h => (O.of h (blE r)).bind fun t h => match t with
    | true => evB G a ss h
    | false => evB G b ss h
  | .for_ k src t b, ss, h => (evL G src ss h).bind fun rs h => (O.of h (itemsR k rs)).bind fun ds h => match toDs rs with
    | some _ => evFor (evB G b) t ds ss h
    | none => .no
  | .forF k j f t b, ss, h => match objF ss h j f with
    | some (i, .own n xs) => match itemsR k [.nl xs] with
      | some ds => evForF (evB G b) t i f (.own n xs) ds ss h
      | none => .no
    | _ => .no
  | .while_ c b, ss, h => evWhile (fun ss h => (evE G c ss h).bind fun r h => O.of h (blE r)) (evB G b) G.wf ss h
  | .ret e, ss, h => (evE G e ss h).bind fun r h => O.of h ((retR r).map .rt)
  | .retN, _, h => .ok (.rt (.v .non)) h
  | .retO j, ss, h => match ss[j]? with
    | some (some (.own xs)) => .ok (.rt (.nl xs)) h
    | _ => .no
  | .raise c, _, h => .ex c h
  | .tryW e i, ss, h => if i < ss.length then (match evE G e ss h with
    | .ok r h' => O.of h' ((retR r).map .rt)
    | .ex c h' => (match G.wh c with
      | some d => .ok (.rt (.v d)) h'
      | none => .no)
    | .no => .no) else .no
  | .pass, ss, h => .ok (.nx ss) h
  | .wall, _, _ => .no
  | .frz j, ss, h => match ss[j]? with
    | some (some (.own xs)) => O.of h ((setSl ss j (.v (.lst xs))).map .nx)
    | _ => .no
noncomputable def evB (G : Cfg) : List S → SS → MH → O Fl
  | [], ss, h => .ok (.nx ss) h
  | s :: r, ss, h => (evS G s ss h).bind fun f h => match f with
    | .nx ss' => evB G r ss' h
    | .rt x => .ok (.rt x) h
end
structure FD where
  n : Nat
  p : Nat
  body : List S
def R.pure : R → Bool
  | .v d => d.okN 60
  | .nl xs => xs.all (D.okN 60)
  | .bw _ => false
def Fd.pure : Fd → Bool
  | .v d => d.okN 60
  | .own _ xs => xs.all (D.okN 60)
def MO.pure : MO → Bool
  | .lst xs => xs.all (D.okN 60)
  | .ins _ fs => fs.all fun p => p.2.pure
  | .dic _ kvs => kvs.all fun p => p.1.okN 60 && p.2.okN 60
def finish (n : Nat) : O Fl → O R
  | .ok (.rt r) h => if h.length = n then .ok r h else if r.pure && (h.take n).all MO.pure then .ok r (h.take n) else .ok r h
  | .ok (.nx _) h => if h.length = n then .ok (.v .non) h else if (h.take n).all MO.pure then .ok (.v .non) (h.take n) else .no
  | .ex c h => if h.length = n then .ex c h else if (h.take n).all MO.pure then .ex c (h.take n) else .no
  | .no => .no
def startS (n : Nat) (args : List Sl) : SS := args.map some ++ List.replicate (n - args.length) none
def whAt (wh : Nat → Option D) : Nat → Nat → Option D
  | 0, _ => none
  | _ + 1, c => wh c
noncomputable def evCall (P : Nat → Option FD) (gc : Nat → Option D) (srt : List D → Option (List D)) (wf : Nat) (wh : Nat → Option D) : Nat → Nat → List Sl → MH → O R
  | 0, _, _, _ => .no
  | k + 1, f, args, h => match P f with
    | none => .no
    | some fd => if args.length = fd.p then finish h.length (evB ⟨evCall P gc srt wf wh k, gc, srt, wf, whAt wh k⟩ fd.body (startS fd.n args) h) else .no
end GV
set_option Elab.async false
set_option linter.all false
set_option maxRecDepth 100000
set_option maxHeartbeats 4000000
/-! GV4: readings by the evaluator; how they compose. -/
namespace GV
open PySem L2

structure Tab where
  fn : Nat → Option Str
  gn : List Str
  cn : List (Nat × Str)
  wh : Option Str
  be : Str
  mt : Nat → Option (Nat × Str)
  ct : Nat → Option (Str × Nat)
  fl : List Str
structure Stat where
  P : Program
  w : World
  K : PySem.W.Frag
  mg : Str → Option Value
  base : Heap
  G : Cfg
  cl : Cl
  xc : Nat → Value
  T : Tab

section
variable (A : Stat)
abbrev WOkA (W : Wd) (h : MH) (H : Hp) : Prop := WOk A.K A.cl W h H
/-- what is wanted of an outcome -/
def PostR (W : Wd) (H : Hp) (Wx : WX) (σ : St) {α : Type} (T : Wd → Hp → α → Prop) : O α → Prop
  | .ok r h' => ∀ W' H', Ext W H W' H' → WOkA A W' h' H' → T W' H' r
  | .ex c h' => ∀ W' H', Ext W H W' H' → WOkA A W' h' H' → Wx (A.xc c) none σ H'
  | .no => False
abbrev TR (H : Hp) (Q : VK) : Wd → Hp → R → Prop := fun W' H' r => ∀ v, RRel A.K W' H H' v r → Q v H'
def tE (Wx : WX) (e : E) : TE := fun σ H Q => ∃ W h oA ss, WOkA A W h H ∧ SRel A.K W H oA ss σ ∧ PostR A W H Wx σ (TR A H Q) (evE A.G e ss h)
def RL (K : PySem.W.Frag) (W' : Wd) (H H' : Hp) : List V → List R → Prop := Paired (RRel K W' H H')
abbrev TRL (H : Hp) (Q : List V → Hp → Prop) : Wd → Hp → List R → Prop := fun W' H' rs => ∀ vs, Paired (RRel A.K W' H H') vs rs → Q vs H'
def tA (Wx : WX) (es : List E) : TA := fun σ H Q => ∃ W h oA ss, WOkA A W h H ∧ SRel A.K W H oA ss σ ∧ PostR A W H Wx σ (TRL A H Q) (evL A.G es ss h)
def tT (Wx : WX) (e : E) : TT := fun σ H Q => ∃ W h oA ss, WOkA A W h H ∧ SRel A.K W H oA ss σ ∧ PostR A W H Wx σ (fun _ H' b => Q b H') ((evE A.G e ss h).bind fun r h => O.of h (blE r))
def tTs (Wx : WX) (es : List E) : TT := fun σ H Q => ∃ W h oA ss, WOkA A W h H ∧ SRel A.K W H oA ss σ ∧ PostR A W H Wx σ (fun _ H' b => Q b H') (evT A.G es ss h)
end

section
variable {A : Stat} {W W1 W2 : Wd} {H H1 H2 : Hp} {h : MH} {Wx : WX} {σ : St} {α β : Type} {oA : Nat → Option Addr} {ss : SS}
theorem PostR.mono {T T' : Wd → Hp → α → Prop} {o : O α} (x : Ext W H W1 H1) (hT : ∀ W' H' r, T W' H' r → T' W' H' r) (p : PostR A W H Wx σ T o) : PostR A W1 H1 Wx σ T' o := by
  cases o with
  | ok r h' => exact fun W' H' y w => hT _ _ _ (p W' H' (x.trans y) w)
  | ex c h' => exact fun W' H' y w => p W' H' (x.trans y) w
  | no => exact p
theorem TR.back {Q : VK} (x : Ext W H W1 H1) : ∀ W' H' r, TR A H Q W' H' r → TR A H1 Q W' H' r := fun _ _ _ t v q => t v (q.back x)
theorem Paired.back {vs : List V} {rs : List R} {W' : Wd} {H' : Hp} (x : Ext W H W1 H1) (q : Paired (RRel A.K W' H1 H') vs rs) : Paired (RRel A.K W' H H') vs rs := Paired.mapP q fun _ _ z => z.back x
theorem Paired.fwd {vs : List V} {rs : List R} (ok : WOkA A W1 h H1) (x : Ext W1 H1 W2 H2) (q : Paired (RRel A.K W1 H H1) vs rs) : Paired (RRel A.K W2 H H2) vs rs := Paired.mapP q fun _ _ z => z.ext ok x
theorem TRL.back {Q : List V → Hp → Prop} (x : Ext W H W1 H1) : ∀ W' H' r, TRL A H Q W' H' r → TRL A H1 Q W' H' r := fun _ _ _ t v q => t v (Paired.back x q)

/-- an expression first, then what hangs on it -/
theorem tE_bind {e : E} {k : R → MH → O β} {T : Wd → Hp → β → Prop} {Q : VK} (w : WOkA A W h H) (s : SRel A.K W H oA ss σ) (p : PostR A W H Wx σ T ((evE A.G e ss h).bind k))
    (step : ∀ W1 H1 r h1 v, Ext W H W1 H1 → WOkA A W1 h1 H1 → SRel A.K W1 H1 oA ss σ → RRel A.K W1 H H1 v r → PostR A W1 H1 Wx σ T (k r h1) → PostR A W H Wx σ T (k r h1) → Q v H1) : tE A Wx e σ H Q := by
  refine ⟨W, h, oA, ss, w, s, ?_⟩
  cases q : evE A.G e ss h with
  | ok r h1 =>
    rw [q] at p
    exact fun W1 H1 x w1 v rr => step W1 H1 r h1 v x w1 (s.ext w x) rr (p.mono x fun _ _ _ t => t) p
  | ex c h1 => rw [q] at p; exact p
  | no => rw [q] at p; exact p
theorem tA_bindE {es : List E} {k : List R → MH → O β} {T : Wd → Hp → β → Prop} {Q : List V → Hp → Prop} (w : WOkA A W h H) (s : SRel A.K W H oA ss σ) (p : PostR A W H Wx σ T ((evL A.G es ss h).bind k))
    (step : ∀ W1 H1 rs h1 vs, evL A.G es ss h = .ok rs h1 → Ext W H W1 H1 → WOkA A W1 h1 H1 → SRel A.K W1 H1 oA ss σ → Paired (RRel A.K W1 H H1) vs rs → PostR A W1 H1 Wx σ T (k rs h1) → PostR A W H Wx σ T (k rs h1) → Q vs H1) : tA A Wx es σ H Q := by
  refine ⟨W, h, oA, ss, w, s, ?_⟩
  cases q : evL A.G es ss h with
  | ok r h1 =>
    rw [q] at p
    exact fun W1 H1 x w1 v rr => step W1 H1 r h1 v q x w1 (s.ext w x) rr (p.mono x fun _ _ _ t => t) p
  | ex c h1 => rw [q] at p; exact p
  | no => rw [q] at p; exact p
theorem tA_bind {es : List E} {k : List R → MH → O β} {T : Wd → Hp → β → Prop} {Q : List V → Hp → Prop} (w : WOkA A W h H) (s : SRel A.K W H oA ss σ) (p : PostR A W H Wx σ T ((evL A.G es ss h).bind k))
    (step : ∀ W1 H1 rs h1 vs, Ext W H W1 H1 → WOkA A W1 h1 H1 → SRel A.K W1 H1 oA ss σ → Paired (RRel A.K W1 H H1) vs rs → PostR A W1 H1 Wx σ T (k rs h1) → PostR A W H Wx σ T (k rs h1) → Q vs H1) : tA A Wx es σ H Q :=
  tA_bindE w s p fun W1 H1 rs h1 vs _ => step W1 H1 rs h1 vs
theorem evL_len {G : Cfg} : ∀ {es : List E} {ss : SS} {h h1 : MH} {rs : List R}, evL G es ss h = .ok rs h1 → rs.length = es.length
  | [], _, _, _, _, e => by rw [evL] at e; cases e; rfl
  | x :: xs, ss, h, h1, rs, e => by
    rw [evL] at e
    cases q : evE G x ss h with
    | ok r h2 =>
      rw [q] at e
      simp only [O.bind_ok] at e
      cases q2 : evL G xs ss h2 with
      | ok r2 h3 =>
        rw [q2] at e
        cases e
        simp [evL_len q2]
      | ex c h3 => rw [q2] at e; cases e
      | no => rw [q2] at e; cases e
    | ex c h3 => rw [q] at e; cases e
    | no => rw [q] at e; cases e
theorem O.bind_assoc {α β γ : Type} (o : O α) (k : α → MH → O β) (l : β → MH → O γ) : (o.bind k).bind l = o.bind fun a h => (k a h).bind l := by
  cases o <;> rfl
theorem tT_bind {e : E} {k : Bool → MH → O β} {T : Wd → Hp → β → Prop} {Q : Bool → Hp → Prop} (w : WOkA A W h H) (s : SRel A.K W H oA ss σ) (p : PostR A W H Wx σ T (((evE A.G e ss h).bind fun r h => O.of h (blE r)).bind k))
    (step : ∀ W1 H1 b h1, Ext W H W1 H1 → WOkA A W1 h1 H1 → SRel A.K W1 H1 oA ss σ → PostR A W1 H1 Wx σ T (k b h1) → Q b H1) : tT A Wx e σ H Q := by
  refine ⟨W, h, oA, ss, w, s, ?_⟩
  cases q : (evE A.G e ss h).bind fun r h => O.of h (blE r) with
  | ok r h1 =>
    rw [q] at p
    exact fun W1 H1 x w1 => step W1 H1 r h1 x w1 (s.ext w x) (p.mono x fun _ _ _ t => t)
  | ex c h1 => rw [q] at p; exact p
  | no => rw [q] at p; exact p
/-- at the end of a pure operation -/
theorem PostR.here {T : Wd → Hp → α → Prop} {a : α} (w : WOkA A W h H) (p : PostR A W H Wx σ T (.ok a h)) : T W H a := p W H (Ext.refl W H) w
theorem PostR.of_none {T : Wd → Hp → α → Prop} {C : Prop} (p : PostR A W H Wx σ T (O.of h (none : Option α))) : C := False.elim p
/-- a new tuple is laid -/
theorem Ext.laid {p : Addr} {o : HO} (n : H p = none) : Ext W H W (upd H p o) where
  keep := fun a u e _ => by rw [upd_ne (ne_of_none e n)]; exact e
  there := fun a e => by
    by_cases z : a = p
    · subst z; rw [upd_same]; exact Option.some_ne_none _
    · rw [upd_ne z]; exact e
  fpn := fun a z => .inl z
  ids := fun _ _ e => e
  fF := fun _ e => e
  fn := fun _ e => .inl e
  ob := fun _ _ e => e
theorem WOk.laid {K : PySem.W.Frag} {cl : Cl} {p : Addr} {o : HO} (w : WOk K cl W h H) (n : H p = none) : WOk K cl W h (upd H p o) where
  inj := w.inj
  dis := w.dis
  cov := fun a z => by
    rcases w.cov a z with ⟨xs, q⟩ | ⟨C, dx, fs, q⟩ | ⟨φ, q⟩
    · exact .inl ⟨xs, by rw [upd_ne (ne_of_none q n)]; exact q⟩
    · exact .inr (.inl ⟨C, dx, fs, by rw [upd_ne (ne_of_none q n)]; exact q⟩)
    · exact .inr (.inr ⟨φ, by rw [upd_ne (ne_of_none q n)]; exact q⟩)
  frz := fun a z => (Ext.laid (W := W) n).there a (w.frz a z)
  obj := fun i m e => by
    have q := w.obj i m e
    have x : Ext W H W (upd H p o) := Ext.laid n
    cases m with
    | lst xs =>
      obtain ⟨a, vs, e1, e2, e3⟩ := q
      exact ⟨a, vs, e1, by rw [upd_ne (ne_of_none e2 n)]; exact e2, RepL.ext w x e3⟩
    | ins c fs =>
      obtain ⟨a, C, dx, gs, e1, e2, e3, e4⟩ := q
      refine ⟨a, C, dx, gs, e1, e2, by rw [upd_ne (ne_of_none e3 n)]; exact e3, Paired.ext w x (fun f b e5 => ?_) e4⟩
      rcases w.cov b ⟨_, e5⟩ with ⟨ys, q⟩ | ⟨C', dx', fs', q⟩ | ⟨φ, q⟩
      · rw [upd_ne (ne_of_none q n)]
      · rw [upd_ne (ne_of_none q n)]
      · rw [upd_ne (ne_of_none q n)]
    | dic m kvs =>
      obtain ⟨a, ob, xs, e1, e2, e3, e4⟩ := q
      exact ⟨a, ob, xs, e1, e2, by rw [upd_ne (ne_of_none e3 n)]; exact e3, DP.map (fun _ _ z => Rep.ext w x z) e4⟩
  bnd := w.bnd
  nxt := w.nxt
  dbd := w.dbd
  dnx := w.dnx
/-- the lists that are new since H0 are frozen -/
def Wd.fz (W : Wd) (H0 H : Hp) : Wd := { W with F := fun a => W.F a ∨ (H0 a = none ∧ (∃ vs, H a = some (.lst vs)) ∧ ¬ W.fp a) }
theorem fz_ext {W0 : Wd} {H0 : Hp} (x : Ext W0 H0 W H) : Ext W0 H0 (W.fz H0 H) H where
  keep := x.keep
  there := x.there
  fpn := x.fpn
  ids := x.ids
  fF := fun a z => .inl (x.fF a z)
  fn := fun a z => z.elim (x.fn a) fun q => .inr q.1
  ob := x.ob
mutual
theorem Rep.fz {K : PySem.W.Frag} {H0 : Hp} : ∀ {v : V} {d : D}, Rep K W H v d → Rep K (W.fz H0 H) H v d
  | _, _, .non => .non
  | _, _, .bl b => .bl b
  | _, _, .int i => .int i
  | _, _, .str s => .str s
  | _, _, .tup e r => .tup e (RepL.fz r)
  | _, _, .lst e f r => .lst e (.inl f) (RepL.fz r)
  | _, _, .obj e => .obj e
theorem RepL.fz {K : PySem.W.Frag} {H0 : Hp} : ∀ {vs : List V} {ds : List D}, RepL K W H vs ds → RepL K (W.fz H0 H) H vs ds
  | _, _, .nil => .nil
  | _, _, .cons a b => .cons (Rep.fz a) (RepL.fz b)
end
theorem Paired.fz {K : PySem.W.Frag} {H0 : Hp} {i : Nat} : ∀ {fs : List (Str × Fd)} {gs : List (Str × V)}, Paired (FRel K W H i) fs gs → Paired (FRel K (W.fz H0 H) H i) fs gs
  | _, _, .nil => .nil
  | (f, .v d) :: _, _, .cons a b => .cons ⟨a.1, Rep.fz a.2⟩ (Paired.fz b)
  | (f, .own n xs) :: _, _, .cons a b => .cons ⟨a.1, by
      obtain ⟨_, p, vs, h1, h2, h3, h4⟩ := a
      exact ⟨p, vs, h1, h2, h3, RepL.fz h4⟩⟩ (Paired.fz b)
theorem fz_ok {K : PySem.W.Frag} {cl : Cl} {H0 : Hp} (w : WOk K cl W h H) : WOk K cl (W.fz H0 H) h H where
  inj := w.inj
  dis := fun a z => z.elim (w.dis a) fun q => q.2.2
  cov := w.cov
  frz := fun a z => z.elim (w.frz a) fun q => by obtain ⟨_, ⟨vs, e⟩, _⟩ := q; rw [e]; exact Option.some_ne_none _
  obj := fun i o e => by
    have q := w.obj i o e
    cases o with
    | lst xs =>
      obtain ⟨a, vs, e1, e2, e3⟩ := q
      exact ⟨a, vs, e1, e2, RepL.fz e3⟩
    | ins c fs =>
      obtain ⟨a, C, dx, gs, e1, e2, e3, e4⟩ := q
      exact ⟨a, C, dx, gs, e1, e2, e3, Paired.fz e4⟩
    | dic m kvs =>
      obtain ⟨a, ob, xs, e1, e2, e3, e4⟩ := q
      exact ⟨a, ob, xs, e1, e2, e3, DP.map (fun _ _ z => Rep.fz z) e4⟩
  bnd := w.bnd
  nxt := w.nxt
  dbd := w.dbd
  dnx := w.dnx
theorem RRel.fz {K : PySem.W.Frag} {H0 : Hp} {v : V} {r : R} {d : D} (q : RRel K W H0 H v r) (e : r.toD = some d) : Rep K (W.fz H0 H) H v d := by
  cases r with
  | v d' => cases e; exact Rep.fz q
  | nl xs =>
    cases e
    obtain ⟨p, vs, rfl, e2, e3, e4, e5, e6⟩ := q
    exact .lst (.inl e3) (.inr ⟨e2, ⟨vs, e3⟩, e6⟩) (RepL.fz e4)
  | bw xs => cases e
theorem RRelL.fz {K : PySem.W.Frag} {H0 : Hp} : ∀ {vs : List V} {rs : List R} {ds : List D}, Paired (RRel K W H0 H) vs rs → toDs rs = some ds → RepL K (W.fz H0 H) H vs ds
  | _, _, _, .nil, e => by cases e; exact .nil
  | _, r :: rs, ds, .cons a b, e => by
    unfold toDs at e
    cases e1 : r.toD with
    | none => rw [e1] at e; cases e
    | some d =>
      rw [e1] at e
      cases e2 : toDs rs with
      | none => rw [e2] at e; cases e
      | some es =>
        rw [e2] at e
        cases e
        exact .cons (a.fz e1) (RRelL.fz b e2)
theorem SRel.fz {K : PySem.W.Frag} {H0 : Hp} {W0 : Wd} (s0 : SRel K W0 H0 oA ss σ) (s : SRel K W H oA ss σ) : SRel K (W.fz H0 H) H oA ss σ where
  vs := fun j d e => let ⟨v, e1, e2⟩ := s.vs j d e; ⟨v, e1, Rep.fz e2⟩
  own := fun j xs e => let ⟨a, vs, e1, e2, e3, e4⟩ := s.own j xs e; ⟨a, vs, e1, e2, e3, RepL.fz e4⟩
  bw := fun j xs e => let ⟨a, vs, e2, e3, e4, e5, e6⟩ := s.bw j xs e; ⟨a, vs, e2, e3, RepL.fz e4, e5, e6⟩
  inj := s.inj
  free := fun j a e => ⟨(s.free j a e).1, fun z => z.elim (s.free j a e).2.1 fun q => (s0.free j a e).2.2 q.1, (s.free j a e).2.2⟩
  len := s.len
/-- what an operand is when it is read -/
theorem RRel.rdLst {K : PySem.W.Frag} {cl : Cl} {W : Wd} {H0 H : Hp} {h : MH} {v : V} {r : R} {xs : List D} (w : WOk K cl W h H) (q : RRel K W H0 H v r) (e : r.rd = .lst xs) : ∃ p vs, v = .ref p ∧ Rd H p (.lst vs) ∧ RepL K W H vs xs ∧ ¬ W.fp p := by
  cases r with
  | v d =>
    have e' : d = .lst xs := e
    subst e'
    cases q with
    | lst h1 h2 h3 => exact ⟨_, _, rfl, h1, h3, w.dis _ h2⟩
  | nl ys =>
    cases e
    obtain ⟨p, vs, e1, _, e3, e4, _, e6⟩ := q
    exact ⟨p, vs, e1, .inl e3, e4, e6⟩
  | bw ys =>
    cases e
    obtain ⟨p, vs, e1, e3, e4, e6⟩ := q
    exact ⟨p, vs, e1, .inl e3, e4, e6⟩
theorem RRel.rdTup {K : PySem.W.Frag} {W : Wd} {H0 H : Hp} {v : V} {r : R} {xs : List D} (q : RRel K W H0 H v r) (e : r.rd = .tup xs) : ∃ p vs, v = .ref p ∧ SqT K H p vs ∧ RepL K W H vs xs := by
  cases r with
  | v d =>
    have e' : d = .tup xs := e
    subst e'
    cases q with
    | tup h1 h3 => exact ⟨_, _, rfl, h1, h3⟩
  | nl ys => cases e
  | bw ys => cases e
theorem PE.mono {X : Cx} {py : Expr} {t t' : TE} (q : PE X py t) (i : ∀ σ H Q, t' σ H Q → t σ H Q) : PE X py t' := ⟨fun pins s σ H Q I z => q.run pins s σ H Q I (i σ H Q z)⟩
theorem PT.mono {X : Cx} {py : Expr} {t t' : TT} (q : PT X py t) (i : ∀ σ H Q, t' σ H Q → t σ H Q) : PT X py t' := ⟨fun pins s σ H Q I z => q.run pins s σ H Q I (i σ H Q z)⟩
theorem PA.mono {X : Cx} {py : List Expr} {t t' : TA} (q : PA X py t) (i : ∀ σ H Q, t' σ H Q → t σ H Q) : PA X py t' := ⟨fun pos pins s σ H Q I z => q.run pos pins s σ H Q I (i σ H Q z)⟩
theorem PS.mono {X : Cx} {py : Stmt} {t t' : TS} (q : PS X py t) (i : ∀ Dn σ H, t' Dn σ H → t Dn σ H) : PS X py t' := ⟨fun pins s σ H Dn I z => q.run pins s σ H Dn I (i Dn σ H z)⟩
theorem PSs.mono {X : Cx} {py : List Stmt} {t t' : TS} (q : PSs X py t) (i : ∀ Dn σ H, t' Dn σ H → t Dn σ H) : PSs X py t' := ⟨fun pins s σ H Dn I z => q.run pins s σ H Dn I (i Dn σ H z)⟩
end
end GV
set_option Elab.async false
set_option linter.all false
set_option maxRecDepth 100000
set_option maxHeartbeats 4000000
/-! GV5: rules for operators over sequences. -/
namespace GV
open PySem L2
/-! ### lists that may be read -/
section
variable {X : Cx}
theorem rdList {pins : List (Addr × Obj)} {s : Shared} {σ : L2.St} {H : Hp} {l : Addr} {xs : List V} (I : Inv X pins σ H s) (hH : Rd H l (.lst xs)) : xs.length ≤ sizeLine ∧ ∃ (its : List Value) (n : Nat), Vals xs its ∧ xs.length = its.length ∧ s.heap.get? l = some { cls := .type "list", data := .seq its.toArray n } := by
  obtain ⟨z, its, n, r, e⟩ := hH.ok I.hok
  exact ⟨z, its, n, r, r.length, e⟩
def rCatR : R2 := fun x y H Q => ∃ l b xs zs, x = .ref l ∧ y = .ref b ∧ Rd H l (.lst xs) ∧ Rd H b (.lst zs) ∧ xs.length + zs.length ≤ sizeLine ∧ ∀ p, H p = none → Q (.ref p) (upd H p (.lst (xs ++ zs)))
theorem op_catR : OpR X (binaryOp .Add) rCatR := by
  intro pins s σ H x y v u Q I rx ry h
  obtain ⟨l, b, xs, zs, rfl, rfl, hH, hB, hz, q⟩ := h
  cases rx
  cases ry
  obtain ⟨z, its, n, r, hl, e⟩ := rdList I hH
  obtain ⟨z2, its2, n2, r2, hl2, e2⟩ := rdList I hB
  refine PySem.P.add_list e e2 ?_ (by rw [List.size_toArray, List.size_toArray]; omega)
  have ea : its.toArray ++ its2.toArray = (its ++ its2).toArray := by simp
  rw [ea]
  exact ⟨.ref _, _, I.lnew (t' := s.toks) (r.append r2) (by rw [List.length_append]; omega), rfl, q _ I.fresh⟩
def rRepR : R2 := fun x y H Q => ∃ l k xs, x = .ref l ∧ y = .int k ∧ Rd H l (.lst xs) ∧ -(2 ^ 63) ≤ k ∧ k < 2 ^ 63 ∧ xs.length * k.toNat ≤ sizeLine ∧
  ∀ p, H p = none → Q (.ref p) (upd H p (.lst (List.replicate k.toNat xs).flatten))
theorem op_repR : OpR X (binaryOp .Mult) rRepR := by
  intro pins s σ H x y v u Q I rx ry h
  obtain ⟨l, k, xs, rfl, rfl, hH, h1, h2, hz, q⟩ := h
  cases rx
  obtain ⟨t, rfl⟩ := ry
  obtain ⟨z, its, n, r, hl, e⟩ := rdList I hH
  have hlen : its.toArray.size * k.toNat ≤ sizeLine := by rw [List.size_toArray, ← hl]; exact hz
  have hcap : ¬ its.toArray.size * k.toNat > (2 ^ 63 - 1) / 8 := by
    have : (sizeLine : Nat) ≤ (2 ^ 63 - 1) / 8 := by decide
    omega
  have hfit : ¬ (!Builtin.List.listFitsIndex k) = true := by
    rw [fitsIndex_both h1 h2]
    exact Bool.false_ne_true
  have hlong : ¬ Builtin.List.listTooLong (its.toArray.size * k.toNat) = true := by
    rw [notLongL hlen]
    exact Bool.false_ne_true
  have hnew : List.foldl (fun x1 x2 => x1 ++ x2) #[] (List.replicate (if its.toArray.isEmpty = true then 0 else k.toNat) its.toArray) = (List.replicate k.toNat its).flatten.toArray := by
    have f0 : ∀ m : Nat, List.foldl (fun x1 x2 => x1 ++ x2) #[] (List.replicate m its.toArray) = (List.replicate m its).flatten.toArray := fun m => by
      have := foldl_rep its m []
      rw [List.nil_append] at this
      exact this
    rw [f0]
    cases its with
    | nil => simp
    | cons a r' => rw [if_neg (by simp)]
  refine wpAny_binaryOp_repeat_ref (T := "list") (U := "int") (by decide) ⟨_, e, rfl⟩ (fun s' => typeIs_int s' k t) noFill_list_mul F.fills_int_mul F.slot_int_rmul repeat_list F.slot_int_index.lookup
    (call_meets F.slot_int_rmul (typeIs_int s k t) F.entry_int_rmul (F.args_int_rmul_2 _ _) (int___rmul___int_list k t l its.toArray n)
      ⟨e, rfl, ⟨_, e, rfl⟩, call_meets F.slot_list_mul ⟨_, e, rfl⟩ F.entry_list_mul (F.args_list_mul_2 _ _) (AutoListH.list___mul___list_int_3 l its.toArray n k t hfit hcap hlong) ⟨e, ?_⟩⟩)
  rw [hnew]
  exact ⟨.ref _, _, I.lnew (t' := s.toks) (r.rep k.toNat) (by rw [PyProof.Rows.lm_len_rep_flat, Nat.mul_comm]; exact hz), rfl, q _ I.fresh⟩
/-! ### a tuple, once or not at all -/
theorem tuple_mul1 (l : Addr) (items : Array Value) (n : Nat) (dd : Option Addr) (sl : Array (Option Value)) (x : Int) (u : Tok) (c0 : (decide (x < -(2 ^ 63)) || decide (x ≥ 2 ^ 63)) = false) (c1 : (items.isEmpty || x == 1) = true) :
    Meets (Builtin.«tuple.__mul__» ⟨[.ref l, .int x u], []⟩) (fun _ R s => s.heap.get? l = some { cls := .type "tuple", dict := dd, data := .seq items n, slots := sl } ∧
      R (.ok (.ret (Value.ref l))) s) :=
  .of_wp fun prog w A R s h => by
    obtain ⟨hp, g, d, tk, os⟩ := s
    obtain ⟨hl, h⟩ := h
    have f1 := AutoSeq1.idx_int
    wp_walk using wpAny_loadPart' hl
    repeat (first
      | (refine wpAny_ite_false (decide_eq_false (by rw [c0]; exact Bool.false_ne_true)) ?_; wp_walk using wpAny_loadPart' hl)
      | (refine wpAny_ite_true (decide_eq_true c1) ?_; wp_walk using wpAny_loadPart' hl))
    exact ⟨_, rfl, h⟩
theorem tuple_mul0 (l : Addr) (items : Array Value) (n : Nat) (dd : Option Addr) (sl : Array (Option Value)) (x : Int) (u : Tok) (c0 : (decide (x < -(2 ^ 63)) || decide (x ≥ 2 ^ 63)) = false) (c1 : (items.isEmpty || x == 1) = false) (c2 : (decide (x ≤ 0) || items.isEmpty) = true) :
    Meets (Builtin.«tuple.__mul__» ⟨[.ref l, .int x u], []⟩) (fun _ R s => s.heap.get? l = some { cls := .type "tuple", dict := dd, data := .seq items n, slots := sl } ∧
      R (.ok (.ret (Value.ref s.heap.objs.size))) { s with heap := s.heap.push { cls := Value.type "tuple", data := Data.seq #[] }, toks := s.toks }) :=
  .of_wp fun prog w A R s h => by
    obtain ⟨hp, g, d, tk, os⟩ := s
    obtain ⟨hl, h⟩ := h
    have f1 := AutoSeq1.idx_int
    wp_walk using wpAny_loadPart' hl
    repeat (first
      | (refine wpAny_ite_false (decide_eq_false (by rw [c0]; exact Bool.false_ne_true)) ?_; wp_walk using wpAny_loadPart' hl)
      | (refine wpAny_ite_false (decide_eq_false (by rw [c1]; exact Bool.false_ne_true)) ?_; wp_walk using wpAny_loadPart' hl)
      | (refine wpAny_ite_true (decide_eq_true c2) ?_; wp_walk using wpAny_loadPart' hl))
    exact ⟨_, rfl, h⟩
/-! ### a text, many times -/
theorem op_mulS : OpR X (binaryOp .Mult) fun x y H Q => ∃ z k, x = .str z ∧ y = .int k ∧ PySem.MulOk z k ∧ Q (.str (PySem.Txt.mul z k)) H := by
  intro pins s σ H x y v u Q I rx ry h
  obtain ⟨z, k, rfl, rfl, hm, q⟩ := h
  obtain ⟨t, rfl⟩ := rx
  obtain ⟨t', rfl⟩ := ry
  exact SB.mul hm fun t'' n => ⟨.str _, _, I.tok _, ⟨t'', rfl⟩, q⟩
end
end GV
set_option Elab.async false
set_option linter.all false
set_option maxRecDepth 100000
set_option maxHeartbeats 4000000
namespace GV
open PySem L2
section
variable {X : Cx}
def rRepTA (K : PySem.W.Frag) : R2 := fun x y H Q => ∃ l k xs, x = .ref l ∧ y = .int k ∧ SqT K H l xs ∧ 0 ≤ k ∧ k ≤ 1000 ∧ xs.length ≤ 1000 ∧
  ((xs = [] ∨ k = 1) → Q (.ref l) H) ∧ (xs ≠ [] → k ≠ 1 → ∀ p, H p = none → Q (.ref p) (upd H p (.tup (List.replicate k.toNat xs).flatten)))
theorem op_repTA : OpR X (binaryOp .Mult) (rRepTA X.K) := by
  intro pins s σ H x y v u Q I rx ry h
  obtain ⟨l, k, xs, rfl, rfl, hT, h1, h2, hz, q1, q2⟩ := h
  by_cases hbig : 2 ≤ k ∧ xs ≠ []
  · exact op_repT pins s σ H _ _ v u Q I rx ry ⟨l, k, xs, rfl, rfl, hT, hbig.2, hbig.1, h2, hz, q2 hbig.2 (by omega)⟩
  cases rx
  obtain ⟨t, rfl⟩ := ry
  obtain ⟨its, r, ⟨⟨cls, dd, data, sl⟩, ho, hc, n, hd⟩, hs⟩ := I.tuple hT
  simp only at hc hd
  subst hc hd
  have c0 : (decide (k < -(2 ^ 63)) || decide (k ≥ 2 ^ 63)) = false := by
    rw [decide_eq_false (by omega), decide_eq_false (by omega)] <;> rfl
  by_cases hsame : xs = [] ∨ k = 1
  · have c1 : (its.toArray.isEmpty || k == 1) = true := by
      rcases hsame with e | e
      · have : its = [] := (r.nil_iff).mpr e
        subst this; rfl
      · subst e; simp
    refine wpAny_binaryOp_repeat_ref (T := "tuple") (U := "int") (by decide) ⟨_, ho, rfl⟩ (fun s' => typeIs_int s' k t) noFill_tuple_mul F.fills_int_mul F.slot_int_rmul repeat_tuple F.slot_int_index.lookup
      (call_meets F.slot_int_rmul (typeIs_int s k t) F.entry_int_rmul (F.args_int_rmul_2 _ _) (int_rmul_tuple k t l its.toArray n dd sl)
        ⟨ho, rfl, ⟨_, ho, rfl⟩, call_meets F.slot_tuple_mul ⟨_, ho, rfl⟩ F.entry_tuple_mul (F.args_tuple_mul_2 _ _) (tuple_mul1 l its.toArray n dd sl k t c0 c1) ⟨ho, ?_⟩⟩)
    exact ⟨.ref l, H, I, rfl, q1 hsame⟩
  · have hx : xs ≠ [] := fun e => hsame (.inl e)
    have hk1 : k ≠ 1 := fun e => hsame (.inr e)
    have hk : k = 0 := by
      by_cases hk2 : 2 ≤ k
      · exact absurd ⟨hk2, hx⟩ hbig
      · omega
    subst hk
    have hne : its ≠ [] := fun e => hx ((r.nil_iff).mp e)
    have hi : its.toArray.isEmpty = false := by
      cases its with
      | nil => exact absurd rfl hne
      | cons a b => rfl
    have c1 : (its.toArray.isEmpty || (0 : Int) == 1) = false := by rw [hi]; rfl
    have c2 : (decide ((0 : Int) ≤ 0) || its.toArray.isEmpty) = true := by simp
    refine wpAny_binaryOp_repeat_ref (T := "tuple") (U := "int") (by decide) ⟨_, ho, rfl⟩ (fun s' => typeIs_int s' 0 t) noFill_tuple_mul F.fills_int_mul F.slot_int_rmul repeat_tuple F.slot_int_index.lookup
      (call_meets F.slot_int_rmul (typeIs_int s 0 t) F.entry_int_rmul (F.args_int_rmul_2 _ _) (int_rmul_tuple 0 t l its.toArray n dd sl)
        ⟨ho, rfl, ⟨_, ho, rfl⟩, call_meets F.slot_tuple_mul ⟨_, ho, rfl⟩ F.entry_tuple_mul (F.args_tuple_mul_2 _ _) (tuple_mul0 l its.toArray n dd sl 0 t c0 c1 c2) ⟨ho, ?_⟩⟩)
    refine ⟨.ref s.heap.objs.size, _, I.laid (t' := s.toks) (o := .tup []) (fun b ob q => Heap.get?_push_of_some _ q) (Nat.le_refl _) ?_, rfl, ?_⟩
    · exact ⟨Nat.zero_le _, [], .nil, PyProof.Rows.IsTup.new _ _⟩
    · have := q2 hx hk1 s.heap.objs.size (I.hok.fresh (Nat.le_refl _))
      simpa using this
/-! ### sum of a tuple -/
def rSumT (K : PySem.W.Frag) : List V → Hp → VK → Prop := fun vs H Q => ∃ (a : Addr) (ns : List Int), vs = [V.ref a] ∧ SqT K H a (ns.map V.int) ∧ Q (.int ns.sum) H
theorem cr_sumT (hc : X.calm = true) : CallR X (.builtin "sum") (rSumT X.K) := by
  intro pins s σ H vs us Q I rv h
  obtain ⟨a, ns, rfl, hS, q⟩ := h
  have e := rv.ref1
  subst e
  obtain ⟨its, r, p, _⟩ := I.tuple hS
  have hi := r.ints
  obtain ⟨xs, hx⟩ := hi.allInts.items
  have hn : numsOf its.toArray.toList = ns := by rw [show its.toArray.toList = its from rfl, hi.numsOf]
  have hl : s.heap.IsTuple a its.toArray := p
  rw [hx] at hl hn
  rw [nums_intItems] at hn
  refine PySem.W.ktm_sumG (I.ok.hd hc) hl fun h' tk t' hk => ?_
  rw [preSum_eq, List.take_of_length_le (by simp), hn]
  exact ⟨.int _, H, I.kept hk, ⟨_, rfl⟩, q⟩
/-! ### min and max of a tuple -/
theorem alike_ints (ns : List Int) : PySem.W.AlikeAll (ns.map PyData.int) := by
  refine ⟨fun x hx y hy => ?_, fun x hx => ?_⟩
  · obtain ⟨i, _, rfl⟩ := List.mem_map.mp hx
    obtain ⟨j, _, rfl⟩ := List.mem_map.mp hy
    simp [PySem.W.alike]
  · obtain ⟨i, _, rfl⟩ := List.mem_map.mp hx
    intro e; cases e
def rMinT (K : PySem.W.Frag) : List V → Hp → VK → Prop := fun vs H Q => ∃ (a : Addr) (x : Int) (l : List Int), vs = [V.ref a] ∧ SqT K H a ((x :: l).map V.int) ∧ Q (.int (l.foldl min x)) H
theorem cr_minT (hc : X.calm = true) (hu : X.A.units + 65 < cLine) : CallR X (.builtin "min") (rMinT X.K) := by
  intro pins s σ H vs us Q I rv h
  obtain ⟨a, x, l, rfl, hS, q⟩ := h
  have e := rv.ref1
  subst e
  obtain ⟨its, r, p, _⟩ := I.tuple hS
  have hi := r.ints
  have hl : s.heap.IsTuple a its.toArray := p
  have hr : ReadsAll s.heap its.toArray.toList (PyData.int x :: l.map PyData.int) [] := PySem.W.readsAll_of_ints hi
  have hd := PySem.W.depthAll_ints (x :: l)
  refine PySem.W.min_tuple_data (I.ok.hd hc) hl hr (alike_ints (x :: l)) (by simp only [List.map_cons] at hd; omega) fun i v h' tk bs _ rd hk => ?_
  rw [PySem.W.minD_ints] at rd
  cases rd
  exact ⟨.int _, H, I.kept hk, ⟨_, rfl⟩, q⟩
def rMaxT (K : PySem.W.Frag) : List V → Hp → VK → Prop := fun vs H Q => ∃ (a : Addr) (x : Int) (l : List Int), vs = [V.ref a] ∧ SqT K H a ((x :: l).map V.int) ∧ Q (.int (l.foldl max x)) H
theorem cr_maxT (hc : X.calm = true) (hu : X.A.units + 65 < cLine) : CallR X (.builtin "max") (rMaxT X.K) := by
  intro pins s σ H vs us Q I rv h
  obtain ⟨a, x, l, rfl, hS, q⟩ := h
  have e := rv.ref1
  subst e
  obtain ⟨its, r, p, _⟩ := I.tuple hS
  have hi := r.ints
  have hl : s.heap.IsTuple a its.toArray := p
  have hr : ReadsAll s.heap its.toArray.toList (PyData.int x :: l.map PyData.int) [] := PySem.W.readsAll_of_ints hi
  have hd := PySem.W.depthAll_ints (x :: l)
  refine PySem.W.max_tuple_data (I.ok.hd hc) hl hr (alike_ints (x :: l)) (by simp only [List.map_cons] at hd; omega) fun i v h' tk bs _ rd hk => ?_
  rw [PySem.W.maxD_ints] at rd
  cases rd
  exact ⟨.int _, H, I.kept hk, ⟨_, rfl⟩, q⟩
end
end GV
set_option Elab.async false
set_option linter.all false
set_option maxRecDepth 100000
set_option maxHeartbeats 4000000
namespace GV
open PySem L2
/-! ### plain data as the library's -/
section
variable {K : PySem.W.Frag} {W : Wd} {H : Hp}
theorem pyL_map : ∀ ds : List D, D.pyL ds = ds.map D.py
  | [] => by simp [D.pyL]
  | d :: ds => by simp [D.pyL, pyL_map ds]
mutual
theorem Rep.dp : ∀ {v : V} {d : D} {n : Nat}, Rep K W H v d → d.okN n = true → Dp K H v d.py
  | _, _, _, .non, _ => by rw [D.py]; exact .non
  | _, _, _, .bl b, _ => by rw [D.py]; exact .bl b
  | _, _, _, .int i, _ => by rw [D.py]; exact .int i
  | _, _, _, .str x, _ => by rw [D.py]; exact .str x
  | _, _, 0, .tup e r, h => by simp [D.okN] at h
  | _, _, n + 1, .tup e r, h => by rw [D.py]; exact .tup e (RepL.dp (n := n) r (by simpa [D.okN] using h))
  | _, _, 0, .lst e f r, h => by simp [D.okN] at h
  | _, _, n + 1, .lst e f r, h => by rw [D.py]; exact .lst (.inl e) (RepL.dp (n := n) r (by simpa [D.okN] using h))
  | _, _, n, .obj _, h => by simp [D.okN] at h
theorem RepL.dp : ∀ {vs : List V} {ds : List D} {n : Nat}, RepL K W H vs ds → (∀ d ∈ ds, d.okN n = true) → DpAll K H vs (D.pyL ds)
  | _, _, _, .nil, _ => by rw [D.pyL]; exact .nil
  | _, _, n, .cons a b, h => by rw [D.pyL]; exact .cons (Rep.dp a (h _ (by simp))) (RepL.dp (n := n) b fun d hd => h d (by simp [hd]))
end
mutual
theorem lay_py : ∀ (d : D) (n : Nat), d.okN n = true → d.py.canLay0 = true ∧ d.py.depth ≤ n
  | .non, _, _ => by simp [D.py, PyData.canLay0, PyData.depth]
  | .bl b, _, _ => by simp [D.py, PyData.canLay0, PyData.depth]
  | .int i, _, _ => by simp [D.py, PyData.canLay0, PyData.depth]
  | .str x, _, h => by
    have h' : strOkB x = true := by simpa [D.okN] using h
    simp only [D.py, PyData.canLay0, PyData.depth]
    exact ⟨h', by omega⟩
  | .tup xs, 0, h => by simp [D.okN] at h
  | .tup xs, n + 1, h => by
    obtain ⟨h1, h2⟩ := lay_pyL xs n (by simpa [D.okN] using h)
    simp only [D.py, PyData.canLay0, PyData.depth]
    exact ⟨h1, by omega⟩
  | .lst xs, 0, h => by simp [D.okN] at h
  | .lst xs, n + 1, h => by
    obtain ⟨h1, h2⟩ := lay_pyL xs n (by simpa [D.okN] using h)
    simp only [D.py, PyData.canLay0, PyData.depth]
    exact ⟨h1, by omega⟩
  | .obj _, n, h => by simp [D.okN] at h
theorem lay_pyL : ∀ (ds : List D) (n : Nat), (∀ d ∈ ds, d.okN n = true) → PyData.canLayAll0 (D.pyL ds) = true ∧ PyData.depthAll (D.pyL ds) ≤ n
  | [], _, _ => by simp [D.pyL, PyData.canLayAll0, PyData.depthAll]
  | d :: ds, n, h => by
    obtain ⟨h1, h2⟩ := lay_py d n (h _ (by simp))
    obtain ⟨h3, h4⟩ := lay_pyL ds n fun d hd => h d (by simp [hd])
    simp only [D.pyL, PyData.canLayAll0, PyData.depthAll, h1, h3]
    exact ⟨rfl, by omega⟩
end
theorem shaped_py {d : D} {n : Nat} (h : d.okN n = true) (hn : n ≤ 64) : SeqAt.shaped d.py = true := by
  obtain ⟨h1, h2⟩ := lay_py d n h
  unfold SeqAt.shaped
  rw [h1, decide_eq_true (by omega)]
  rfl
mutual
theorem eqv_py : ∀ (d e : D) (n m : Nat), d.okN n = true → e.okN m = true → PyData.eqv d.py e.py = D.eqb d e
  | .non, e, _, m, _, h => by cases e <;> simp_all [D.py, PyData.eqv, D.eqb, D.okN]
  | .bl b, e, _, m, _, h => by cases e <;> simp_all [D.py, PyData.eqv, D.eqb, D.okN]
  | .int i, e, _, m, _, h => by cases e <;> simp_all [D.py, PyData.eqv, D.eqb, D.okN]
  | .str x, e, _, m, _, h => by cases e <;> simp_all [D.py, PyData.eqv, D.eqb, D.okN]
  | .tup xs, e, 0, m, h', h => by simp [D.okN] at h'
  | .tup xs, .tup ys, n + 1, 0, h', h => by simp [D.okN] at h
  | .tup xs, .tup ys, n + 1, m + 1, h', h => by
    simp only [D.py, PyData.eqv, D.eqb]
    exact eqv_pyL xs ys n m (by simpa [D.okN] using h') (by simpa [D.okN] using h)
  | .tup xs, .non, n + 1, m, h', h => by simp [D.py, PyData.eqv, D.eqb]
  | .tup xs, .bl _, n + 1, m, h', h => by simp [D.py, PyData.eqv, D.eqb]
  | .tup xs, .int _, n + 1, m, h', h => by simp [D.py, PyData.eqv, D.eqb]
  | .tup xs, .str _, n + 1, m, h', h => by simp [D.py, PyData.eqv, D.eqb]
  | .tup xs, .lst _, n + 1, m, h', h => by simp [D.py, PyData.eqv, D.eqb]
  | .tup xs, .obj _, n + 1, m, h', h => by simp [D.okN] at h
  | .lst xs, e, 0, m, h', h => by simp [D.okN] at h'
  | .lst xs, .lst ys, n + 1, 0, h', h => by simp [D.okN] at h
  | .lst xs, .lst ys, n + 1, m + 1, h', h => by
    simp only [D.py, PyData.eqv, D.eqb]
    exact eqv_pyL xs ys n m (by simpa [D.okN] using h') (by simpa [D.okN] using h)
  | .lst xs, .non, n + 1, m, h', h => by simp [D.py, PyData.eqv, D.eqb]
  | .lst xs, .bl _, n + 1, m, h', h => by simp [D.py, PyData.eqv, D.eqb]
  | .lst xs, .int _, n + 1, m, h', h => by simp [D.py, PyData.eqv, D.eqb]
  | .lst xs, .str _, n + 1, m, h', h => by simp [D.py, PyData.eqv, D.eqb]
  | .lst xs, .tup _, n + 1, m, h', h => by simp [D.py, PyData.eqv, D.eqb]
  | .lst xs, .obj _, n + 1, m, h', h => by simp [D.okN] at h
  | .obj _, _, n, _, h', _ => by simp [D.okN] at h'
theorem eqv_pyL : ∀ (ds es : List D) (n m : Nat), (∀ d ∈ ds, d.okN n = true) → (∀ d ∈ es, d.okN m = true) → PyData.eqvAll (D.pyL ds) (D.pyL es) = D.eqbL ds es
  | [], [], _, _, _, _ => by simp [D.pyL, PyData.eqvAll, D.eqbL]
  | [], _ :: _, _, _, _, _ => by simp [D.pyL, PyData.eqvAll, D.eqbL]
  | _ :: _, [], _, _, _, _ => by simp [D.pyL, PyData.eqvAll, D.eqbL]
  | d :: ds, e :: es, n, m, h, h' => by
    simp only [D.pyL, PyData.eqvAll, D.eqbL]
    rw [eqv_py d e n m (h _ (by simp)) (h' _ (by simp)), eqv_pyL ds es n m (fun d hd => h d (by simp [hd])) fun d hd => h' d (by simp [hd])]
end
/-- an operand that is read, as data -/
theorem RRel.dp {cl : Cl} {h : MH} {H0 : Hp} {v : V} {r : R} {n : Nat} (w : WOk K cl W h H) (q : RRel K W H0 H v r) (e : r.rd.okN n = true) : Dp K H v r.rd.py := by
  cases r with
  | v d => exact Rep.dp q e
  | nl xs =>
    obtain ⟨p, vs, rfl, _, e3, e4, _⟩ := q
    cases n with
    | zero => simp [R.rd, D.okN] at e
    | succ n => simp only [R.rd, D.py]; exact .lst (SqL.of e3) (RepL.dp (n := n) e4 (by simpa [R.rd, D.okN] using e))
  | bw xs =>
    obtain ⟨p, vs, rfl, e3, e4, _⟩ := q
    cases n with
    | zero => simp [R.rd, D.okN] at e
    | succ n => simp only [R.rd, D.py]; exact .lst (SqL.of e3) (RepL.dp (n := n) e4 (by simpa [R.rd, D.okN] using e))
theorem any_eqv {x : D} {n m : Nat} (hx : x.okN n = true) : ∀ {ds : List D}, (∀ d ∈ ds, d.okN m = true) → ((D.pyL ds).any fun z => PyData.eqv z x.py) = ds.any fun z => D.eqb z x
  | [], _ => by simp [D.pyL]
  | d :: ds, h => by
    simp only [D.pyL, List.any_cons]
    rw [eqv_py d x m n (h _ (by simp)) hx, any_eqv hx fun d hd => h d (by simp [hd])]
end
/-! ### in a tuple; the order -/
section
variable {X : Cx}
def rInT (K : PySem.W.Frag) : R2 := fun x y H Q => ∃ d ds, Dp K H x d ∧ Dp K H y (.tuple ds) ∧ SeqAt.shaped d = true ∧ SeqAt.shaped (.tuple ds) = true ∧ Q (.bl (ds.any fun z => PyData.eqv z d)) H
def rNotInT (K : PySem.W.Frag) : R2 := fun x y H Q => ∃ d ds, Dp K H x d ∧ Dp K H y (.tuple ds) ∧ SeqAt.shaped d = true ∧ SeqAt.shaped (.tuple ds) = true ∧ Q (.bl (!ds.any fun z => PyData.eqv z d)) H
theorem room_inT {A : Around} {d : PyData} {ds : List PyData} (h : SeqAt.shaped d = true) (hu : A.units + 65 < cLine) : A.units + 1 + min (PyData.depthAll ds) d.depth < cLine := by
  have h1 := SeqAt.depth_of_shaped h
  have h2 : min (PyData.depthAll ds) d.depth ≤ d.depth := Nat.min_le_right _ _
  omega
theorem op_inT (hu : X.A.units + 65 < cLine) : OpR X (compareOp .In) (rInT X.K) := by
  intro pins s σ H x y v u Q I rx ry h
  obtain ⟨d, ds, hd, he, sd, se, q⟩ := h
  obtain ⟨as, r1⟩ := Dp.reads I d x v hd rx
  obtain ⟨bs, r2⟩ := Dp.reads I (.tuple ds) y u he ry
  exact SeqAt.in_tuple_reads r2 r1 (SeqAt.canLay_of_shaped se) (SeqAt.canLay_of_shaped sd) (room_inT sd hu) ⟨.bl _, H, I, rfl, q⟩
theorem op_notInT (hu : X.A.units + 65 < cLine) : OpR X (compareOp .NotIn) (rNotInT X.K) := by
  intro pins s σ H x y v u Q I rx ry h
  obtain ⟨d, ds, hd, he, sd, se, q⟩ := h
  obtain ⟨as, r1⟩ := Dp.reads I d x v hd rx
  obtain ⟨bs, r2⟩ := Dp.reads I (.tuple ds) y u he ry
  exact SeqAt.notIn_tuple_reads r2 r1 (SeqAt.canLay_of_shaped se) (SeqAt.canLay_of_shaped sd) (room_inT sd hu) ⟨.bl _, H, I, rfl, q⟩
def rLtD (K : PySem.W.Frag) : R2 := fun x y H Q => ∃ d e, Dp K H x d ∧ Dp K H y e ∧ SeqAt.shaped d = true ∧ PySem.W.alike d e = true ∧ d ≠ .none ∧ Q (.bl (PySem.W.dataLt d e)) H
theorem op_ltD (hu : X.A.units + 65 < cLine) : OpR X (compareOp .Lt) (rLtD X.K) := by
  intro pins s σ H x y v u Q I rx ry h
  obtain ⟨d, e, hd, he, sd, al, nn, q⟩ := h
  obtain ⟨as, r1⟩ := Dp.reads I d x v hd rx
  obtain ⟨bs, r2⟩ := Dp.reads I e y u he ry
  have h1 := SeqAt.depth_of_shaped sd
  have h2 : min d.depth e.depth ≤ d.depth := Nat.min_le_left _ _
  exact PySem.W.rcLt_alike d e X.A s v u as bs r1 r2 al nn (by omega) _ _ _ _ ⟨.bl _, H, I, rfl, q⟩
end
end GV
set_option Elab.async false
set_option linter.all false
set_option maxRecDepth 100000
set_option maxHeartbeats 4000000
/-! GE1: enumerate over a tuple. -/
namespace GV
open PySem PySem.Spec PyProof.Rows L2
theorem enum_one {v : Value} {ob : Obj} {Hp : Heap → Prop} (B : Begins v ob Hp) :
    Meets (Builtin.«enumerate.__new__» ⟨[.type "enumerate", v], []⟩) (fun _ R t => Hp t.heap ∧
      R (.ok (.ret (.ref (t.heap.push ob).objs.size))) { t with heap := (t.heap.push ob).push { cls := .type "enumerate", data := .fields #[.none, .bool false, .ref t.heap.objs.size, rawInt 0, .none, .none] } }) :=
  .of_wp fun prg ww A R t g => by
    obtain ⟨hq, g1, d1, tk, os⟩ := t; obtain ⟨g2, g⟩ := g
    have hsub := sub_enumerate
    have qq : ∀ {A' : Around} {E : Value → Shared → Prop} {Q : Value → Shared → Prop}, Q (.ref hq.objs.size) ⟨hq.push ob, g1, d1, tk, os⟩ → wpAny (model prg ww) A' (pyIter v) Q E ⟨hq, g1, d1, tk, os⟩ :=
      fun z => B.iter prg ww _ _ ⟨hq, g1, d1, tk, os⟩ _ g2 z
    wp_walk using qq
    refine wpAny_stack_any fun st => wpAny_pure ?_
    split
    · rename_i c _ _ _ _ _
      cases (c == Value.type "enumerate")
      all_goals
        wp_walk using qq
        exact ⟨_, rfl, g⟩
    · wp_walk using qq
      exact ⟨_, rfl, g⟩
section
variable {prg : Program} {ww : World} {A : Around} {E : Value → Shared → Prop} {t : Shared}
/-- enumerate(v): its two new cells -/
theorem enum_begins1 {v : Value} {ob : Obj} {Hp : Heap → Prop} {Q : Value → Shared → Prop} (B : Begins v ob Hp) (g : Hp t.heap)
    (k : ∀ h', IsEnum h' (t.heap.objs.size + 1) t.heap.objs.size 0 .none → h'.get? t.heap.objs.size = some ob → h'.objs.size = t.heap.objs.size + 2 → (∀ b o, t.heap.get? b = some o → h'.get? b = some o) → Q (.ref (t.heap.objs.size + 1)) { t with heap := h' }) :
    wpAny (model prg ww) A (call (.type "enumerate") [v]) Q E t := by
  refine callType_new F.called_enumerate (by decide) (F.typeCall_enumerate_1 _) (F.newCall_enumerate_1 _) (fun x => F.args_object_init_2 x _) F.entry_enumerate_new (enum_one B) ⟨g, ?_⟩
  have sz : (t.heap.push ob).objs.size = t.heap.objs.size + 1 := Heap.size_push ..
  show _ ∧ _
  rw [sz]
  have en : IsEnum ((t.heap.push ob).push { cls := .type "enumerate", data := .fields #[.none, .bool false, .ref t.heap.objs.size, rawInt 0, .none, .none] }) (t.heap.objs.size + 1) t.heap.objs.size 0 .none := by
    have z := Heap.get?_push_size (t.heap.push ob) (o := { cls := .type "enumerate", data := .fields #[.none, .bool false, .ref t.heap.objs.size, rawInt 0, .none, .none] }) rfl
    rw [sz] at z; exact z
  exact ⟨⟨_, en, rfl⟩, k _ en (Heap.get?_push_of_some _ (Heap.get?_push_size _ B.free)) (by rw [Heap.size_push, sz]) fun b o z => Heap.get?_push_of_some _ (Heap.get?_push_of_some _ z)⟩
end
/-- the tuple at a, each item in a new pair with its number -/
def IteT (K : PySem.W.Frag) (a : Addr) : It where
  go := fun i H => ∃ (xs : List V) (x : V), SqT K H a xs ∧ xs[i]? = some x
  yld := fun i H v H' => ∃ T x, v = .ref T ∧ H T = none ∧ H' = upd H T (.tup [.int (i : Nat), x]) ∧ ∀ xs, SqT K H a xs → xs[i]? = some x
  stop := fun i H => ∃ xs : List V, SqT K H a xs ∧ xs.length = i
theorem turn_enumT {P : Program} {w : World} {K : PySem.W.Frag} {elts : List Expr} {kk : Nat} {tpos : Pos} (a e it : Addr) (hai : a ≠ it) (hae : a ≠ e) :
    Turn P w K (.Tuple elts kk tpos) (IteT K a) [e, it] e (fun i h => (∃ old, IsEnum h e it ((i : Nat) : Int) old) ∧ h.IsTupleIter it a i ∧ e ≠ it) where
  mem := by simp
  obj := fun i h st b hb => by
    obtain ⟨⟨old, g1⟩, ⟨o, g2, _, g3⟩, _⟩ := st
    rcases (show b = e ∨ b = it by simpa using hb) with z | z
    · subst z; exact ⟨_, g1, fun v q => nomatch q⟩
    · subst z; exact ⟨o, g2, fun v q => by rw [g3] at q; cases q⟩
  keep := fun i h h' st k => ⟨let ⟨old, g⟩ := st.1; ⟨old, k e (by simp) _ g⟩, st.2.1.at fun o q => k it (by simp) o q, st.2.2⟩
  item := by
    intro X hP hw hK hc i pins s σ H E I hf st hg
    subst hP hw hK
    obtain ⟨⟨old, g1⟩, g2, ne⟩ := st
    obtain ⟨xs, x, hq, hx⟩ := hg
    obtain ⟨its, rv, p, hz⟩ := I.tuple hq
    obtain ⟨u, hu, ru⟩ := rv.get hx
    have el : e < s.heap.objs.size := Heap.lt_size g1
    have il : it < s.heap.objs.size := by obtain ⟨_, q, _⟩ := g2; exact Heap.lt_size q
    have hil : i < its.toArray.size := by
      have := (List.getElem?_eq_some_iff.mp hu).1
      simpa using this
    have hh : X.A.in1.handled = none := I.ok.hd hc
    refine wpAny_pyNext_enum_itemC (Draws.tuple hh it a hai its.toArray) g1 ⟨g2, p⟩ hil ne (by simp [ne, Ne.symm hae]) fun y h' tk hy ho st' hT hsz hk => ?_
    have ey : y = u := by
      have h1 : its.toArray[i]? = some u := by simpa using hu
      rw [h1] at hy
      exact (Option.some.inj hy).symm
    subst ey
    refine ⟨_, rfl, wpAny_letOwnedTupleGo_enum (s := { s with heap := h', toks := tk + 1 }) ho fun h'' en sb => ?_⟩
    have hT2 : h''.get? s.heap.objs.size = some { cls := .type "tuple", data := .seq #[.int i tk, y] } := (sb.2 _ (Nat.ne_of_gt el)).trans hT
    have nw : ObjOk X.prog X.w (upd H s.heap.objs.size (.tup [.int (i : Nat), x])) h'' s.heap.objs.size (.tup [.int (i : Nat), x]) :=
      ⟨by show 2 ≤ sizeLine; decide, [.int i tk, y], .cons ⟨_, rfl⟩ (.cons ru .nil), ⟨_, hT2, rfl, _, rfl⟩⟩
    have J1 : Inv X pins σ (upd H s.heap.objs.size (.tup [.int (i : Nat), x])) { s with heap := h'', toks := tk + 1 } :=
      I.turnedNew (t' := tk + 1) (ch := [e, it]) (fun b ob hb q => (sb.2 b (fun z => hb (by simp [z]))).trans (hk b ob (fun z => hb (by simp [z])) (fun z => hb (by simp [z])) q)) hf (Nat.le_refl _) nw
    refine ⟨.ref s.heap.objs.size, _, J1, rfl, ⟨_, x, rfl, I.hok.fresh (Nat.le_refl _), rfl, fun ys hy => by rw [I.tuple_inj hy hq]; exact hx⟩, ⟨⟨y, ?_⟩, st'.1.at fun o q => (sb.2 it (Ne.symm ne)).trans q, ne⟩, fun b hb => ?_⟩
    · rw [show ((i + 1 : Nat) : Int) = (i : Int) + 1 by omega]; exact en
    · have lt : b < s.heap.objs.size := by
        rcases (show b = e ∨ b = it by simpa using hb) with z | z
        · rw [z]; exact el
        · rw [z]; exact il
      rw [upd_ne (Nat.ne_of_lt lt)]
      exact (hf b hb).1
  done := by
    intro X hP hw hK hc i pins s σ H E I hf st hg
    subst hP hw hK
    obtain ⟨⟨old, g1⟩, g2, ne⟩ := st
    obtain ⟨xs, hq, rfl⟩ := hg
    obtain ⟨its, rv, p, hz⟩ := I.tuple hq
    obtain ⟨f0, f1, f2, f3, f4, f5⟩ := hf it (by simp)
    have hl := rv.length
    have hh : X.A.in1.handled = none := I.ok.hd hc
    have g3 : s.heap.IsTupleIter it a its.toArray.size := by
      have : its.toArray.size = xs.length := by simp [hl]
      rw [this]; exact g2
    exact wpAny_pyNext_enum_endD (Draws.tuple hh it a hai its.toArray) g1 ⟨g3, p⟩ fun h' eb => ⟨rfl, I.turned (t' := s.toks) (fun b o hb q => eb b o hb q) f0 f1 f3 f4 f5⟩
  self := fun A i s Q E st k => let ⟨⟨_, g⟩, _⟩ := st; wpAny_pyIter_enum g k
/-- enumerate(v), v a list or a tuple -/
def iEnumA (K : PySem.W.Frag) (ta : TA) : TI := fun σ H R => ta σ H fun vs H1 => ∃ a xs, vs = [.ref a] ∧ ((SqL K H1 a xs ∧ R (Ite K a) H1) ∨ (SqT K H1 a xs ∧ R (IteT K a) H1))
theorem pi_enumA {X : Cx} {e : Expr} {ta : TA} {p pos tpos : Pos} {elts : List Expr} {kk : Nat} (hg : Gl X "enumerate") (hm : X.mg "enumerate" = none) (ha : PA X [e] ta) (hs : starEach [e] X.env = [(false, eval e X.env)]) :
    PI X (.Tuple elts kk tpos) (.Call (.Name "enumerate" p) [e] [] pos) (iEnumA X.K ta) := by
  refine ⟨fun pins s σ H R I h => ?_⟩
  refine Call_ (ld_blt I hg hm boot_enumerate (PyProof.Rows.callWith_type1 (thn (ha.run pos pins s σ H _ I h) fun us s1 ⟨vs, H1, I1, r1, q1⟩ => ?_) hs rfl))
  obtain ⟨a, xs, ex, q1⟩ := q1
  subst ex
  cases r1 with
  | cons r rr =>
    cases rr
    cases r
    have fr : ∀ b, b ∈ [s1.heap.objs.size + 1, s1.heap.objs.size] → FpOk X pins H1 b := fun b hb => by
      have le : s1.heap.objs.size ≤ b := by
        rcases (show b = s1.heap.objs.size + 1 ∨ b = s1.heap.objs.size by simpa using hb) with z | z
        · rw [z]; exact Nat.le_add_right _ _
        · rw [z]; exact Nat.le_refl _
      exact I1.fpOk le (I1.hok.fresh le)
    rcases q1 with ⟨hq, q⟩ | ⟨hq, q⟩
    · obtain ⟨its, rv, p', hz⟩ := I1.list hq
      refine call_enumerate_list p'.isList fun h' he hit hsz hk => wpAny_pyIter_enum he ?_
      exact ⟨s1.heap.objs.size + 1, _, _, _, H1, rfl, I1.kept (t' := s1.toks) hk, turn_enum a (s1.heap.objs.size + 1) s1.heap.objs.size, ⟨⟨.none, he⟩, hit, Nat.succ_ne_self _⟩, fr, q⟩
    · obtain ⟨its, rv, p', hz⟩ := I1.tuple hq
      have al : a < s1.heap.objs.size := by obtain ⟨o, ho, _⟩ := p'; exact Heap.lt_size ho
      refine enum_begins1 (begins_tuple a its.toArray) p' fun h' he hit hsz hk => wpAny_pyIter_enum he ?_
      exact ⟨s1.heap.objs.size + 1, _, _, _, H1, rfl, I1.kept (t' := s1.toks) hk, turn_enumT a (s1.heap.objs.size + 1) s1.heap.objs.size (Nat.ne_of_lt al) (Nat.ne_of_lt (Nat.lt_succ_of_lt al)), ⟨⟨.none, he⟩, ⟨_, hit, rfl, rfl⟩, Nat.succ_ne_self _⟩, fr, q⟩
end GV
set_option Elab.async false
set_option linter.all false
set_option maxRecDepth 100000
set_option maxHeartbeats 4000000
/-! GE2: zip of two or three, each a list or a tuple. -/
namespace GV
open PySem PySem.Spec PyProof.Rows L2
/-- b: a tuple, else a list -/
def SqB (K : PySem.W.Frag) (b : Bool) (H : Hp) (a : Addr) (xs : List V) : Prop := match b with
  | true => SqT K H a xs
  | false => SqL K H a xs
def ItrB (b : Bool) (h : Heap) (it a : Addr) (i : Nat) : Prop := match b with
  | true => h.IsTupleIter it a i
  | false => h.IsListIter it a i
def IsB (b : Bool) (h : Heap) (a : Addr) (its : Array Value) : Prop := match b with
  | true => h.IsTuple a its
  | false => h.IsList a its
def itO (b : Bool) (a : Addr) : Obj := match b with
  | true => { cls := .type "tuple_iterator", data := .fields #[.ref a, .int 0 0] }
  | false => { cls := .type "list_iterator", data := .fields #[.ref a, .int 0 0] }
theorem IsB.lt {b : Bool} {h : Heap} {a : Addr} {its : Array Value} (p : IsB b h a its) : a < h.objs.size := by
  cases b <;> (obtain ⟨o, ho, _⟩ := p; exact Heap.lt_size ho)
theorem ItrB.at {b : Bool} {h h' : Heap} {it a : Addr} {i : Nat} (q : ItrB b h it a i) (k : ∀ o, h.get? it = some o → h'.get? it = some o) : ItrB b h' it a i := by
  cases b
  · exact Heap.IsListIter.at q k
  · exact Heap.IsTupleIter.at q k
theorem ItrB.obj {b : Bool} {h : Heap} {it a : Addr} {i : Nat} (q : ItrB b h it a i) : ∃ o, h.get? it = some o ∧ ∀ v, o.data ≠ .cell v := by
  cases b <;> (obtain ⟨o, ho, _, hd⟩ := q; exact ⟨o, ho, fun v z => by rw [hd] at z; cases z⟩)
theorem itO_itr {b : Bool} {h : Heap} {it a : Addr} (e : h.get? it = some (itO b a)) : ItrB b h it a 0 := by
  cases b <;> exact ⟨_, e, rfl, rfl⟩
theorem begins_B (b : Bool) (a : Addr) (its : Array Value) : Begins (.ref a) (itO b a) fun h => IsB b h a its := by
  cases b
  · exact begins_list a its
  · exact begins_tuple a its
theorem draws_B {prg : Program} {ww : World} {A : Around} (b : Bool) (hh : A.handled = none) (it a : Addr) (ne : a ≠ it) (its : Array Value) :
    Draws prg ww A it [it, a] its.size (fun i v => its[i]? = some v) (fun i h => ItrB b h it a i ∧ IsB b h a its) := by
  cases b
  · exact Draws.list hh it a ne its
  · exact Draws.tuple hh it a ne its
section
variable {X : Cx} {pins : List (Addr × Obj)} {σ : L2.St} {H : Hp} {s : Shared}
theorem inv_B {b : Bool} {a : Addr} {xs : List V} (I : Inv X pins σ H s) (q : SqB X.K b H a xs) : ∃ its : List Value, Vals xs its ∧ IsB b s.heap a its.toArray := by
  cases b
  · obtain ⟨its, rv, p, _⟩ := I.list q
    exact ⟨its, rv, p.isList⟩
  · obtain ⟨its, rv, p, _⟩ := I.tuple q
    exact ⟨its, rv, p⟩
theorem inj_B {b : Bool} {a : Addr} {xs ys : List V} (I : Inv X pins σ H s) (q : SqB X.K b H a xs) (q' : SqB X.K b H a ys) : xs = ys := by
  cases b
  · exact I.list_inj q q'
  · exact I.tuple_inj q q'
end
theorem sub45 {q z TI TO i1 i2 : Addr} (m : q ∈ [z, TO, i1, i2]) : q ∈ [z, TI, TO, i1, i2] := by
  simp only [List.mem_cons, List.not_mem_nil, or_false] at m ⊢
  rcases m with h | h | h | h <;> simp [h]
/-! ### two -/
def It2 (K : PySem.W.Frag) (b c : Bool) (a a' : Addr) : It where
  go := fun i H => ∃ (xs ys : List V) (x y : V), SqB K b H a xs ∧ SqB K c H a' ys ∧ xs[i]? = some x ∧ ys[i]? = some y
  yld := fun i H v H' => ∃ T x y, v = .ref T ∧ H T = none ∧ H' = upd H T (.tup [x, y]) ∧ (∀ xs, SqB K b H a xs → xs[i]? = some x) ∧ ∀ ys, SqB K c H a' ys → ys[i]? = some y
  stop := fun i H => ∃ xs ys : List V, SqB K b H a xs ∧ SqB K c H a' ys ∧ min xs.length ys.length = i
theorem turn_zip2 {P : Program} {w : World} {K : PySem.W.Frag} {elts : List Expr} {kk : Nat} {tpos : Pos} {b c : Bool} {a a' z TI TO i1 i2 : Addr} (n1 : a ≠ i1) (n2 : a' ≠ i2) (S : ZipSep2 z TI TO i1 i2 [i1, a] [i2, a']) :
    Turn P w K (.Tuple elts kk tpos) (It2 K b c a a') [z, TI, TO, i1, i2] z (fun i h => IsZip h z TI TO .none ∧ IsTupOf2 h TI (.ref i1) (.ref i2) ∧ (∃ x y, IsTupOf2 h TO x y) ∧ ItrB b h i1 a i ∧ ItrB c h i2 a' i) where
  mem := by simp
  obj := fun i h st q hq => by
    obtain ⟨g1, g2, ⟨x, y, g3⟩, g4, g5⟩ := st
    simp only [List.mem_cons, List.not_mem_nil, or_false] at hq
    rcases hq with rfl | rfl | rfl | rfl | rfl
    · exact ⟨_, g1, fun v q => nomatch q⟩
    · exact ⟨_, g2, fun v q => nomatch q⟩
    · exact ⟨_, g3, fun v q => nomatch q⟩
    · exact g4.obj
    · exact g5.obj
  keep := fun i h h' st k => by
    obtain ⟨g1, g2, ⟨x, y, g3⟩, g4, g5⟩ := st
    exact ⟨k z (by simp) _ g1, k TI (by simp) _ g2, ⟨x, y, k TO (by simp) _ g3⟩, g4.at fun o q => k i1 (by simp) o q, g5.at fun o q => k i2 (by simp) o q⟩
  item := by
    intro X hP hw hK hc i pins s σ H E I hf st hg
    subst hP hw hK
    have hin : ∀ q ∈ [z, TI, TO, i1, i2], q < s.heap.objs.size := fun q hq => by
      obtain ⟨g1, g2, ⟨x, y, g3⟩, g4, g5⟩ := st
      simp only [List.mem_cons, List.not_mem_nil, or_false] at hq
      rcases hq with rfl | rfl | rfl | rfl | rfl
      · exact Heap.lt_size g1
      · exact Heap.lt_size g2
      · exact Heap.lt_size g3
      · obtain ⟨o, ho, _⟩ := g4.obj; exact Heap.lt_size ho
      · obtain ⟨o, ho, _⟩ := g5.obj; exact Heap.lt_size ho
    obtain ⟨g1, g2, g3, g4, g5⟩ := st
    obtain ⟨xs, ys, x, y, hx, hy, ex, ey⟩ := hg
    obtain ⟨its, rv, p⟩ := inv_B I hx
    obtain ⟨its', rv', p'⟩ := inv_B I hy
    obtain ⟨u, hu, ru⟩ := rv.get ex
    obtain ⟨u', hu', ru'⟩ := rv'.get ey
    have hh : X.A.in1.handled = none := I.ok.hd hc
    have l1 : i < its.toArray.size := by simpa using (List.getElem?_eq_some_iff.mp hu).1
    have l2 : i < its'.toArray.size := by simpa using (List.getElem?_eq_some_iff.mp hu').1
    have W := WalksT.zipD2 (prog := X.prog) (w := X.w) (A := X.A) S (draws_B b hh i1 a n1 its.toArray) (draws_B c hh i2 a' n2 its'.toArray)
    refine W.item i s _ E (by omega) ⟨g1, g2, g3, ⟨g4, p⟩, g5, p'⟩ fun T vals h' tk hP hT hU mid fr => ?_
    obtain ⟨v1, v2, e1, e2, rfl⟩ := hP
    obtain rfl : u = v1 := by
      have : its.toArray[i]? = some u := by simpa using hu
      rw [this] at e1; exact Option.some.inj e1
    obtain rfl : u' = v2 := by
      have : its'.toArray[i]? = some u' := by simpa using hu'
      rw [this] at e2; exact Option.some.inj e2
    have ap := W.apart i T h' mid
    refine ⟨_, rfl, W.go elts kk tpos i T { s with heap := h', toks := tk } _ E mid fun h'' st'' fr' => ?_⟩
    have hU2 : h''.IsTuple T #[u, u'] := hU.at fun o e => fr' T o ap e
    have nw : ObjOk X.prog X.w (upd H T (.tup [x, y])) h'' T (.tup [x, y]) := ⟨by show 2 ≤ sizeLine; decide, [u, u'], .cons ru (.cons ru' .nil), hU2⟩
    have J1 : Inv X pins σ (upd H T (.tup [x, y])) { s with heap := h'', toks := tk } := I.turnedNew (t' := tk) (ch := [z, TI, TO, i1, i2]) (fun q o hq e => by
      have nq : q ∉ [z, TO, i1, i2] := fun m => hq (sub45 m)
      exact fr' q o nq (fr q o nq e)) hf hT nw
    refine ⟨.ref T, _, J1, rfl, ⟨T, x, y, rfl, I.hok.fresh hT, rfl, fun l hl => by rw [inj_B I hl hx]; exact ex, fun l hl => by rw [inj_B I hl hy]; exact ey⟩, ⟨st''.1, st''.2.1, st''.2.2.1, st''.2.2.2.1.1, st''.2.2.2.2.1⟩, fun q hq => ?_⟩
    have lt := hin q hq
    rw [upd_ne (Nat.ne_of_lt (Nat.lt_of_lt_of_le lt hT))]
    exact (hf q hq).1
  done := by
    intro X hP hw hK hc i pins s σ H E I hf st hg
    subst hP hw hK
    obtain ⟨g1, g2, g3, g4, g5⟩ := st
    obtain ⟨xs, ys, hx, hy, rfl⟩ := hg
    obtain ⟨its, rv, p⟩ := inv_B I hx
    obtain ⟨its', rv', p'⟩ := inv_B I hy
    have hh : X.A.in1.handled = none := I.ok.hd hc
    have W := WalksT.zipD2 (prog := X.prog) (w := X.w) (A := X.A) S (draws_B b hh i1 a n1 its.toArray) (draws_B c hh i2 a' n2 its'.toArray)
    have en : min xs.length ys.length = min its.toArray.size its'.toArray.size := by rw [rv.length, rv'.length]; simp
    rw [en] at g4 g5
    refine W.done s _ E ⟨g1, g2, g3, ⟨g4, p⟩, g5, p'⟩ fun h' tk fr => ⟨rfl, I.turnedL (t' := tk) (ch := [z, TI, TO, i1, i2]) (fun q o hq e => ?_) hf⟩
    exact fr q o (fun m => hq (sub45 m)) e
  self := fun A i s Q E st k => wpAny_pyIter_zip st.1 k
/-- zip(v, v'), each a list or a tuple -/
def iZip2 (K : PySem.W.Frag) (ta : TA) : TI := fun σ H R => ta σ H fun vs H1 => ∃ b c a a' xs ys, vs = [.ref a, .ref a'] ∧ SqB K b H1 a xs ∧ SqB K c H1 a' ys ∧ R (It2 K b c a a') H1
theorem pi_zip2 {X : Cx} {e e2 : Expr} {ta : TA} {p pos tpos : Pos} {elts : List Expr} {kk : Nat} (hg : Gl X "zip") (hm : X.mg "zip" = none) (ha : PA X [e, e2] ta)
    (hs : starEach [e, e2] X.env = (false, eval e X.env) :: starEach [e2] X.env) (hpl : (backTo pos (starEach [e2] X.env)).any (·.1) = false) :
    PI X (.Tuple elts kk tpos) (.Call (.Name "zip" p) [e, e2] [] pos) (iZip2 X.K ta) := by
  refine ⟨fun pins s σ H R I h => ?_⟩
  refine Call_ (ld_blt I hg hm PyProof.Rows.boot_zip (PyProof.Rows.callWith_type1 (thn (ha.run pos pins s σ H _ I h) fun us s1 ⟨vs, H1, I1, r1, q1⟩ => ?_) hs hpl))
  obtain ⟨b, c, a, a', xs, ys, ex, hx, hy, q⟩ := q1
  subst ex
  cases r1 with
  | cons r rr =>
    cases rr with
    | cons r' rr =>
      cases rr
      cases r
      cases r'
      obtain ⟨its, rv, p1⟩ := inv_B I1 hx
      obtain ⟨its', rv', p2⟩ := inv_B I1 hy
      have l1 := p1.lt
      have l2 := p2.lt
      refine zip_begins2 (begins_B b a its.toArray) (begins_B c a' its'.toArray) p1 p2 fun h' g1 g2 g3 g4 g5 sz hk => wpAny_pyIter_zip g1 ?_
      refine ⟨s1.heap.objs.size + 4, [s1.heap.objs.size + 4, s1.heap.objs.size + 2, s1.heap.objs.size + 3, s1.heap.objs.size, s1.heap.objs.size + 1], _, _, H1, rfl, I1.kept (t' := s1.toks) hk,
        turn_zip2 (Nat.ne_of_lt l1) (Nat.ne_of_lt (Nat.lt_succ_of_lt l2)) (zip_sep2 (fp1 := [a]) (fp2 := [a']) (by simpa using l1) (by simpa using l2)), ⟨g1, g2, ⟨_, _, g3⟩, itO_itr g4, itO_itr g5⟩, fun w hw => ?_, q⟩
      have le : s1.heap.objs.size ≤ w := by
        simp only [List.mem_cons, List.not_mem_nil, or_false] at hw
        rcases hw with z | z | z | z | z <;> rw [z] <;> first | exact Nat.le_refl _ | exact Nat.le_add_right _ _
      exact I1.fpOk le (I1.hok.fresh le)
/-! ### three -/
theorem sub56 {q z TI TO i1 i2 i3 : Addr} (m : q ∈ [z, TO, i1, i2, i3]) : q ∈ [z, TI, TO, i1, i2, i3] := by
  simp only [List.mem_cons, List.not_mem_nil, or_false] at m ⊢
  rcases m with h | h | h | h | h <;> simp [h]
def It3 (K : PySem.W.Frag) (b c d : Bool) (a a' a'' : Addr) : It where
  go := fun i H => ∃ (xs ys zs : List V) (x y v : V), SqB K b H a xs ∧ SqB K c H a' ys ∧ SqB K d H a'' zs ∧ xs[i]? = some x ∧ ys[i]? = some y ∧ zs[i]? = some v
  yld := fun i H v H' => ∃ T x y t, v = .ref T ∧ H T = none ∧ H' = upd H T (.tup [x, y, t]) ∧ (∀ xs, SqB K b H a xs → xs[i]? = some x) ∧ (∀ ys, SqB K c H a' ys → ys[i]? = some y) ∧ ∀ zs, SqB K d H a'' zs → zs[i]? = some t
  stop := fun i H => ∃ xs ys zs : List V, SqB K b H a xs ∧ SqB K c H a' ys ∧ SqB K d H a'' zs ∧ min (min xs.length ys.length) zs.length = i
theorem turn_zip3 {P : Program} {w : World} {K : PySem.W.Frag} {elts : List Expr} {kk : Nat} {tpos : Pos} {b c d : Bool} {a a' a'' z TI TO i1 i2 i3 : Addr} (n1 : a ≠ i1) (n2 : a' ≠ i2) (n3 : a'' ≠ i3) (S : ZipSep3 z TI TO i1 i2 i3 [i1, a] [i2, a'] [i3, a'']) :
    Turn P w K (.Tuple elts kk tpos) (It3 K b c d a a' a'') [z, TI, TO, i1, i2, i3] z (fun i h => IsZip h z TI TO .none ∧ IsTupOf3 h TI (.ref i1) (.ref i2) (.ref i3) ∧ (∃ x y v, IsTupOf3 h TO x y v) ∧ ItrB b h i1 a i ∧ ItrB c h i2 a' i ∧ ItrB d h i3 a'' i) where
  mem := by simp
  obj := fun i h st q hq => by
    obtain ⟨g1, g2, ⟨x, y, v, g3⟩, g4, g5, g6⟩ := st
    simp only [List.mem_cons, List.not_mem_nil, or_false] at hq
    rcases hq with rfl | rfl | rfl | rfl | rfl | rfl
    · exact ⟨_, g1, fun v q => nomatch q⟩
    · exact ⟨_, g2, fun v q => nomatch q⟩
    · exact ⟨_, g3, fun v q => nomatch q⟩
    · exact g4.obj
    · exact g5.obj
    · exact g6.obj
  keep := fun i h h' st k => by
    obtain ⟨g1, g2, ⟨x, y, v, g3⟩, g4, g5, g6⟩ := st
    exact ⟨k z (by simp) _ g1, k TI (by simp) _ g2, ⟨x, y, v, k TO (by simp) _ g3⟩, g4.at fun o q => k i1 (by simp) o q, g5.at fun o q => k i2 (by simp) o q, g6.at fun o q => k i3 (by simp) o q⟩
  item := by
    intro X hP hw hK hc i pins s σ H E I hf st hg
    subst hP hw hK
    have hin : ∀ q ∈ [z, TI, TO, i1, i2, i3], q < s.heap.objs.size := fun q hq => by
      obtain ⟨g1, g2, ⟨x, y, v, g3⟩, g4, g5, g6⟩ := st
      simp only [List.mem_cons, List.not_mem_nil, or_false] at hq
      rcases hq with rfl | rfl | rfl | rfl | rfl | rfl
      · exact Heap.lt_size g1
      · exact Heap.lt_size g2
      · exact Heap.lt_size g3
      · obtain ⟨o, ho, _⟩ := g4.obj; exact Heap.lt_size ho
      · obtain ⟨o, ho, _⟩ := g5.obj; exact Heap.lt_size ho
      · obtain ⟨o, ho, _⟩ := g6.obj; exact Heap.lt_size ho
    obtain ⟨g1, g2, g3, g4, g5, g6⟩ := st
    obtain ⟨xs, ys, zs, x, y, t, hx, hy, hz, ex, ey, ez⟩ := hg
    obtain ⟨its, rv, p⟩ := inv_B I hx
    obtain ⟨its', rv', p'⟩ := inv_B I hy
    obtain ⟨its2, rv2, p2⟩ := inv_B I hz
    obtain ⟨u, hu, ru⟩ := rv.get ex
    obtain ⟨u', hu', ru'⟩ := rv'.get ey
    obtain ⟨u2, hu2, ru2⟩ := rv2.get ez
    have hh : X.A.in1.handled = none := I.ok.hd hc
    have l1 : i < its.toArray.size := by simpa using (List.getElem?_eq_some_iff.mp hu).1
    have l2 : i < its'.toArray.size := by simpa using (List.getElem?_eq_some_iff.mp hu').1
    have l3 : i < its2.toArray.size := by simpa using (List.getElem?_eq_some_iff.mp hu2).1
    have W := WalksT.zipD3 (prog := X.prog) (w := X.w) (A := X.A) S (draws_B b hh i1 a n1 its.toArray) (draws_B c hh i2 a' n2 its'.toArray) (draws_B d hh i3 a'' n3 its2.toArray)
    refine W.item i s _ E (by omega) ⟨g1, g2, g3, ⟨g4, p⟩, ⟨g5, p'⟩, g6, p2⟩ fun T vals h' tk hP hT hU mid fr => ?_
    obtain ⟨v1, v2, v3, e1, e2, e3, rfl⟩ := hP
    obtain rfl : u = v1 := by
      have : its.toArray[i]? = some u := by simpa using hu
      rw [this] at e1; exact Option.some.inj e1
    obtain rfl : u' = v2 := by
      have : its'.toArray[i]? = some u' := by simpa using hu'
      rw [this] at e2; exact Option.some.inj e2
    obtain rfl : u2 = v3 := by
      have : its2.toArray[i]? = some u2 := by simpa using hu2
      rw [this] at e3; exact Option.some.inj e3
    have ap := W.apart i T h' mid
    refine ⟨_, rfl, W.go elts kk tpos i T { s with heap := h', toks := tk } _ E mid fun h'' st'' fr' => ?_⟩
    have hU2 : h''.IsTuple T #[u, u', u2] := hU.at fun o e => fr' T o ap e
    have nw : ObjOk X.prog X.w (upd H T (.tup [x, y, t])) h'' T (.tup [x, y, t]) := ⟨by show 3 ≤ sizeLine; decide, [u, u', u2], .cons ru (.cons ru' (.cons ru2 .nil)), hU2⟩
    have J1 : Inv X pins σ (upd H T (.tup [x, y, t])) { s with heap := h'', toks := tk } := I.turnedNew (t' := tk) (ch := [z, TI, TO, i1, i2, i3]) (fun q o hq e => by
      have nq : q ∉ [z, TO, i1, i2, i3] := fun m => hq (sub56 m)
      exact fr' q o nq (fr q o nq e)) hf hT nw
    refine ⟨.ref T, _, J1, rfl, ⟨T, x, y, t, rfl, I.hok.fresh hT, rfl, fun l hl => by rw [inj_B I hl hx]; exact ex, fun l hl => by rw [inj_B I hl hy]; exact ey, fun l hl => by rw [inj_B I hl hz]; exact ez⟩, ⟨st''.1, st''.2.1, st''.2.2.1, st''.2.2.2.1.1, st''.2.2.2.2.1.1, st''.2.2.2.2.2.1⟩, fun q hq => ?_⟩
    have lt := hin q hq
    rw [upd_ne (Nat.ne_of_lt (Nat.lt_of_lt_of_le lt hT))]
    exact (hf q hq).1
  done := by
    intro X hP hw hK hc i pins s σ H E I hf st hg
    subst hP hw hK
    obtain ⟨g1, g2, g3, g4, g5, g6⟩ := st
    obtain ⟨xs, ys, zs, hx, hy, hz, rfl⟩ := hg
    obtain ⟨its, rv, p⟩ := inv_B I hx
    obtain ⟨its', rv', p'⟩ := inv_B I hy
    obtain ⟨its2, rv2, p2⟩ := inv_B I hz
    have hh : X.A.in1.handled = none := I.ok.hd hc
    have W := WalksT.zipD3 (prog := X.prog) (w := X.w) (A := X.A) S (draws_B b hh i1 a n1 its.toArray) (draws_B c hh i2 a' n2 its'.toArray) (draws_B d hh i3 a'' n3 its2.toArray)
    have en : min (min xs.length ys.length) zs.length = min (min its.toArray.size its'.toArray.size) its2.toArray.size := by rw [rv.length, rv'.length, rv2.length]; simp
    rw [en] at g4 g5 g6
    refine W.done s _ E ⟨g1, g2, g3, ⟨g4, p⟩, ⟨g5, p'⟩, g6, p2⟩ fun h' tk fr => ⟨rfl, I.turnedL (t' := tk) (ch := [z, TI, TO, i1, i2, i3]) (fun q o hq e => ?_) hf⟩
    exact fr q o (fun m => hq (sub56 m)) e
  self := fun A i s Q E st k => wpAny_pyIter_zip st.1 k
def iZip3 (K : PySem.W.Frag) (ta : TA) : TI := fun σ H R => ta σ H fun vs H1 => ∃ b c d a a' a'' xs ys zs, vs = [.ref a, .ref a', .ref a''] ∧ SqB K b H1 a xs ∧ SqB K c H1 a' ys ∧ SqB K d H1 a'' zs ∧ R (It3 K b c d a a' a'') H1
theorem pi_zip3 {X : Cx} {e e2 e3 : Expr} {ta : TA} {p pos tpos : Pos} {elts : List Expr} {kk : Nat} (hg : Gl X "zip") (hm : X.mg "zip" = none) (ha : PA X [e, e2, e3] ta)
    (hs : starEach [e, e2, e3] X.env = (false, eval e X.env) :: starEach [e2, e3] X.env) (hpl : (backTo pos (starEach [e2, e3] X.env)).any (·.1) = false) :
    PI X (.Tuple elts kk tpos) (.Call (.Name "zip" p) [e, e2, e3] [] pos) (iZip3 X.K ta) := by
  refine ⟨fun pins s σ H R I h => ?_⟩
  refine Call_ (ld_blt I hg hm PyProof.Rows.boot_zip (PyProof.Rows.callWith_type1 (thn (ha.run pos pins s σ H _ I h) fun us s1 ⟨vs, H1, I1, r1, q1⟩ => ?_) hs hpl))
  obtain ⟨b, c, d, a, a', a'', xs, ys, zs, ex, hx, hy, hz, q⟩ := q1
  subst ex
  cases r1 with
  | cons r rr =>
    cases rr with
    | cons r' rr =>
      cases rr with
      | cons r2 rr =>
        cases rr
        cases r
        cases r'
        cases r2
        obtain ⟨its, rv, p1⟩ := inv_B I1 hx
        obtain ⟨its', rv', p2⟩ := inv_B I1 hy
        obtain ⟨its2, rv2, p3⟩ := inv_B I1 hz
        have l1 := p1.lt
        have l2 := p2.lt
        have l3 := p3.lt
        refine zip_begins3 (begins_B b a its.toArray) (begins_B c a' its'.toArray) (begins_B d a'' its2.toArray) p1 p2 p3 fun h' g1 g2 g3 g4 g5 g6 sz hk => wpAny_pyIter_zip g1 ?_
        refine ⟨s1.heap.objs.size + 5, [s1.heap.objs.size + 5, s1.heap.objs.size + 3, s1.heap.objs.size + 4, s1.heap.objs.size, s1.heap.objs.size + 1, s1.heap.objs.size + 2], _, _, H1, rfl, I1.kept (t' := s1.toks) hk,
          turn_zip3 (Nat.ne_of_lt l1) (Nat.ne_of_lt (Nat.lt_succ_of_lt l2)) (Nat.ne_of_lt (Nat.lt_succ_of_lt (Nat.lt_succ_of_lt l3))) (zip_sep3 (fp1 := [a]) (fp2 := [a']) (fp3 := [a'']) (by simpa using l1) (by simpa using l2) (by simpa using l3)), ⟨g1, g2, ⟨_, _, _, g3⟩, itO_itr g4, itO_itr g5, itO_itr g6⟩, fun w hw => ?_, q⟩
        have le : s1.heap.objs.size ≤ w := by
          simp only [List.mem_cons, List.not_mem_nil, or_false] at hw
          rcases hw with z | z | z | z | z | z <;> rw [z] <;> first | exact Nat.le_refl _ | exact Nat.le_add_right _ _
        exact I1.fpOk le (I1.hok.fresh le)
end GV
set_option Elab.async false
set_option linter.all false
set_option maxRecDepth 100000
set_option maxHeartbeats 4000000
/-! GE2b: sorted of tuples some of which are empty. -/
namespace GV
open PySem PySem.SeqAt PySem.Calls PySem.W PyProof.Rows
section
variable {A : Around} {s : Shared}
theorem call_tuple_lt {prog : Program} {w : World} {E : Value → Shared → Prop} {Q : Value → Shared → Prop} {l b : Addr} {items items2 : Array Value} {e r : Nat → Bool} (hl : s.heap.IsTuple l items) (hb : s.heap.IsTuple b items2)
    (he : ∀ j (h1 : j < items.size) (h2 : j < items2.size), EqAt A.in1 s items[j] items2[j] (e j)) (hr : ∀ j (h1 : j < items.size) (h2 : j < items2.size), e j = false → RcLt A.in1 s items[j] items2[j] (r j))
    (h : Q (.bool (firstLt e r (decide (items.size < items2.size)) (List.range (min items.size items2.size)))) s) : wpAny (model prog w) A (call (.builtin "tuple.__lt__") [.ref l, .ref b]) Q E s := by
  obtain ⟨⟨cls, dd, data, sl⟩, ho, hc, n, hd⟩ := id hl
  obtain ⟨⟨cls2, dd2, data2, sl2⟩, ho2, hc2, n2, hd2⟩ := id hb
  simp only at hc hd hc2 hd2
  subst hc hd hc2 hd2
  exact call_meets F.slot_tuple_lt ⟨_, ho, rfl⟩ F.entry_tuple_lt (F.args_tuple_lt_2 _ _) (tuple_ltAt l b items items2 n n2 dd dd2 sl sl2 e r) ⟨ho, ho2, he, hr, h⟩
end
section
variable {prog : Program} {w : World} {A : Around} {E : Value → Shared → Prop} {s : Shared}
theorem oneLt_tups {xs ys : List PyData} {a b : Value} {as bs : List Addr} {Q : Bool → Shared → Prop} (ra : Reads s.heap a (.tuple xs) as) (rb : Reads s.heap b (.tuple ys) bs) (hal : alikeAll xs ys = true)
    (hu : A.units + min (PyData.tuple xs).depth (PyData.tuple ys).depth < cLine) (hq : Q (dataLt (.tuple xs) (.tuple ys)) s) : wpAny (model prog w) A (oneLt' true a b) Q E s := by
  cases ra with
  | @tuple l o vs n _ as₁ h1 h2 h3 h4 =>
    cases rb with
    | @tuple l' o' vs' n' _ bs₁ k1 k2 k3 k4 =>
      have n1 : vs.size = xs.length := by simpa using SeqAt.ReadsAll.length _ _ _ h4
      have n2 : vs'.size = ys.length := by simpa using SeqAt.ReadsAll.length _ _ _ k4
      rw [dataLt_tuple, ← firstLt_toks xs ys hal, ← n1, ← n2] at hq
      rw [oneLt'_eq]
      simp only [if_true]
      refine wpAny_bind (wpAny_cRoomFor (room_here hu) ?_)
      refine wpAny_bind (wpAny_callSpecialIfBound?_slot (T := "tuple") ⟨_, h1, h2⟩ F.slot_tuple_lt (call_tuple_lt (e := pairEq xs ys) (r := fun j => dataLt (xs.getD j .none) (ys.getD j .none)) ⟨_, h1, h2, _, h3⟩ ⟨_, k1, k2, _, k3⟩ (fun j j1 j2 => ?_) (fun j j1 j2 hj => ?_) ?_))
      · have := eqAt_alikeAll xs ys A.in1 s vs.toList vs'.toList _ _ h4 k4 hal (room_in hu) j (by simpa using j1) (by simpa using j2)
        simpa using this
      · have := rcLt_alikeAll xs ys A.in1 s vs.toList vs'.toList _ _ h4 k4 hal (room_in hu) j (by simpa using j1) (by simpa using j2) hj
        simpa using this
      · exact wpAny_truthy_bool hq
/-- whether a datum is a tuple with an item -/
def has1 : PyData → Bool
  | .tuple (_ :: _) => true
  | _ => false
theorem firsts_mix : ∀ {vs : List Value} {ds : List PyData}, EachIs (fun v d => ∃ as, Reads s.heap v d as) vs ds → (∀ d ∈ ds, ∃ xs, d = .tuple xs) →
    ∃ fs : List (Option Value), fs.map (·.isSome) = ds.map has1 ∧ ∀ {Q : List (Option Value) → Shared → Prop} {E : Value → Shared → Prop}, Q fs s → wpAny (model prog w) A (vs.mapM firstOfTuple') Q E s
  | _, _, .nil, _ => ⟨[], rfl, fun h => by rw [List.mapM_nil]; exact wpAny_pure h⟩
  | _, _, .cons (b := d) ⟨as, r⟩ t, ht => by
    obtain ⟨fs, h1, h2⟩ := firsts_mix t fun d hd => ht d (List.mem_cons_of_mem _ hd)
    obtain ⟨xs, rfl⟩ := ht d (List.mem_cons_self ..)
    cases r with
    | @tuple a o ys n _ _ ho hc hd hr =>
      refine ⟨ys[0]? :: fs, ?_, fun {Q E} hq => ?_⟩
      · rw [List.map_cons, List.map_cons, h1]
        congr 1
        have hl : ys.size = xs.length := by simpa using SeqAt.ReadsAll.length _ _ _ hr
        cases xs with
        | nil => simp [has1, hl]
        | cons x xs => simp [has1, hl]
      · rw [List.mapM_cons]
        refine wpAny_bind ?_
        rw [kas_first_eq]
        refine wpAny_bind (Looks.here (show Looks (model prog w) s.heap (typeOf (.ref a)) o.cls from (Looks.ld ho).andThen .now) ?_)
        rw [hc, if_neg (by first | decide | simp)]
        refine wpAny_bind (listItems_at ho hd (wpAny_pure ?_))
        exact wpAny_bind (h2 (Q := fun bs s' => wpAny (model prog w) A (pure (ys[0]? :: bs)) Q E s') (wpAny_pure hq))
/-- tuples, alike, can be sorted, some may be empty -/
theorem sorts_tups {vs : List Value} {ds : List PyData} (e : EachIs (fun v d => ∃ as, Reads s.heap v d as) vs ds) (hal : AllAlike ds) (ht : ∀ d ∈ ds, ∃ xs, d = .tuple xs) (hu : ∀ d, d ∈ ds → A.units + d.depth < cLine) : SortsAt prog w A s (dataKind s.heap ds) vs := by
  by_cases hall : ds.all has1 = true
  · refine SortsAt.data e hal (.inl fun d hd => ?_) hu
    obtain ⟨xs, rfl⟩ := ht d hd
    have := List.all_eq_true.mp hall _ hd
    cases xs with
    | nil => exact absurd this (by simp [has1])
    | cons x r => exact ⟨x, r, rfl⟩
  have room : ∀ {d d' : PyData}, d ∈ ds → A.units + min d.depth d'.depth < cLine := fun {d d'} hd => Nat.lt_of_le_of_lt (Nat.add_le_add_left (Nat.min_le_left _ _) _) (hu d hd)
  refine ⟨fun v hv => ?_, ?_⟩
  · obtain ⟨d, hd, as, r⟩ := e.left v hv
    exact ⟨_, dataKind_some hal hd r⟩
  obtain ⟨fs, hf1, hf2⟩ := firsts_mix (prog := prog) (w := w) (A := A) e ht
  have hallf : (fs.toArray.all fun x => x.isSome) = false := by
    have : (fs.map (·.isSome)).all id = false := by
      rw [hf1]
      rw [List.all_map]
      exact Bool.eq_false_iff.mpr hall
    rw [List.all_map] at this
    simpa using this
  by_cases hb : ((fs.toArray[0]?).bind id).isSome = true
  · refine ⟨general', ?_, fun h2 E Q hq => ?_⟩
    · intro E x y a b Q ha hb hq
      obtain ⟨d, as, hd, ra, rfl⟩ := dataKind_inv ha
      obtain ⟨d', as', hd', rb, rfl⟩ := dataKind_inv hb
      show wpAny (model prog w) A (oneLt' false x y) Q E s
      obtain ⟨xs, ex⟩ := ht d hd
      exact oneLt_alike (fun z => by cases z) ra rb (hal d hd d' hd') (by rw [ex]; intro z; cases z) (room hd) hq
    · rw [keyKind'_eq, List.mapM_toArray, map_eq_pure_bind]
      refine wpAny_bind (wpAny_bind (hf2 (wpAny_pure ?_)))
      rw [if_neg (by rw [hallf]; simp), if_pos hb]
      exact wpAny_pure hq
  · refine ⟨oneType', ?_, fun h2 E Q hq => ?_⟩
    · intro E x y a b Q ha hb hq
      obtain ⟨d, as, hd, ra, rfl⟩ := dataKind_inv ha
      obtain ⟨d', as', hd', rb, rfl⟩ := dataKind_inv hb
      rw [keyLt'_oneType]
      obtain ⟨xs, rfl⟩ := ht d hd
      obtain ⟨ys, rfl⟩ := ht d' hd'
      exact oneLt_tups ra rb (by simpa [alike] using hal _ hd _ hd') (room hd) hq
    · rw [keyKind'_eq, List.mapM_toArray, map_eq_pure_bind]
      refine wpAny_bind (wpAny_bind (hf2 (wpAny_pure ?_)))
      rw [if_neg (by rw [hallf]; simp), if_neg hb]
      rw [oneTypeOnly'_eq, List.mapM_toArray, map_eq_pure_bind]
      refine wpAny_bind (wpAny_bind (wpAny_bind (kas_mapM (r := Value.type "tuple") _ (fun v hv Q' hq => ?_) (wpAny_pure ?_))))
      · obtain ⟨d, hd, as, r⟩ := e.left v hv
        obtain ⟨xs, rfl⟩ := ht d hd
        exact (looks_reads r).here hq
      · obtain ⟨v₁, rest, rfl⟩ : ∃ v₁ rest, vs = v₁ :: rest := by
          match vs, h2 with
          | v₁ :: rest, _ => exact ⟨v₁, rest, rfl⟩
        have hall2 : ((List.map (fun _ => Value.type "tuple") (v₁ :: rest)).toArray.all fun x => x == Value.type "tuple") = true := by
          simp only [List.all_toArray, List.all_map, List.all_eq_true]
          intro _ _
          rfl
        have h0 : (List.map (fun _ => Value.type "tuple") (v₁ :: rest)).toArray[0]? = some (Value.type "tuple") := by simp
        rw [h0]
        simp only [hall2, if_true]
        exact wpAny_pure (wpAny_pure hq)
/-- can be sorted -/
def SortableT (ds : List PyData) : Prop := Sortable ds ∨ ∀ d ∈ ds, ∃ xs, d = .tuple xs
theorem sorts_both {vs : List Value} {ds : List PyData} (e : EachIs (fun v d => ∃ as, Reads s.heap v d as) vs ds) (hal : AllAlike ds) (hk : SortableT ds) (hu : ∀ d, d ∈ ds → A.units + d.depth < cLine) : SortsAt prog w A s (dataKind s.heap ds) vs := by
  rcases hk with hk | hk
  · exact SortsAt.data e hal hk hu
  · exact sorts_tups e hal hk hu
/-- the items of a tuple are collected as those of a list -/
theorem collect_tup {l : Addr} {vs : List Value} {Q : List Value → Shared → Prop} (hl : s.heap.IsTuple l vs.toArray)
    (h : Q vs { s with heap := (s.heap.push (seqObj "list" #[] 0)).update s.heap.objs.size (Obj.mapSeq (· ++ vs.toArray)) }) (hsz : vs.length ≤ sizeLine) :
    wpAny (model prog w) A (collect (.ref l)) Q E s := by
  obtain ⟨o, ho, hc, n, hd⟩ := id hl
  unfold collect
  refine wpAny_bind (wpAny_runValue (codeAny_builtin entry_proto_collect' ?_))
  show wpAny _ _ (do again (.builtin "list.__iadd__" ⟨[← newList [], .ref l], []⟩)) _ _ s
  refine wpAny_bind (wpAny_newList (wpAny_pure ⟨Code.quiet_builtin _ (by decide +kernel), codeAny_builtin entry_list_iadd' ?_⟩))
  show wpAny _ _ (Builtin.List.listExtendWith (.ref s.heap.objs.size) (.ref l) (.ref s.heap.objs.size)) _ _ { s with heap := s.heap.push (seqObj "list" #[] 0) }
  unfold Builtin.List.listExtendWith
  have ho' : (s.heap.push (seqObj "list" #[] 0)).get? l = some o := Heap.get?_push_of_some _ ho
  refine wpAny_bind (wpAny_typeOf (T := "tuple") ⟨o, ho', hc⟩ ?_)
  have ht : (Value.type "tuple" == Value.type "tuple") = true := by rfl
  rw [if_pos (by rw [ht]; simp)]
  refine wpAny_bind (listItems_at ho' hd ?_)
  refine wpAny_bind (listItems_at (xs := #[]) (n := 0) (Heap.get?_push_size _ rfl) rfl ?_)
  rw [if_neg (by simp)]
  refine wpAny_bind (listUpdate_at (xs := #[]) (n := 0) (Heap.get?_push_size _ rfl) rfl ?_ (Nat.zero_le _) (by show (#[] ++ vs.toArray).size ≤ sizeLine + 1; simp only [Array.size_append, List.size_toArray, List.length_nil]; omega))
  refine wpAny_pure ?_
  show wpAny (model prog w) A (do
      let o ← load s.heap.objs.size
      match o.data with
      | .seq xs _ => pure xs.toList
      | _ => unsupported "internal:collect") Q E { s with heap := (s.heap.push (seqObj "list" #[] 0)).update s.heap.objs.size (Obj.mapSeq (· ++ vs.toArray)) }
  refine wpAny_bind (wpAny_load (get?_update_seq (Heap.get?_push_size _ rfl) _) ?_)
  show wpAny _ _ (pure ((#[] : Array Value) ++ vs.toArray).toList) Q E _
  rw [show ((#[] : Array Value) ++ vs.toArray).toList = vs by simp]
  exact wpAny_pure h
theorem sorted_of_tup {l : Addr} {vs : List Value} {Q : Value → Shared → Prop} (hl : s.heap.IsTuple l vs.toArray) (hL : vs.length ≤ sizeLine)
    (body : ∀ E' : Value → Shared → Prop, wpAny (model prog w) A.in1.in1 (Builtin.«list.sort» ⟨[.ref (s.heap.objs.size + 1)], []⟩) (fun f s' => f = .done (.ret .none) ∧ Q (.ref (s.heap.objs.size + 1)) s') E' { s with heap := copyHeap s.heap vs }) :
    wpAny (model prog w) A (call (.builtin "sorted") [.ref l] []) Q E s := by
  refine call_function_entry_kw kind_sorted plain_sorted entry_sorted (args_sorted1 _) ?_
  unfold Builtin.«sorted»
  refine wpAny_bind (m := checkCount "sorted" 1 1 _) (wpAny_pure ?_)
  refine wpAny_bind (collect_tup hl ?_ hL)
  refine wpAny_bind (wpAny_newList ?_ hL)
  have hsz : ((s.heap.push (seqObj "list" #[] 0)).update s.heap.objs.size (Obj.mapSeq (· ++ vs.toArray))).objs.size = s.heap.objs.size + 1 := by
    rw [Heap.size_update, size_push']
  show wpAny _ _ _ _ _ { s with heap := copyHeap s.heap vs }
  rw [hsz]
  refine wpAny_bind (wpAny_holding (wpAny_call_entry_kw slot_list_sort ⟨_, copyHeap_at s.heap vs, rfl⟩ entry_list_sort ?body (args_list_sort _)))
  case body =>
    show wpAny (model prog w) A.in1.in1 (Builtin.«list.sort» ⟨[.ref (s.heap.objs.size + 1)], []⟩) _ _ _
    refine wpAny_mono (body _) (fun f s' hf => ?_) fun _ _ e => e
    obtain ⟨rfl, hq⟩ := hf
    exact ⟨_, rfl, wpAny_pure ⟨_, rfl, hq⟩⟩
variable {β : Type} {vs : List Value} {bs : List β} {enc : β → PyData} {R : Value → β → Prop}
theorem sorted_dataT {l : Addr} {Q : Value → Shared → Prop} (hl : s.heap.IsList l vs.toArray) (e : EachIs R vs bs) (er : EachIs (fun v b => ∃ as, Reads s.heap v (enc b) as) vs bs) (hal : AllAlike (bs.map enc)) (hk : SortableT (bs.map enc)) (hL : bs.length ≤ sizeLine)
    (hu : ∀ b, b ∈ bs → A.units + 2 + (enc b).depth < cLine) (h : ∀ out, out.length = bs.length → EachIs R out (bs.mergeSort (dataLe false enc)) → Q (.ref (s.heap.objs.size + 1)) { s with heap := sortedAll s.heap vs (List.toArray out) }) :
    wpAny (model prog w) A (call (.builtin "sorted") [.ref l]) Q E s := by
  have er' : EachIs (fun v b => ∃ as, Reads (sortingHeap (copyHeap s.heap vs) (s.heap.objs.size + 1) vs) v (enc b) as) vs bs := er.mono fun _ _ ⟨as, r⟩ => ⟨as, PyProof.Rows.Reads.keeps (fun _ _ => sorting_copy_old) r⟩
  exact sorted_vals hl (sorts_both (s := { s with heap := sortingHeap (copyHeap s.heap vs) (s.heap.objs.size + 1) vs }) (each_map (R := fun v d => ∃ as, Reads (sortingHeap (copyHeap s.heap vs) (s.heap.objs.size + 1) vs) v d as) enc er') hal hk (bound_map hu)) (by rw [e.length]; exact hL)
    (h _ (by rw [sortVals_length false rfl]; exact e.length) (sortVals_data false e er' hal))
theorem sorted_dataU {l : Addr} {Q : Value → Shared → Prop} (hl : s.heap.IsTuple l vs.toArray) (e : EachIs R vs bs) (er : EachIs (fun v b => ∃ as, Reads s.heap v (enc b) as) vs bs) (hal : AllAlike (bs.map enc)) (hk : SortableT (bs.map enc)) (hL : bs.length ≤ sizeLine)
    (hu : ∀ b, b ∈ bs → A.units + 2 + (enc b).depth < cLine) (h : ∀ out, out.length = bs.length → EachIs R out (bs.mergeSort (dataLe false enc)) → Q (.ref (s.heap.objs.size + 1)) { s with heap := sortedAll s.heap vs (List.toArray out) }) :
    wpAny (model prog w) A (call (.builtin "sorted") [.ref l]) Q E s := by
  have er' : EachIs (fun v b => ∃ as, Reads (sortingHeap (copyHeap s.heap vs) (s.heap.objs.size + 1) vs) v (enc b) as) vs bs := er.mono fun _ _ ⟨as, r⟩ => ⟨as, PyProof.Rows.Reads.keeps (fun _ _ => sorting_copy_old) r⟩
  have S := sorts_both (prog := prog) (w := w) (A := A.in1.in1) (s := { s with heap := sortingHeap (copyHeap s.heap vs) (s.heap.objs.size + 1) vs }) (each_map (R := fun v d => ∃ as, Reads (sortingHeap (copyHeap s.heap vs) (s.heap.objs.size + 1) vs) v d as) enc er') hal hk (bound_map hu)
  have hL' : vs.length ≤ sizeLine := by rw [e.length]; exact hL
  exact sorted_of_tup hl hL' fun _ => list_sort_vals (s := { s with heap := copyHeap s.heap vs }) (copyHeap_at s.heap vs) S hL' ⟨rfl, h _ (by rw [sortVals_length false rfl]; exact e.length) (sortVals_data false e er' hal)⟩
end
end GV
set_option Elab.async false
set_option linter.all false
set_option maxRecDepth 100000
set_option maxHeartbeats 4000000
/-! GE3: slices backwards; sorted. -/
namespace GV
open PySem PySem.Spec PyProof.Rows L2 HT
/-- how many items xs[lo::-1] has -/
def cntB (n : Nat) : Option Nat → Nat
  | none => n
  | some k => min (k + 1) n
theorem pick_take {α : Type} (xs : Array α) (k : Nat) : (List.range k).filterMap (xs[·]?) = xs.toList.take k := by
  have h := pick_run xs 0 k
  have e : (List.range k).map (0 + ·) = List.range k := by
    rw [show ((0 + ·) : Nat → Nat) = id from funext fun k => Nat.zero_add k, List.map_id]
  rw [e, List.drop_zero] at h
  exact h
theorem rv_bounds (n : Nat) (lo : Option Nat) : sliceBounds (lo.map fun k => (k : Int)) none (some (-1)) n = ((cntB n lo : Int) - 1, -1, -1) := by
  cases lo with
  | none => rfl
  | some k =>
    simp only [sliceBounds, cntB, Option.map_some, Option.getD_some]
    have h1 : ¬ ((-1 : Int) > 0) := by decide
    have h2 : ¬ ((k : Int) < 0) := by omega
    simp only [h1, h2, if_false]
    refine Prod.ext ?_ rfl
    show max (-1) (min (k : Int) ((n : Int) - 1)) = ((min (k + 1) n : Nat) : Int) - 1
    omega
theorem rv_pick (items : Array Value) (lo : Option Nat) : slicePick items (lo.map fun k => (k : Int)) none (some (-1)) = ((items.toList.take (cntB items.size lo)).reverse).toArray := by
  unfold slicePick
  rw [rv_bounds]
  show ((sliceRange ((cntB items.size lo : Int) - 1) (-1) (-1)).filterMap (items[·]?)).toArray = _
  rw [PySem.W.krv_sliceRange, PySem.W.krv_range, List.filterMap_reverse, pick_take]
theorem rv_adjust (n : Nat) (lo : Option Nat) : Builtin.Slice.sliceAdjust (lo.map fun k => (k : Int)) none (-1) (n : Int) = ((cntB n lo : Int) - 1, -1) := by
  have h1 : ((-1 : Int) < 0) := by decide
  unfold Builtin.Slice.sliceAdjust
  simp only [h1, if_true]
  cases lo with
  | none => rfl
  | some k =>
    have h2 : ¬ ((k : Int) < 0) := by omega
    simp only [Option.map_some, h2, if_false, cntB]
    refine Prod.ext ?_ rfl
    show min (k : Int) ((n : Int) - 1) = ((min (k + 1) n : Nat) : Int) - 1
    omega
theorem rv_places (c : Nat) : Builtin.Slice.slicePlaces ((c : Int) - 1) (-1) (-1) = c := by
  unfold Builtin.Slice.slicePlaces
  have h1 : ¬ ((-1 : Int) > 0) := by decide
  simp only [h1, if_false]
  have e : (- -1 : Int) = 1 := by decide
  rw [e, Int.ediv_one]
  split <;> omega
theorem rv_items (xs : Array Value) (c : Nat) : ((List.range c).filterMap fun (k : Nat) => xs[(((c : Int) - 1) + (k : Int) * (-1)).toNat]?).toArray = ((xs.toList.take c).reverse).toArray := by
  have e : ((List.range c).filterMap fun (k : Nat) => xs[(((c : Int) - 1) + (k : Int) * (-1)).toNat]?) = (((List.range c).map fun k => c - 1 - k)).filterMap (xs[·]?) := by
    rw [List.filterMap_map]
    have hf : (fun (k : Nat) => xs[(((c : Int) - 1) + (k : Int) * (-1)).toNat]?) = (fun x => xs[x]?) ∘ fun k => c - 1 - k := by
      funext k
      show xs[(((c : Int) - 1) + (k : Int) * (-1)).toNat]? = xs[c - 1 - k]?
      have : (((c : Int) - 1) + (k : Int) * (-1)).toNat = c - 1 - k := by omega
      rw [this]
    rw [hf]
  rw [e, PySem.W.krv_range, List.filterMap_reverse, pick_take]
section
variable {prog : Program} {w : World} {A : Around} {E : Value → Shared → Prop} {s : Shared}
theorem rv_applied {sl : Addr} {vl vu vs : Value} {lo : Option Nat} {n : Nat} {Q : Int × Int × Nat → Shared → Prop} (hs : s.heap.IsSliceOf sl vl vu vs) (pl : IsPart vl (lo.map fun k => (k : Int))) (pu : IsPart vu none) (ps : IsPart vs (some (-1)))
    (h : Q (((cntB n lo : Nat) : Int) - 1, -1, cntB n lo) s) : wpAny (model prog w) A (Builtin.Slice.sliceApplied (.ref sl) (pure (n : Int))) Q E s := by
  obtain ⟨os, hos, hcs, hds⟩ := id hs
  unfold Builtin.Slice.sliceApplied Builtin.Slice.sliceFields
  refine wpAny_bind (wpAny_bind (wpAny_field hos hds (x := vl) rfl (wpAny_bind (wpAny_field hos hds (x := vu) rfl (wpAny_bind (wpAny_field hos hds (x := vs) rfl (wpAny_pure ?_)))))))
  refine wpAny_bind (slicePart_ ps ?_)
  show wpAny _ _ (if ((-1 : Int) == 0) = true then _ else _) _ _ s
  rw [if_neg (by decide)]
  refine wpAny_bind (slicePart_ pl (wpAny_bind (slicePart_ pu (wpAny_bind (wpAny_pure ?_)))))
  show wpAny _ _ (match Builtin.Slice.sliceAdjust (lo.map fun k => (k : Int)) none (-1) (n : Int) with | (lo, hi) => pure (lo, (-1 : Int), Builtin.Slice.slicePlaces lo hi (-1))) _ _ s
  rw [rv_adjust n lo]
  show wpAny _ _ (pure (((cntB n lo : Nat) : Int) - 1, (-1 : Int), Builtin.Slice.slicePlaces (((cntB n lo : Nat) : Int) - 1) (-1) (-1))) _ _ s
  rw [rv_places]
  exact wpAny_pure h
theorem rv_tuple {t sl : Addr} {items : Array Value} {vl vu vs : Value} {lo : Option Nat} {Q : Value → Shared → Prop} (ht : IsTup s.heap t items) (hs : s.heap.IsSliceOf sl vl vu vs) (pl : IsPart vl (lo.map fun k => (k : Int))) (pu : IsPart vu none) (ps : IsPart vs (some (-1)))
    (h : Q (.ref s.heap.objs.size) { s with heap := s.heap.push { cls := .type "tuple", data := .seq ((items.toList.take (cntB items.size lo)).reverse).toArray } })
    (hsz : items.size ≤ sizeLine) : wpAny (model prog w) A (getItem (.ref t) (.ref sl)) Q E s := by
  have htake : sizeOk (.seq ((items.toList.take (cntB items.size lo)).reverse).toArray) := by
    show ((items.toList.take (cntB items.size lo)).reverse).toArray.size ≤ sizeLine
    rw [List.size_toArray, List.length_reverse, List.length_take, Array.length_toList]
    omega
  obtain ⟨os, hos, hcs, hds⟩ := id hs
  have hTs : s.TypeIs (.ref sl) "slice" := ⟨os, hos, hcs⟩
  unfold getItem
  try with_reducible refine wpAny_holding ?_
  first | refine wpAny_bind (wpAny_pure ?_) | skip
  refine wpAny_bind (wpAny_sequenceKey ht.typeIs (by decide) ?_)
  refine wpAny_bind (wpAny_callSpecial?_slot (name := Str.ofString "__getitem__") ht.typeIs PyProof.Rows.slot_tuple_getitem
    (wpAny_call_entry PyProof.Rows.slot_tuple_getitem ht.typeIs entry_tuple_getitem ?_ (args_tuple_getitem _ _)))
  show wpAny _ _ (Builtin.Tuple.tupleItemsOf (.ref t) >>= _) _ _ s
  refine wpAny_bind (tupleItemsOf_ ht ?_)
  refine wpAny_bind (wpAny_typeOf hTs ?_)
  rw [if_pos (by decide)]
  refine wpAny_bind (rv_applied hs pl pu ps ?_)
  show wpAny _ _ (if ((((cntB items.size lo : Nat) : Int) - 1) == 0 && (-1 : Int) == 1 && (cntB items.size lo) == items.size) = true then _ else _) _ _ s
  rw [if_neg (by simp), rv_items]
  first
    | exact wpAny_bind (m := Builtin.Tuple.tupleExact _) (wpAny_newObj_type (wpAny_pure ⟨_, rfl, wpAny_pure h⟩) htake)
    | exact wpAny_bind (m := Builtin.Tuple.tupleExact _) (wpAny_newObj_type (wpAny_bind (wpAny_pure (wpAny_pure ⟨_, rfl, wpAny_pure h⟩))) htake)
    | exact wpAny_bind (wpAny_bind (m := Builtin.Tuple.tupleExact _) (wpAny_newObj_type (wpAny_pure (wpAny_pure ⟨_, rfl, wpAny_pure h⟩)) htake))
    | exact wpAny_bind (wpAny_bind (m := Builtin.Tuple.tupleExact _) (wpAny_newObj_type (wpAny_pure ⟨_, rfl, wpAny_pure h⟩) htake))
end
section
variable {X : Cx}
def revV (lo : Option Nat) (xs : List V) : List V := (xs.take (cntB xs.length lo)).reverse
def tRevA (K : PySem.W.Frag) (lo : Option Nat) (te : TE) : TE := fun σ H Q => te σ H fun x H1 => ∃ a xs, x = .ref a ∧
  ((SqL K H1 a xs ∧ ∀ p, H1 p = none → Q (.ref p) (upd H1 p (.lst (revV lo xs)))) ∨ (SqT K H1 a xs ∧ ∀ p, H1 p = none → Q (.ref p) (upd H1 p (.tup (revV lo xs)))))
def tLo : Option Nat → TO
  | none => tNoPart
  | some k => tPart (tC (.int (k : Int)))
theorem pe_revA {e : Expr} {te : TE} {k : Nat} {p1 p2 p3 pos : Pos} {lx : Option Expr} (lo : Option Nat) (hlo : PO X lx (tLo lo)) (he : PE X e te) : PE X (.Subscript e (.Slice lx none (some (.UnaryOp .USub (.Constant (.int 1) k p1) p2)) p3) pos) (tRevA X.K lo te) := by
  refine ⟨fun pins s σ H Q I h => ?_⟩
  refine Subscript_ (thn (he.run pins s σ H _ I h) fun v s1 ⟨x, H1, I1, r1, q1⟩ => ?_)
  obtain ⟨a, xs, ex, q⟩ := q1
  subst ex
  cases r1
  have hst : PO X (some (.UnaryOp .USub (.Constant (.int 1) k p1) p2)) (tPart (tUn (rU fun i => .int (-i)) (tC (.int 1)))) := po_some (pe_un un_neg pe_int)
  have hl0 : tLo lo σ H1 (fun o H2 => o = (lo.map fun k => (k : Int)) ∧ H2 = H1) := by
    cases lo with
    | none => exact ⟨rfl, rfl⟩
    | some k => exact ⟨_, rfl, rfl, rfl⟩
  refine wpAny_Slice (thn (hlo.run pins s1 σ H1 _ I1 hl0) fun vl s2 ⟨l, H2, I2, pl, el, e2⟩ => ?_)
  subst el e2
  refine thn (po_none.run pins s2 σ H2 (fun o H3 => o = none ∧ H3 = H2) I2 ⟨rfl, rfl⟩) fun vu s3 ⟨u, H3, I3, pu, eu, e3⟩ => ?_
  subst eu e3
  refine thn (hst.run pins s3 σ H3 (fun o H4 => o = some (-1) ∧ H4 = H3) I3 ⟨1, rfl, -1, rfl, rfl, rfl⟩) fun vs s4 ⟨o, H4, I4, ps, eo, e4⟩ => ?_
  subst eo e4
  have I5 : Inv X pins σ H4 { s4 with heap := s4.heap.push { cls := .type "slice", data := .fields #[vl, vu, vs] } } := I4.kept (t' := s4.toks) fun b ob q => Heap.get?_push_of_some _ q
  show wpAny (model X.prog X.w) X.A (subscriptTail e (.Slice lx none (some (.UnaryOp .USub (.Constant (.int 1) k p1) p2)) p3) (.ref a) (.ref s4.heap.objs.size)) (EP X pins σ Q) X.xe { s4 with heap := s4.heap.push { cls := .type "slice", data := .fields #[vl, vu, vs] } }
  have hops : ∃ ops, subscripted (.Slice lx none (some (.UnaryOp .USub (.Constant (.int 1) k p1) p2)) p3) false (.ref a) (.ref s4.heap.objs.size) = operate ops (getItem (.ref a) (.ref s4.heap.objs.size)) := by
    first | exact ⟨[.ref a, .ref s4.heap.objs.size], by with_unfolding_all rfl⟩ | (cases lx <;> exact ⟨[.ref a, .ref s4.heap.objs.size], by with_unfolding_all rfl⟩)
  obtain ⟨ops, hops⟩ := hops
  rcases q with ⟨hx, q⟩ | ⟨hx, q⟩
  · obtain ⟨its, r, ht, hz⟩ := I5.list hx
    have hlen := r.length
    refine tail_any (ops := ops) ht.isList.typeIs (PySem.slot_list_getitem.lookup) ?_ hops
    refine wpAny_getItem_list_slice ht.isList (Heap.IsSliceOf.new _ vl vu vs) pl pu ps (by decide) ?_ (by rw [List.size_toArray]; omega)
    rw [rv_pick]
    refine ⟨.ref _, _, I5.laid (t' := s4.toks) (o := .lst (revV lo xs)) (fun b ob q => Heap.get?_push_of_some _ q) (Nat.le_refl _) ?_, rfl, q _ (I5.hok.fresh (Nat.le_refl _))⟩
    refine ⟨by unfold revV; rw [List.length_reverse, List.length_take]; omega, _, 0, ?_, Heap.get?_push_size _ rfl⟩
    unfold revV
    rw [hlen]
    exact (r.take _).reverse
  · obtain ⟨its, r, ht, hz⟩ := I5.tuple hx
    have hlen := r.length
    refine tail_any (ops := ops) ht.typeIs (PyProof.Rows.slot_tuple_getitem.lookup) ?_ hops
    refine rv_tuple ht (Heap.IsSliceOf.new _ vl vu vs) pl pu ps ?_ (by rw [List.size_toArray]; omega)
    refine ⟨.ref _, _, I5.laid (t' := s4.toks) (o := .tup (revV lo xs)) (fun b ob q => Heap.get?_push_of_some _ q) (Nat.le_refl _) ?_, rfl, q _ (I5.hok.fresh (Nat.le_refl _))⟩
    refine ⟨by unfold revV; rw [List.length_reverse, List.length_take]; omega, _, ?_, PyProof.Rows.IsTup.new _ _⟩
    unfold revV
    rw [hlen]
    exact (r.take _).reverse
/-! ### sorted -/
def rSortD (K : PySem.W.Frag) : List V → Hp → VK → Prop := fun vs H Q => ∃ (a : Addr) (bs : List (V × D)), vs = [V.ref a] ∧ (SqL K H a (bs.map (·.1)) ∨ SqT K H a (bs.map (·.1))) ∧ (∀ b ∈ bs, Dp K H b.1 b.2.py ∧ b.2.py.depth ≤ 50) ∧
  PySem.W.AllAlike (bs.map fun b => b.2.py) ∧ SortableT (bs.map fun b => b.2.py) ∧ ∀ p, H p = none → Q (.ref p) (upd H p (.lst ((bs.mergeSort (PySem.W.dataLe false fun b => b.2.py)).map (·.1))))
theorem each_rel {xs : List (V × D)} : ∀ {us : List Value}, Vals (xs.map (·.1)) us → PySem.W.EachIs (fun u (b : V × D) => RelV b.1 u) us xs := by
  induction xs with
  | nil => intro us r; cases r; exact .nil
  | cons x xs ih => intro us r; cases r with | cons a b => exact .cons a (ih b)
theorem rel_each {xs : List (V × D)} : ∀ {us : List Value}, PySem.W.EachIs (fun u (b : V × D) => RelV b.1 u) us xs → Vals (xs.map (·.1)) us := by
  induction xs with
  | nil => intro us r; cases r; exact .nil
  | cons x xs ih => intro us r; cases r with | cons a b => exact .cons a (ih b)
theorem cr_sortD (hu : X.A.units + 65 < cLine) : CallR X (.builtin "sorted") (rSortD X.K) := by
  intro pins s σ H vs us Q I r h
  obtain ⟨a, bs, rfl, hs, hd, hal, hso, q⟩ := h
  rw [Vals.ref1 r]
  obtain ⟨its, rv, hz, main⟩ : ∃ its : List Value, Vals (bs.map (·.1)) its ∧ (bs.map (·.1)).length ≤ sizeLine ∧ ∀ {Q : Value → Shared → Prop} {E : Value → Shared → Prop}, PySem.W.EachIs (fun u (b : V × D) => RelV b.1 u) its bs → PySem.W.EachIs (fun u (b : V × D) => ∃ as, Reads s.heap u b.2.py as) its bs → PySem.W.AllAlike (bs.map fun b => b.2.py) → SortableT (bs.map fun b => b.2.py) → bs.length ≤ sizeLine →
      (∀ b, b ∈ bs → X.A.units + 2 + b.2.py.depth < cLine) → (∀ out, out.length = bs.length → PySem.W.EachIs (fun u (b : V × D) => RelV b.1 u) out (bs.mergeSort (PySem.W.dataLe false fun b => b.2.py)) → Q (.ref (s.heap.objs.size + 1)) { s with heap := PyProof.Rows.sortedAll s.heap its (List.toArray out) }) →
      wpAny (model X.prog X.w) X.A (call (.builtin "sorted") [.ref a]) Q E s := by
    rcases hs with hs | hs
    · obtain ⟨its, rv, hl, hz⟩ := I.list hs
      exact ⟨its, rv, hz, fun e er hal hk hL hu h => sorted_dataT hl.isList e er hal hk hL hu h⟩
    · obtain ⟨its, rv, hl, hz⟩ := I.tuple hs
      obtain ⟨o, ho, hc, n, hd⟩ := hl
      exact ⟨its, rv, hz, fun e er hal hk hL hu h => sorted_dataU ⟨o, ho, hc, n, hd⟩ e er hal hk hL hu h⟩
  have e := each_rel rv
  have er : PySem.W.EachIs (fun u (b : V × D) => ∃ as, Reads s.heap u b.2.py as) its bs := by
    have : ∀ {us : List Value} {xs : List (V × D)}, PySem.W.EachIs (fun u (b : V × D) => RelV b.1 u) us xs → (∀ b ∈ xs, b ∈ bs) → PySem.W.EachIs (fun u (b : V × D) => ∃ as, Reads s.heap u b.2.py as) us xs := by
      intro us xs h
      induction h with
      | nil => intro _; exact .nil
      | cons h1 _ ih => intro hb; exact .cons (Dp.reads I _ _ _ (hd _ (hb _ (by simp))).1 h1) (ih fun b m => hb b (by simp [m]))
    exact this e fun b m => m
  have hlen : bs.length ≤ sizeLine := by simpa using hz
  refine main e er hal hso hlen (fun b hb => by have := (hd b hb).2; omega) fun out ho eo => ?_
  obtain ⟨ep, he'⟩ := PyProof.Rows.sortedAll_at s.heap its out.toArray
  refine ⟨.ref _, _, I.laid (t' := s.toks) (o := .lst ((bs.mergeSort (PySem.W.dataLe false fun b => b.2.py)).map (·.1))) (fun _ _ => PyProof.Rows.sortedAll_old) (Nat.le_succ _) ⟨?_, out, ep, rel_each eo, he'⟩, rfl, q _ (I.hok.fresh (Nat.le_succ _))⟩
  rw [List.length_map, List.length_mergeSort]
  exact hlen
end
end GV
set_option Elab.async false
set_option linter.all false
set_option maxRecDepth 100000
set_option maxHeartbeats 4000000
/-! GV6: operators: from the evaluator's word to the layer's readings. -/
namespace GV
open PySem L2
def BOp.py : BOp → Operator
  | .add => .Add | .sub => .Sub | .mul => .Mult | .fdiv => .FloorDiv | .mod => .Mod | .pow => .Pow
def COp.py : COp → CmpOp
  | .eq => .Eq | .ne => .NotEq | .lt => .Lt | .le => .LtE | .gt => .Gt | .ge => .GtE | .isin => .In | .notin => .NotIn | .is_ => .Is | .isnot => .IsNot
def rStrA : R2 := fun x y H Q => ∃ i j, x = .str i ∧ y = .str j ∧ i.length + j.length ≤ sizeLine ∧ Q (.str (i ++ j)) H
def rBin (K : PySem.W.Frag) : BOp → R2
  | .add => fun x y H Q => rI0 (fun i j => .int (i + j)) x y H Q ∨ rStrA x y H Q ∨ rCatA K x y H Q ∨ rCatR x y H Q
  | .sub => rI0 fun i j => .int (i - j)
  | .mul => fun x y H Q => rI CMul (fun i j => .int (i * j)) x y H Q ∨ rRepTA K x y H Q ∨ rRepR x y H Q
  | .fdiv => rI CDivW fun i j => .int (i / j)
  | .mod => rI (fun _ j => 0 < j) fun i j => .int (i % j)
  | .pow => rI CPow fun i j => .int (i ^ j.toNat)
theorem op_bin {X : Cx} (o : BOp) : OpR X (binaryOp o.py) (rBin X.K o) := by
  cases o with
  | add => exact op_add.or (op_add_str.or (op_catA.or op_catR))
  | sub => exact op_sub
  | mul => exact op_mul.or (op_repTA.or op_repR)
  | fdiv => exact op_fdivW
  | mod => exact op_mod
  | pow => exact op_pow
theorem small_le {n : Nat} (h : small n = true) : n ≤ sizeLine := Nat.le_trans (of_decide_eq_true h) (by decide)
theorem small_lt {n : Nat} (h : small n = true) : n < sizeLine := Nat.lt_of_le_of_lt (of_decide_eq_true h) (by decide)
section
variable {A : Stat} {W W0 : Wd} {H H0 : Hp} {h : MH} {Wx : WX} {σ : L2.St} {Q : VK}
/-- a value without a heap -/
theorem done_v {d : D} {v : V} (w : WOkA A W h H) (p : PostR A W H Wx σ (TR A H Q) (.ok (.v d) h)) (r : Rep A.K W H v d) : Q v H := p W H (Ext.refl W H) w v r
/-- a new tuple -/
theorem done_tup {vs : List V} {ds : List D} (w : WOkA A W h H) (p : PostR A W H Wx σ (TR A H Q) (.ok (.v (.tup ds)) h)) (r : RepL A.K W H vs ds) : ∀ q, H q = none → Q (.ref q) (upd H q (.tup vs)) := fun q n =>
  p W (upd H q (.tup vs)) (Ext.laid n) (w.laid n) (.ref q) (.tup (SqT.of upd_same) (RepL.ext w (Ext.laid n) r))
/-- a new list -/
theorem done_nl {vs : List V} {ds : List D} (w : WOkA A W h H) (p : PostR A W H Wx σ (TR A H Q) (.ok (.nl ds) h)) (r : RepL A.K W H vs ds) : ∀ q, H q = none → Q (.ref q) (upd H q (.lst vs)) := fun q n => by
  refine p W (upd H q (.lst vs)) (Ext.laid n) (w.laid n) (.ref q) ⟨q, vs, rfl, n, upd_same, RepL.ext w (Ext.laid n) r, fun z => w.frz q z n, fun z => ?_⟩
  rcases w.cov q z with ⟨xs, e⟩ | ⟨C, dx, fs, e⟩ | ⟨φ, e⟩ <;> rw [n] at e <;> cases e
theorem log2_lt_9000 {j : Int} (h : 0 < j ∧ j < 2 ^ 2000) : j.natAbs.log2 < 9000 := by
  have h1 : j.natAbs < 2 ^ 2000 := by
    have := h.2
    omega
  have h2 := PySem.Flt.log2_lt_of (by decide : 0 < 2000) h1
  omega
theorem bin_ints {o : BOp} {i j : Int} (w : WOkA A W h H) (p : PostR A W H Wx σ (TR A H Q) (O.of h ((binI o i j).map fun k => R.v (.int k)))) : rBin A.K o (.int i) (.int j) H Q := by
  cases o with
  | add => exact .inl ⟨i, j, rfl, rfl, done_v w p (.int _)⟩
  | sub => exact ⟨i, j, rfl, rfl, done_v w p (.int _)⟩
  | mul =>
    simp only [binI] at p
    split at p
    · rename_i hc
      refine .inl ⟨i, j, rfl, rfl, ?_, done_v w p (.int _)⟩
      unfold mulOk at hc
      rcases Bool.or_eq_true_iff.mp hc with z | z
      · exact .inl (of_decide_eq_true z)
      · exact .inr (of_decide_eq_true z)
    · exact False.elim p
  | fdiv =>
    simp only [binI] at p
    split at p
    · rename_i hc
      have z := of_decide_eq_true hc
      exact ⟨i, j, rfl, rfl, ⟨z.1, log2_lt_9000 z⟩, done_v w p (.int _)⟩
    · exact False.elim p
  | mod =>
    simp only [binI] at p
    split at p
    · rename_i hc
      exact ⟨i, j, rfl, rfl, hc, done_v w p (.int _)⟩
    · exact False.elim p
  | pow =>
    simp only [binI] at p
    split at p
    · rename_i hc
      have z := of_decide_eq_true hc
      exact ⟨i, j, rfl, rfl, ⟨z.1, by omega, z.2.2⟩, done_v w p (.int _)⟩
    · exact False.elim p
theorem bin_cat {xs ys : List D} {v u : V} {a b : R} (w : WOkA A W h H) (r1 : RRel A.K W H0 H v a) (r2 : RRel A.K W H0 H u b) (e1 : a.rd = .lst xs) (e2 : b.rd = .lst ys)
    (p : PostR A W H Wx σ (TR A H Q) (O.of h (if small (xs.length + ys.length) then some (R.nl (xs ++ ys)) else none))) : rBin A.K .add v u H Q := by
  split at p
  · rename_i hc
    obtain ⟨p1, vs, rfl, q1, q2, q3⟩ := r1.rdLst w e1
    obtain ⟨p2, us, rfl, q4, q5, q6⟩ := r2.rdLst w e2
    refine .inr (.inr (.inr ⟨p1, p2, vs, us, rfl, rfl, q1, q4, ?_, done_nl w p (q2.append q5)⟩))
    rw [q2.length, q5.length]
    exact small_le hc
  · exact False.elim p
theorem rep_len {xs : List D} {vs : List V} {k : Int} (q : RepL A.K W H vs xs) (h1 : 0 ≤ k ∧ k ≤ 1000) (h2 : xs.length ≤ 1000) : vs.length * k.toNat ≤ sizeLine := by
  rw [q.length]
  have : xs.length * k.toNat ≤ 1000 * 1000 := Nat.mul_le_mul h2 (by omega)
  exact Nat.le_trans this (by decide)
theorem bin_rep {xs : List D} {v : V} {a : R} {k : Int} (w : WOkA A W h H) (r1 : RRel A.K W H0 H v a) (e1 : a.rd = .lst xs)
    (p : PostR A W H Wx σ (TR A H Q) (O.of h (if decide (0 ≤ k ∧ k ≤ 1000) && decide (xs.length ≤ 1000) then some (R.nl (List.replicate k.toNat xs).flatten) else none))) : rBin A.K .mul v (.int k) H Q := by
  split at p
  · rename_i hc
    have hc1 := Bool.and_eq_true_iff.mp hc
    have z1 := of_decide_eq_true hc1.1
    have z2 := of_decide_eq_true hc1.2
    obtain ⟨p1, vs, rfl, q1, q2, q3⟩ := r1.rdLst w e1
    exact .inr (.inr ⟨p1, k, vs, rfl, rfl, q1, by omega, by omega, rep_len q2 z1 z2, done_nl w p (q2.flat _)⟩)
  · exact False.elim p
theorem bin_imp {o : BOp} {a b : R} {v u : V} (w : WOkA A W h H) (r1 : RRel A.K W H0 H v a) (r2 : RRel A.K W H0 H u b) (p : PostR A W H Wx σ (TR A H Q) (O.of h (binR o a b))) : rBin A.K o v u H Q := by
  unfold binR at p
  split at p
  · -- ints
    cases r1; cases r2
    exact bin_ints w p
  · -- texts
    split at p
    · rename_i hc
      cases r1; cases r2
      exact .inr (.inl ⟨_, _, rfl, rfl, small_le hc, done_v w p (.str _)⟩)
    · exact False.elim p
  · -- tuples
    split at p
    · rename_i xs ys hc
      cases r1 with
      | tup q1 q2 =>
        cases r2 with
        | tup q4 q5 =>
          rename_i a1 vs a2 us
          refine .inr (.inr (.inl ⟨a1, a2, vs, us, rfl, rfl, q1, q4, by rw [q2.length, q5.length]; exact small_le hc, fun e => ?_, fun _ e => ?_, fun _ _ => done_tup w p (q2.append q5)⟩))
          · subst e
            cases q2
            exact done_v w p (.tup q4 q5)
          · subst e
            cases q5
            rw [List.append_nil] at p
            exact done_v w p (.tup q1 q2)
    · exact False.elim p
  · -- lists
    split at p
    · rename_i e1 e2
      exact bin_cat w r1 r2 e1 e2 p
    · exact False.elim p
  · -- a tuple times
    split at p
    · rename_i xs k hc
      have hc1 := Bool.and_eq_true_iff.mp hc
      have z1 := of_decide_eq_true hc1.1
      have z2 := of_decide_eq_true hc1.2
      cases r2
      cases r1 with
      | tup q1 q2 =>
        rename_i a1 vs
        refine .inr (.inl ⟨a1, k, vs, rfl, rfl, q1, z1.1, z1.2, by rw [q2.length]; exact z2, fun e => ?_, fun _ _ => done_tup w p (q2.flat _)⟩)
        rcases e with e | e
        · subst e
          cases q2
          have e0 : (List.replicate k.toNat ([] : List D)).flatten = [] := by simp
          rw [e0] at p
          exact done_v w p (.tup q1 .nil)
        · subst e
          have e0 : (List.replicate (1 : Int).toNat xs).flatten = xs := by simp
          rw [e0] at p
          exact done_v w p (.tup q1 q2)
    · exact False.elim p
  · -- a list times
    split at p
    · rename_i e1
      cases r2
      exact bin_rep w r1 e1 p
    · exact False.elim p
  · exact False.elim p
end
end GV
set_option Elab.async false
set_option linter.all false
set_option maxRecDepth 100000
set_option maxHeartbeats 4000000
/-! GV7: comparisons. -/
namespace GV
open PySem L2
def rInS (neg : Bool) : R2 := fun x y H Q => ∃ i j, x = .str i ∧ y = .str j ∧ Q (.bl (if neg then !(!(Builtin.Str.occurrences j i 0 j.length 1).isEmpty) else !(Builtin.Str.occurrences j i 0 j.length 1).isEmpty)) H
def rIsN (neg : Bool) : R2 := fun x y H Q => y = .non ∧ Q (.bl (if neg then !decide (x = .non) else decide (x = .non))) H
def rCmp (K : PySem.W.Frag) : COp → R2
  | .eq => rEqD K
  | .ne => rNeD K
  | .lt => fun x y H Q => rI0 (fun i j => .bl (decide (i < j))) x y H Q ∨ rLtD K x y H Q
  | .le => rI0 fun i j => .bl (decide (i ≤ j))
  | .gt => rI0 fun i j => .bl (decide (j < i))
  | .ge => rI0 fun i j => .bl (decide (j ≤ i))
  | .isin => fun x y H Q => rInD K x y H Q ∨ rInT K x y H Q ∨ rInS false x y H Q
  | .notin => fun x y H Q => rNotInD K x y H Q ∨ rNotInT K x y H Q ∨ rInS true x y H Q
  | .is_ => fun x y H Q => rIsN false x y H Q ∨ rIsB x y H Q
  | .isnot => fun x y H Q => rIsN true x y H Q ∨ rNotB x y H Q
theorem op_cmp {X : Cx} (hu : X.A.units + 65 < cLine) (o : COp) : OpR X (compareOp o.py) (rCmp X.K o) := by
  cases o with
  | eq => exact op_eqD (by omega)
  | ne => exact op_neD (by omega)
  | lt => exact op_lt.or (op_ltD hu)
  | le => exact op_le
  | gt => exact op_gt
  | ge => exact op_ge
  | isin => exact (op_inD hu).or ((op_inT hu).or op_in_str)
  | notin => exact (op_notInD hu).or ((op_notInT hu).or op_notIn_str)
  | is_ => exact op_isN.or op_isBl
  | isnot => exact op_notN.or op_notBl
section
variable {A : Stat} {W : Wd} {H H0 : Hp} {h : MH} {Wx : WX} {σ : L2.St}
theorem Rep.non_iff {v : V} {d : D} (r : Rep A.K W H v d) : decide (v = .non) = d.isNon := by
  cases r <;> rfl
/-- the answer of a comparison -/
theorem cmp_imp {o : COp} {a b : R} {v u : V} {t : Bool} {Q : VK} (w : WOkA A W h H) (r1 : RRel A.K W H0 H v a) (r2 : RRel A.K W H0 H u b) (e : cmpR o a b = some t) (q : Q (.bl t) H) : rCmp A.K o v u H Q := by
  unfold cmpR at e
  split at e
  · split at e
    · rename_i hc
      obtain ⟨h1, h2⟩ := Bool.and_eq_true_iff.mp hc
      cases e
      refine ⟨_, _, r1.dp w h1, r2.dp w h2, shaped_py h1 (by decide), shaped_py h2 (by decide), ?_⟩
      rw [eqv_py _ _ _ _ h1 h2]
      exact q
    · cases e
  · split at e
    · rename_i hc
      obtain ⟨h1, h2⟩ := Bool.and_eq_true_iff.mp hc
      cases e
      refine ⟨_, _, r1.dp w h1, r2.dp w h2, shaped_py h1 (by decide), shaped_py h2 (by decide), ?_⟩
      rw [eqv_py _ _ _ _ h1 h2]
      exact q
    · cases e
  · cases e; cases r1; cases r2; exact .inl ⟨_, _, rfl, rfl, q⟩
  · cases e; cases r1; cases r2; exact ⟨_, _, rfl, rfl, q⟩
  · cases e; cases r1; cases r2; exact ⟨_, _, rfl, rfl, q⟩
  · cases e; cases r1; cases r2; exact ⟨_, _, rfl, rfl, q⟩
  · unfold D.ltb at e
    split at e
    · rename_i hc
      obtain ⟨h1, h3⟩ := Bool.and_eq_true_iff.mp hc
      obtain ⟨h1, h2⟩ := Bool.and_eq_true_iff.mp h1
      cases e
      refine .inr ⟨_, _, Rep.dp r1 h1, Rep.dp r2 h2, shaped_py h1 (by decide), h3, ?_, q⟩
      rw [D.py]
      exact fun z => nomatch z
    · cases e
  · -- in
    split at e
    · rename_i y hb
      split at e
      · rename_i x
        cases e
        cases r1
        cases b with
        | v d =>
          have e' : d = .str y := hb
          subst e'
          cases r2
          exact .inr (.inr ⟨_, _, rfl, rfl, q⟩)
        | nl _ => cases hb
        | bw _ => cases hb
      · cases e
    · rename_i d hns
      split at e
      · rename_i xs hseq
        split at e
        · rename_i hc
          obtain ⟨h1, h2⟩ := Bool.and_eq_true_iff.mp hc
          have h2' : ∀ d ∈ xs, d.okN 50 = true := List.all_eq_true.mp h2
          cases e
          cases hd : b.rd with
          | tup ys =>
            rw [hd] at hseq
            cases hseq
            have hok : b.rd.okN 51 = true := by rw [hd]; simpa [D.okN] using h2'
            have d2 := r2.dp w hok
            have s2 := shaped_py hok (by decide)
            rw [hd, D.py] at d2 s2
            refine .inr (.inl ⟨_, _, r1.dp w h1, d2, shaped_py h1 (by decide), s2, ?_⟩)
            rw [any_eqv h1 h2']
            exact q
          | lst ys =>
            rw [hd] at hseq
            cases hseq
            have hok : b.rd.okN 51 = true := by rw [hd]; simpa [D.okN] using h2'
            have d2 := r2.dp w hok
            have s2 := shaped_py hok (by decide)
            rw [hd, D.py] at d2 s2
            refine .inl ⟨_, _, r1.dp w h1, d2, shaped_py h1 (by decide), s2, ?_⟩
            rw [any_eqv h1 h2']
            exact q
          | non => rw [hd] at hseq; cases hseq
          | bl _ => rw [hd] at hseq; cases hseq
          | int _ => rw [hd] at hseq; cases hseq
          | str _ => rw [hd] at hseq; cases hseq
          | obj _ => rw [hd] at hseq; cases hseq
        · cases e
      · cases e
  · -- not in
    split at e
    · rename_i y hb
      split at e
      · rename_i x
        cases e
        cases r1
        cases b with
        | v d =>
          have e' : d = .str y := hb
          subst e'
          cases r2
          exact .inr (.inr ⟨_, _, rfl, rfl, q⟩)
        | nl _ => cases hb
        | bw _ => cases hb
      · cases e
    · rename_i d hns
      split at e
      · rename_i xs hseq
        split at e
        · rename_i hc
          obtain ⟨h1, h2⟩ := Bool.and_eq_true_iff.mp hc
          have h2' : ∀ d ∈ xs, d.okN 50 = true := List.all_eq_true.mp h2
          cases e
          cases hd : b.rd with
          | tup ys =>
            rw [hd] at hseq
            cases hseq
            have hok : b.rd.okN 51 = true := by rw [hd]; simpa [D.okN] using h2'
            have d2 := r2.dp w hok
            have s2 := shaped_py hok (by decide)
            rw [hd, D.py] at d2 s2
            refine .inr (.inl ⟨_, _, r1.dp w h1, d2, shaped_py h1 (by decide), s2, ?_⟩)
            rw [any_eqv h1 h2']
            exact q
          | lst ys =>
            rw [hd] at hseq
            cases hseq
            have hok : b.rd.okN 51 = true := by rw [hd]; simpa [D.okN] using h2'
            have d2 := r2.dp w hok
            have s2 := shaped_py hok (by decide)
            rw [hd, D.py] at d2 s2
            refine .inl ⟨_, _, r1.dp w h1, d2, shaped_py h1 (by decide), s2, ?_⟩
            rw [any_eqv h1 h2']
            exact q
          | non => rw [hd] at hseq; cases hseq
          | bl _ => rw [hd] at hseq; cases hseq
          | int _ => rw [hd] at hseq; cases hseq
          | str _ => rw [hd] at hseq; cases hseq
          | obj _ => rw [hd] at hseq; cases hseq
        · cases e
      · cases e
  · cases r2
    refine .inl ⟨rfl, ?_⟩
    have z := Rep.non_iff r1
    rw [show (if false = true then !decide (v = V.non) else decide (v = V.non)) = decide (v = V.non) from rfl, z]
    injection e with e
    rw [e]; exact q
  · obtain ⟨_, _, rfl, _⟩ := r1; cases e; cases r2; exact .inl ⟨rfl, q⟩
  · cases e; cases r1; cases r2; exact .inr ⟨_, _, rfl, rfl, q⟩
  · cases r2
    refine .inl ⟨rfl, ?_⟩
    have z := Rep.non_iff r1
    rw [show (if true = true then !decide (v = V.non) else decide (v = V.non)) = !decide (v = V.non) from rfl, z]
    injection e with e
    rw [e]; exact q
  · obtain ⟨_, _, rfl, _⟩ := r1; cases e; cases r2; exact .inl ⟨rfl, q⟩
  · cases e; cases r1; cases r2; exact .inr ⟨_, _, rfl, rfl, q⟩
  · cases e
end
end GV
set_option Elab.async false
set_option linter.all false
set_option maxRecDepth 100000
set_option maxHeartbeats 4000000
/-! GV8: expressions: from the evaluator's readings to the layer's. -/
namespace GV
open PySem L2
section
variable {A : Stat} {Wx : WX} {σ : L2.St} {H : Hp} {Q : VK}
theorem imp_non (t : tE A Wx .non σ H Q) : tC .non σ H Q := by
  obtain ⟨W, h, oA, ss, w, s, p⟩ := t
  exact done_v w p .non
theorem imp_bl {b : Bool} (t : tE A Wx (.bl b) σ H Q) : tC (.bl b) σ H Q := by
  obtain ⟨W, h, oA, ss, w, s, p⟩ := t
  exact done_v w p (.bl b)
theorem imp_int {i : Int} (t : tE A Wx (.int i) σ H Q) : tC (.int i) σ H Q := by
  obtain ⟨W, h, oA, ss, w, s, p⟩ := t
  exact done_v w p (.int i)
theorem imp_str {x : Str} (t : tE A Wx (.str x) σ H Q) : tC (.str x) σ H Q := by
  obtain ⟨W, h, oA, ss, w, s, p⟩ := t
  exact done_v w p (.str x)
theorem imp_var {j : Nat} (t : tE A Wx (.v j) σ H Q) : tVar j σ H Q := by
  obtain ⟨W, h, oA, ss, w, s, p⟩ := t
  simp only [evE] at p
  unfold readV at p
  split at p
  · rename_i d e
    obtain ⟨v, e1, r⟩ := s.vs j d e
    exact ⟨v, e1, done_v w p r⟩
  · rename_i xs e
    obtain ⟨a, vs, e1, e2, e3, e4⟩ := s.own j xs e
    exact ⟨_, e2, p W H (Ext.refl W H) w _ ⟨a, vs, rfl, e3, e4, (s.free j a e1).1⟩⟩
  · rename_i xs e
    obtain ⟨a, vs, e2, e3, e4, e5, _⟩ := s.bw j xs e
    exact ⟨_, e2, p W H (Ext.refl W H) w _ ⟨a, vs, rfl, e3, e4, e5⟩⟩
  · exact False.elim p
theorem imp_glob {c : Nat} {v : V} (hc : ∀ d W H, A.G.gc c = some d → Rep A.K W H v d) (t : tE A Wx (.g c) σ H Q) : tC v σ H Q := by
  obtain ⟨W, h, oA, ss, w, s, p⟩ := t
  simp only [evE] at p
  cases e : A.G.gc c with
  | none => rw [e] at p; exact False.elim p
  | some d => rw [e] at p; exact done_v w p (hc d W H e)
theorem imp_bin {o : BOp} {a b : E} (t : tE A Wx (.bin o a b) σ H Q) : tOp (rBin A.K o) (tE A Wx a) (tE A Wx b) σ H Q := by
  obtain ⟨W, h, oA, ss, w, s, p⟩ := t
  simp only [evE] at p
  refine tE_bind w s p fun W1 H1 r1 h1 v x1 w1 s1 q1 p1 p0 => ?_
  refine tE_bind w1 s1 p1 fun W2 H2 r2 h2 u x2 w2 s2 q2 p2 p0 => ?_
  exact bin_imp w2 (q1.ext w1 x2) (q2.back x1) (p2.mono (Ext.refl _ _) (TR.back (x1.trans x2)))
theorem imp_neg {a : E} (t : tE A Wx (.neg a) σ H Q) : tUn (rU fun i => .int (-i)) (tE A Wx a) σ H Q := by
  obtain ⟨W, h, oA, ss, w, s, p⟩ := t
  simp only [evE] at p
  refine tE_bind w s p fun W1 H1 r1 h1 v x1 w1 s1 q1 p1 p0 => ?_
  split at p1
  · cases q1
    exact ⟨_, rfl, done_v w1 (p1.mono (Ext.refl _ _) (TR.back x1)) (.int _)⟩
  · exact False.elim p1
theorem imp_cmp {o : COp} {a b : E} (t : tE A Wx (.cmp o a b) σ H Q) : tOp (rCmp A.K o) (tE A Wx a) (tE A Wx b) σ H Q := by
  obtain ⟨W, h, oA, ss, w, s, p⟩ := t
  simp only [evE] at p
  refine tE_bind w s p fun W1 H1 r1 h1 v x1 w1 s1 q1 p1 p0 => ?_
  refine tE_bind w1 s1 p1 fun W2 H2 r2 h2 u x2 w2 s2 q2 p2 p0 => ?_
  cases e : cmpR o r1 r2 with
  | none => rw [e] at p2; exact False.elim p2
  | some t =>
    rw [e] at p2
    exact cmp_imp w2 (q1.ext w1 x2) (q2.back x1) e (done_v w2 (p2.mono (Ext.refl _ _) (TR.back (x1.trans x2))) (.bl t))
theorem imp_chn {o o' : COp} {a b c : E} (t : tE A Wx (.chn o o' a b c) σ H Q) : tChain (rCmp A.K o) (rCmp A.K o') (tE A Wx a) (tE A Wx b) (tE A Wx c) σ H Q := by
  obtain ⟨W, h, oA, ss, w, s, p⟩ := t
  simp only [evE] at p
  refine tE_bind w s p fun W1 H1 r1 h1 v x1 w1 s1 q1 p1 p0 => ?_
  refine tE_bind w1 s1 p1 fun W2 H2 r2 h2 u x2 w2 s2 q2 p2 p0 => ?_
  cases e : cmpR o r1 r2 with
  | none => rw [e] at p2; exact False.elim p2
  | some t =>
    rw [e] at p2
    refine cmp_imp w2 (q1.ext w1 x2) (q2.back x1) e ⟨t, rfl, ?_⟩
    cases t with
    | false => exact iteF (done_v w2 (p2.mono (Ext.refl _ _) (TR.back (x1.trans x2))) (.bl false))
    | true =>
      refine iteT (tE_bind w2 s2 p2 fun W3 H3 r3 h3 z x3 w3 s3 q3 p3 p0 => ?_)
      cases e : cmpR o' r2 r3 with
      | none => rw [e] at p3; exact False.elim p3
      | some t =>
        rw [e] at p3
        exact cmp_imp w3 ((q2.back x1).ext w2 x3) (q3.back (x1.trans x2)) e (done_v w3 (p3.mono (Ext.refl _ _) (TR.back ((x1.trans x2).trans x3))) (.bl t))
theorem imp_and {a b : E} (t : tE A Wx (.and a b) σ H Q) : tAndV (tE A Wx a) (tE A Wx b) σ H Q := by
  obtain ⟨W, h, oA, ss, w, s, p⟩ := t
  simp only [evE] at p
  refine tE_bind w s p fun W1 H1 r1 h1 v x1 w1 s1 q1 p1 p0 => ?_
  unfold blE at p1
  split at p1
  · rename_i c
    cases q1
    refine ⟨c, rfl, ?_⟩
    cases c with
    | true => exact iteT ⟨W1, h1, oA, ss, w1, s1, p1.mono (Ext.refl _ _) (TR.back x1)⟩
    | false => exact iteF (done_v w1 (p1.mono (Ext.refl _ _) (TR.back x1)) (.bl false))
  · exact False.elim p1
theorem imp_or {a b : E} (t : tE A Wx (.or a b) σ H Q) : tOrV (tE A Wx a) (tE A Wx b) σ H Q := by
  obtain ⟨W, h, oA, ss, w, s, p⟩ := t
  simp only [evE] at p
  refine tE_bind w s p fun W1 H1 r1 h1 v x1 w1 s1 q1 p1 p0 => ?_
  unfold blE at p1
  split at p1
  · rename_i c
    cases q1
    refine ⟨c, rfl, ?_⟩
    cases c with
    | true => exact iteT (done_v w1 (p1.mono (Ext.refl _ _) (TR.back x1)) (.bl true))
    | false => exact iteF ⟨W1, h1, oA, ss, w1, s1, p1.mono (Ext.refl _ _) (TR.back x1)⟩
  · exact False.elim p1
theorem imp_not {a : E} (t : tE A Wx (.not a) σ H Q) : tNotV (tE A Wx a) σ H Q := by
  obtain ⟨W, h, oA, ss, w, s, p⟩ := t
  simp only [evE] at p
  refine tE_bind w s p fun W1 H1 r1 h1 v x1 w1 s1 q1 p1 p0 => ?_
  unfold blE at p1
  split at p1
  · cases q1
    exact ⟨_, rfl, done_v w1 (p1.mono (Ext.refl _ _) (TR.back x1)) (.bl _)⟩
  · exact False.elim p1
theorem imp_ite {c a b : E} (t : tE A Wx (.ite c a b) σ H Q) : tIf (tT A Wx c) (tE A Wx a) (tE A Wx b) σ H Q := by
  obtain ⟨W, h, oA, ss, w, s, p⟩ := t
  simp only [evE] at p
  rw [← O.bind_assoc] at p
  refine tT_bind w s p fun W1 H1 t h1 x1 w1 s1 p1 => ?_
  cases t with
  | true => exact iteT ⟨W1, h1, oA, ss, w1, s1, p1.mono (Ext.refl _ _) (TR.back x1)⟩
  | false => exact iteF ⟨W1, h1, oA, ss, w1, s1, p1.mono (Ext.refl _ _) (TR.back x1)⟩
/-! ### argument lists -/
theorem imp_anil {Q : List V → Hp → Prop} (t : tA A Wx [] σ H Q) : tNil σ H Q := by
  obtain ⟨W, h, oA, ss, w, s, p⟩ := t
  exact p W H (Ext.refl W H) w [] .nil
theorem imp_acons {e : E} {es : List E} {Q : List V → Hp → Prop} (t : tA A Wx (e :: es) σ H Q) : tCons (tE A Wx e) (tA A Wx es) σ H Q := by
  obtain ⟨W, h, oA, ss, w, s, p⟩ := t
  simp only [evL] at p
  refine tE_bind w s p fun W1 H1 r1 h1 v x1 w1 s1 q1 p1 p0 => ?_
  refine tA_bind w1 s1 p1 fun W2 H2 rs h2 vs x2 w2 s2 q2 p2 p0 => ?_
  exact p2 W2 H2 (Ext.refl _ _) w2 (v :: vs) (.cons (q1.ext w1 x2) (Paired.back x1 q2))
/-- displays -/
theorem imp_tup {es : List E} (t : tE A Wx (.tup es) σ H Q) : tTup (tA A Wx es) σ H Q := by
  obtain ⟨W, h, oA, ss, w, s, p⟩ := t
  simp only [evE] at p
  refine tA_bind w s p fun W1 H1 rs h1 vs x1 w1 s1 q1 _ p0 => ?_
  cases e : toDs rs with
  | none => rw [e] at p0; exact False.elim p0
  | some ds =>
    rw [e] at p0
    simp only [Option.bind_some] at p0
    split at p0
    · rename_i hc
      have r := RRelL.fz q1 e
      refine ⟨by rw [r.length]; exact small_le hc, fun q n => ?_⟩
      have x2 := fz_ext x1
      have w2 : WOkA A (W1.fz H H1) h1 H1 := fz_ok w1
      exact p0 _ _ (x2.trans (Ext.laid n)) (w2.laid n) (.ref q) (.tup (SqT.of upd_same) (RepL.ext w2 (Ext.laid n) r))
    · exact False.elim p0
theorem imp_lst {es : List E} (t : tE A Wx (.lst es) σ H Q) : tLst (tA A Wx es) σ H Q := by
  obtain ⟨W, h, oA, ss, w, s, p⟩ := t
  simp only [evE] at p
  refine tA_bind w s p fun W1 H1 rs h1 vs x1 w1 s1 q1 _ p0 => ?_
  cases e : toDs rs with
  | none => rw [e] at p0; exact False.elim p0
  | some ds =>
    rw [e] at p0
    simp only [Option.bind_some] at p0
    split at p0
    · rename_i hc
      have r := RRelL.fz q1 e
      refine ⟨by rw [r.length]; exact small_le hc, fun q n => ?_⟩
      have x2 := fz_ext x1
      have w2 : WOkA A (W1.fz H H1) h1 H1 := fz_ok w1
      refine p0 _ _ (x2.trans (Ext.laid n)) (w2.laid n) (.ref q) ⟨q, vs, rfl, x1.new n, upd_same, RepL.ext w2 (Ext.laid n) r, fun z => w2.frz q z n, fun z => ?_⟩
      rcases w2.cov q z with ⟨xs, e⟩ | ⟨C, dx, fs, e⟩ | ⟨φ, e⟩ <;> rw [n] at e <;> cases e
    · exact False.elim p0
/-! ### subscripts -/
theorem atI_rep {K : PySem.W.Frag} {W : Wd} {vs : List V} {ds : List D} {k : Int} {d : D} (r : RepL K W H vs ds) (e : atD ds k = some d) : ∃ v, atI vs k = some v ∧ Rep K W H v d := by
  unfold atD at e
  unfold atI at e ⊢
  rw [r.length]
  cases q : ixN ds.length k with
  | none => rw [q] at e; cases e
  | some j =>
    rw [q] at e
    obtain ⟨v, e1, e2⟩ := r.get' e
    exact ⟨v, e1, e2⟩
theorem imp_ix {a i : E} (t : tE A Wx (.ix a i) σ H Q) : tOp (rIx A.K) (tE A Wx a) (tE A Wx i) σ H Q := by
  obtain ⟨W, h, oA, ss, w, s, p⟩ := t
  simp only [evE] at p
  refine tE_bind w s p fun W1 H1 r1 h1 v x1 w1 s1 q1 p1 p0 => ?_
  refine tE_bind w1 s1 p1 fun W2 H2 r2 h2 u x2 w2 s2 q2 p2 p0 => ?_
  split at p2
  · rename_i k
    cases q2
    have q1' := q1.ext w1 x2
    cases hd : r1.rd with
    | lst xs =>
      rw [hd] at p2
      simp only [ixR, D.seq, Option.bind_some] at p2
      cases ea : atD xs k with
      | none => rw [ea] at p2; exact False.elim p2
      | some d =>
        rw [ea] at p2
        obtain ⟨l, vs, rfl, e1, e2, e3⟩ := q1'.rdLst w2 hd
        obtain ⟨z, e4, e5⟩ := atI_rep e2 ea
        exact .inl ⟨l, vs, k, z, rfl, rfl, .inl e1, e4, done_v w2 (p2.mono (Ext.refl _ _) (TR.back (x1.trans x2))) e5⟩
    | tup xs =>
      rw [hd] at p2
      simp only [ixR, D.seq, Option.bind_some] at p2
      cases ea : atD xs k with
      | none => rw [ea] at p2; exact False.elim p2
      | some d =>
        rw [ea] at p2
        obtain ⟨l, vs, rfl, e1, e2⟩ := q1'.rdTup hd
        obtain ⟨z, e4, e5⟩ := atI_rep e2 ea
        exact .inr (.inl ⟨l, vs, k, z, rfl, rfl, e1, e4, done_v w2 (p2.mono (Ext.refl _ _) (TR.back (x1.trans x2))) e5⟩)
    | non => rw [hd] at p2; exact False.elim p2
    | bl _ => rw [hd] at p2; exact False.elim p2
    | int _ => rw [hd] at p2; exact False.elim p2
    | str z =>
      rw [hd] at p2
      simp only [ixR] at p2
      split at p2
      · rename_i hs
        cases ea : L2.atI z.cps.toList k with
        | none => rw [ea] at p2; exact False.elim p2
        | some c =>
          rw [ea] at p2
          cases r1 with
          | v d =>
            have e' : d = .str z := hd
            subst e'
            cases q1'
            exact .inr (.inr ⟨z, k, c, rfl, rfl, small_le hs, ea, done_v w2 (p2.mono (Ext.refl _ _) (TR.back (x1.trans x2))) (.str _)⟩)
          | nl _ => cases hd
          | bw _ => cases hd
      · exact False.elim p2
    | obj _ => rw [hd] at p2; exact False.elim p2
  · exact False.elim p2
theorem imp_srep {a b : E} (t : tE A Wx (.srep a b) σ H Q) : tOp (fun x y H Q => ∃ z k, x = .str z ∧ y = .int k ∧ PySem.MulOk z k ∧ Q (.str (PySem.Txt.mul z k)) H) (tE A Wx a) (tE A Wx b) σ H Q := by
  obtain ⟨W, h, oA, ss, w, s, p⟩ := t
  simp only [evE] at p
  refine tE_bind w s p fun W1 H1 r1 h1 v x1 w1 s1 q1 p1 p0 => ?_
  refine tE_bind w1 s1 p1 fun W2 H2 r2 h2 u x2 w2 s2 q2 p2 p0 => ?_
  split at p2
  · rename_i z k _
    split at p2
    · rename_i hc
      have q1' := q1.ext w1 x2
      cases q1'
      cases q2
      unfold mulSOk at hc
      simp only [Bool.and_eq_true, Bool.not_eq_true', decide_eq_true_eq, beq_iff_eq] at hc
      obtain ⟨⟨⟨h1, h2'⟩, h3⟩, h4⟩ := hc
      refine ⟨z, k, rfl, rfl, ⟨?_, fun _ _ => ?_, fun _ _ => h4⟩, done_v w2 (p2.mono (Ext.refl _ _) (TR.back (x1.trans x2))) (.str _)⟩
      · simp only [Bool.or_eq_false_iff, decide_eq_false_iff_not]
        omega
      · rw [h3]
        have : (1 : Int) * k ≤ 2 ^ 63 - 1 := by omega
        have := Int.le_ediv_of_mul_le (by omega : 0 < k) this
        omega
    · exact False.elim p2
  · exact False.elim p2
/-! ### slices -/
def tOo (A : Stat) (Wx : WX) : Option E → TO
  | none => tNoPart
  | some e => tPart (tE A Wx e)
theorem tO_bind {W : Wd} {h : MH} {oA : Nat → Option Addr} {ss : SS} {β : Type} {e : Option E} {k : Option Int → MH → O β} {T : Wd → Hp → β → Prop} {Q : Option Int → Hp → Prop} (w : WOkA A W h H) (s : SRel A.K W H oA ss σ) (p : PostR A W H Wx σ T ((evO A.G e ss h).bind k))
    (step : ∀ W1 H1 h1 o, Ext W H W1 H1 → WOkA A W1 h1 H1 → SRel A.K W1 H1 oA ss σ → PostR A W1 H1 Wx σ T (k o h1) → Q o H1) : tOo A Wx e σ H Q := by
  cases e with
  | none => exact step W H h none (Ext.refl _ _) w s p
  | some e =>
    simp only [evO] at p
    rw [O.bind_assoc] at p
    refine tE_bind w s p fun W1 H1 r1 h1 v x1 w1 s1 q1 p1 p0 => ?_
    unfold intOpt at p1
    split at p1
    · cases q1
      exact ⟨_, rfl, step W1 H1 h1 _ x1 w1 s1 p1⟩
    · exact False.elim p1
theorem cut_rep {K : PySem.W.Frag} {W : Wd} {vs : List V} {ds : List D} (lo hi : Option Int) (r : RepL K W H vs ds) : RepL K W H (cutV vs lo hi) (cutD ds lo hi) := by
  unfold cutV cutD
  rw [r.length]
  exact (r.drop _).take _
def rSlAll (K : PySem.W.Frag) : V → Option Int → Option Int → Hp → VK → Prop := fun x lo hi H Q => rSlL K x lo hi H Q ∨ (rSlA K x lo hi H Q ∨ C8.rSlX x lo hi H Q)
theorem imp_sl {a : E} {lo hi : Option E} (t : tE A Wx (.sl a lo hi) σ H Q) : tSl (rSlAll A.K) (tE A Wx a) (tOo A Wx lo) (tOo A Wx hi) σ H Q := by
  obtain ⟨W, h, oA, ss, w, s, p⟩ := t
  simp only [evE] at p
  refine tE_bind w s p fun W1 H1 r1 h1 v x1 w1 s1 q1 p1 p0 => ?_
  refine tO_bind w1 s1 p1 fun W2 H2 h2 l x2 w2 s2 p2 => ?_
  refine tO_bind w2 s2 p2 fun W3 H3 h3 u x3 w3 s3 p3 => ?_
  have q3 := (q1.ext w1 x2).ext w2 x3
  have p3' : PostR A W3 H3 Wx σ (TR A H3 Q) _ := p3.mono (Ext.refl _ _) (TR.back ((x1.trans x2).trans x3))
  split at p3'
  · rename_i xs hd
    obtain ⟨b, vs, rfl, e1, e2, e3⟩ := q3.rdLst w3 hd
    exact .inl ⟨b, vs, rfl, .inl e1, done_nl w3 p3' (cut_rep l u e2)⟩
  · rename_i xs hd
    obtain ⟨b, vs, rfl, e1, e2⟩ := q3.rdTup hd
    refine .inr (.inl ⟨b, vs, rfl, e1, fun z => ?_, fun _ => done_tup w3 p3' (cut_rep l u e2)⟩)
    have e : cutD xs l u = xs := by
      unfold cutD
      rw [← e2.length, z.1, z.2, e2.length]
      simp
    rw [e] at p3'
    exact done_v w3 p3' (.tup e1 e2)
  · rename_i z hd
    split at p3'
    · rename_i hs
      cases r1 with
      | v d =>
        have e' : d = .str z := hd
        subst e'
        cases q3
        exact .inr (.inr ⟨z, rfl, small_le hs, done_v w3 p3' (.str _)⟩)
      | nl _ => cases hd
      | bw _ => cases hd
    · exact False.elim p3'
  · exact False.elim p3'
/-! ### backwards -/
theorem rev_rep {K : PySem.W.Frag} {W : Wd} {vs : List V} {ds : List D} (lo : Option Nat) (r : RepL K W H vs ds) : RepL K W H (revV lo vs) (revD lo ds) := by
  have rv : ∀ {vs : List V} {ds : List D}, RepL K W H vs ds → RepL K W H vs.reverse ds.reverse := by
    intro vs
    induction vs with
    | nil => intro ds r; cases r; exact .nil
    | cons v vs ih =>
      intro ds r
      cases r with
      | cons a b => rw [List.reverse_cons, List.reverse_cons]; exact (ih b).append (.cons a .nil)
  have e : revV lo vs = (vs.take (match lo with | none => ds.length | some k => k + 1)).reverse := by
    unfold revV
    rw [← r.length]
    cases lo with
    | none => rfl
    | some k =>
      show (vs.take (min (k + 1) vs.length)).reverse = (vs.take (k + 1)).reverse
      rw [← List.take_take, List.take_length]
  rw [e]
  exact rv (r.take _)
theorem rep_rg {K : PySem.W.Frag} {W : Wd} {H : Hp} (a : Int) : ∀ l : List Nat, RepL K W H (l.map fun i => V.int (a + (i : Nat))) (l.map fun i => D.int (a + (i : Nat)))
  | [] => .nil
  | _ :: l => .cons (.int _) (rep_rg a l)
def tRgl (b : Bool) (ta : TE) : TE := match b with
  | true => tTupRg (tRg1 ta)
  | false => tLstRg (tRg1 ta)
theorem imp_rgl {b : Bool} {a : E} (t : tE A Wx (.rgl b a) σ H Q) : tRgl b (tE A Wx a) σ H Q := by
  obtain ⟨W, h, oA, ss, w, s, p⟩ := t
  simp only [evE] at p
  cases b <;> refine tE_bind w s p fun W1 H1 r1 h1 v x1 w1 s1 q1 p1 p0 => ?_ <;> have p2 := p1.mono (Ext.refl _ _) (TR.back x1)
  · split at p2
    · rename_i n
      cases q1
      by_cases hn : 0 ≤ n ∧ n ≤ 1000
      · rw [decide_eq_true hn, if_pos rfl] at p2
        exact ⟨n, rfl, ⟨by omega, by omega, by omega, by omega, by omega⟩, done_nl w1 p2 (rep_rg 0 _)⟩
      · rw [decide_eq_false hn, if_neg Bool.false_ne_true] at p2
        exact False.elim p2
    · exact False.elim p2
  · split at p2
    · rename_i n
      cases q1
      by_cases hn : 0 ≤ n ∧ n ≤ 1000
      · rw [decide_eq_true hn, if_pos rfl] at p2
        exact ⟨n, rfl, ⟨by omega, by omega, by omega, by omega, by omega⟩, done_tup w1 p2 (rep_rg 0 _)⟩
      · rw [decide_eq_false hn, if_neg Bool.false_ne_true] at p2
        exact False.elim p2
    · exact False.elim p2
theorem imp_rev {a : E} {lo : Option Nat} (t : tE A Wx (.rev a lo) σ H Q) : tRevA A.K lo (tE A Wx a) σ H Q := by
  obtain ⟨W, h, oA, ss, w, s, p⟩ := t
  simp only [evE] at p
  refine tE_bind w s p fun W1 H1 r1 h1 v x1 w1 s1 q1 p1 p0 => ?_
  have p2 := p1.mono (Ext.refl _ _) (TR.back x1)
  split at p2
  · rename_i xs hd
    obtain ⟨b, us, rfl, e2, e3, e4⟩ := q1.rdLst w1 hd
    exact ⟨b, us, rfl, .inl ⟨.inl e2, done_nl w1 p2 (rev_rep lo e3)⟩⟩
  · rename_i xs hd
    obtain ⟨b, us, rfl, e2, e3⟩ := q1.rdTup hd
    exact ⟨b, us, rfl, .inr ⟨e2, done_tup w1 p2 (rev_rep lo e3)⟩⟩
  · exact False.elim p2
end
end GV
set_option Elab.async false
set_option linter.all false
set_option maxRecDepth 100000
set_option maxHeartbeats 4000000
/-! GV9: calls of defs and of built-ins. -/
namespace GV
open PySem L2
def AR (K : PySem.W.Frag) (W : Wd) (H : Hp) (v : V) : Sl → Prop
  | .v d => Rep K W H v d
  | .bw xs => ∃ a vs, v = .ref a ∧ H a = some (.lst vs) ∧ RepL K W H vs xs ∧ ¬ W.fp a
  | .own _ => False
def PostF (A : Stat) (W : Wd) (H : Hp) (Q : VK) (E : XK) : O R → Prop
  | .ok r h' => ∀ W' H' v, Ext W H W' H' → WOkA A W' h' H' → RRel A.K W' H H' v r → Q v H'
  | .ex c h' => ∀ W' H', Ext W H W' H' → WOkA A W' h' H' → E (A.xc c) none H'
  | .no => False
/-- the promise of a def, by the evaluator -/
def spF (A : Stat) (f : Nat) : Sp := fun vs H Q E => ∃ W h args, WOkA A W h H ∧ Paired (AR A.K W H) vs args ∧ PostF A W H Q E (A.G.cf f args h)
section
variable {A : Stat} {Wx : WX} {σ : L2.St} {H : Hp} {Q : VK}
theorem RRel.arg {K : PySem.W.Frag} {W : Wd} {H0 : Hp} {v : V} {r : R} (q : RRel K W H0 H v r) : AR K (W.fz H0 H) H v r.arg := by
  cases r with
  | v d => exact RRel.fz q rfl
  | nl xs => exact RRel.fz q rfl
  | bw xs =>
    obtain ⟨p, vs, rfl, e3, e4, e6⟩ := q
    exact ⟨p, vs, rfl, e3, RepL.fz e4, e6⟩
theorem args_of {K : PySem.W.Frag} {W : Wd} {H0 : Hp} : ∀ {vs : List V} {rs : List R}, Paired (RRel K W H0 H) vs rs → Paired (AR K (W.fz H0 H) H) vs (rs.map R.arg)
  | _, _, .nil => .nil
  | _, _, .cons a b => .cons a.arg (args_of b)
theorem imp_call {f : Nat} {es : List E} (t : tE A Wx (.call f es) σ H Q) : tCallS (spF A f) (WE Wx) (tA A Wx es) σ H Q := by
  obtain ⟨W, h, oA, ss, w, s, p⟩ := t
  simp only [evE] at p
  refine tA_bind w s p fun W1 H1 rs h1 vs x1 w1 s1 q1 p1 p0 => ?_
  have x2 := fz_ext x1
  refine ⟨W1.fz H H1, h1, rs.map R.arg, fz_ok w1, args_of q1, ?_⟩
  cases e : A.G.cf f (rs.map R.arg) h1 with
  | ok r h' =>
    rw [e] at p0
    exact fun W' H' v x w' rr => p0 W' H' (x2.trans x) w' v (rr.back x1)
  | ex c h' =>
    rw [e] at p0
    exact fun W' H' x w' => p0 W' H' (x2.trans x) w'
  | no => rw [e] at p0; exact p0
/-! ### built-ins -/
def rTupleOf (K : PySem.W.Frag) : List V → Hp → VK → Prop := fun xs H Q => ∃ p ys, xs = [.ref p] ∧ ((SqL K H p ys ∧ ∀ l, H l = none → Q (.ref l) (upd H l (.tup ys))) ∨ (SqT K H p ys ∧ Q (.ref p) H))
def rListOf (K : PySem.W.Frag) : List V → Hp → VK → Prop := fun xs H Q => ∃ p ys, xs = [.ref p] ∧ (SqL K H p ys ∨ SqT K H p ys) ∧ ∀ l, H l = none → Q (.ref l) (upd H l (.lst ys))
def rMax2' : List V → Hp → VK → Prop := fun xs H Q => ∃ i j, xs = [.int i, .int j] ∧ Q (.int (if j > i then j else i)) H
def rMin2' : List V → Hp → VK → Prop := fun xs H Q => ∃ i j, xs = [.int i, .int j] ∧ Q (.int (if j < i then j else i)) H
def rLenX (K : PySem.W.Frag) : List V → Hp → VK → Prop := fun xs H Q => ∃ x n, xs = [x] ∧ LenV K x H n ∧ Q (.int (n : Nat)) H
def rBi (K : PySem.W.Frag) : Bi → List V → Hp → VK → Prop
  | .len => rLenX K
  | .sum => fun xs H Q => rSum K xs H Q ∨ rSumT K xs H Q
  | .all => rAll K
  | .any => rAny K
  | .min => fun xs H Q => rMin2' xs H Q ∨ rMin K xs H Q ∨ rMinT K xs H Q
  | .max => fun xs H Q => rMax2' xs H Q ∨ rMax K xs H Q ∨ rMaxT K xs H Q
  | .tuple => rTupleOf K
  | .list => rListOf K
  | .sorted => rSortD K
  | .str => fun xs H Q => ∃ i, xs = [V.int i] ∧ i.natAbs.log2 < 1920 ∧ Q (V.str (Str.ofString (toString i))) H
  | .int => fun xs H Q => ∃ a n, xs = [V.str a] ∧ PySem.intText? a = some n ∧ a.length ≤ 640 ∧ Q (V.int n) H
def Bi.val : Bi → Value
  | .len => .builtin "len" | .sum => .builtin "sum" | .all => .builtin "all" | .any => .builtin "any" | .min => .builtin "min" | .max => .builtin "max" | .sorted => .builtin "sorted"
  | .tuple => .type "tuple" | .list => .type "list" | .str => .type "str" | .int => .type "int"
theorem call_bi {X : Cx} (hc : X.calm = true) (hu : X.A.units + 65 < cLine) (f : Bi) : CallR X f.val (rBi X.K f) := by
  cases f with
  | len => exact call_len
  | sum => exact (cr_sum hc).or (cr_sumT hc)
  | all => exact cr_all hc
  | any => exact cr_any hc
  | min => exact (call_min2 hc).or ((cr_min hc).or (cr_minT hc hu))
  | max => exact (call_max2 hc).or ((cr_max hc).or (cr_maxT hc hu))
  | tuple => exact call_tuple_of
  | list => exact call_list_of
  | sorted => exact cr_sortD hu
  | str => exact call_str_int
  | int => exact call_int_str
theorem foldl_max : ∀ (l : List Int) (x : Int), (l.foldl max x ∈ x :: l) ∧ ∀ y ∈ x :: l, y ≤ l.foldl max x
  | [], x => by simp
  | z :: l, x => by
    obtain ⟨h1, h2⟩ := foldl_max l (max x z)
    simp only [List.foldl_cons]
    constructor
    · rcases List.mem_cons.mp h1 with e | e
      · rw [e]
        by_cases h : x ≤ z
        · rw [Int.max_eq_right h]; simp
        · rw [Int.max_eq_left (by omega)]; simp
      · simp [e]
    · intro y hy
      have h3 := h2 (max x z) (by simp)
      rcases List.mem_cons.mp hy with e | e
      · rw [e]; omega
      · rcases List.mem_cons.mp e with e | e
        · rw [e]; omega
        · exact h2 y (by simp [e])
theorem foldl_min : ∀ (l : List Int) (x : Int), (l.foldl min x ∈ x :: l) ∧ ∀ y ∈ x :: l, l.foldl min x ≤ y
  | [], x => by simp
  | z :: l, x => by
    obtain ⟨h1, h2⟩ := foldl_min l (min x z)
    simp only [List.foldl_cons]
    constructor
    · rcases List.mem_cons.mp h1 with e | e
      · rw [e]
        by_cases h : x ≤ z
        · rw [Int.min_eq_left h]; simp
        · rw [Int.min_eq_right (by omega)]; simp
      · simp [e]
    · intro y hy
      have h3 := h2 (min x z) (by simp)
      rcases List.mem_cons.mp hy with e | e
      · rw [e]; omega
      · rcases List.mem_cons.mp e with e | e
        · rw [e]; omega
        · exact h2 y (by simp [e])
theorem ints_rep {K : PySem.W.Frag} {W : Wd} : ∀ {vs : List V} {ds : List D} {ns : List Int}, RepL K W H vs ds → ints? ds = some ns → vs = ns.map V.int
  | _, _, ns, .nil, e => by cases e; rfl
  | _, d :: ds, ns, .cons a b, e => by
    cases a with
    | int i =>
      simp only [ints?] at e
      cases q : ints? ds with
      | none => rw [q] at e; cases e
      | some ms => rw [q] at e; cases e; rw [ints_rep b q]; rfl
    | non => cases e
    | bl _ => cases e
    | str _ => cases e
    | tup _ _ => cases e
    | lst _ _ _ => cases e
    | obj _ => cases e
theorem bls_rep {K : PySem.W.Frag} {W : Wd} : ∀ {vs : List V} {ds : List D} {ns : List Bool}, RepL K W H vs ds → bls? ds = some ns → vs = ns.map V.bl
  | _, _, ns, .nil, e => by cases e; rfl
  | _, d :: ds, ns, .cons a b, e => by
    cases a with
    | bl i =>
      simp only [bls?] at e
      cases q : bls? ds with
      | none => rw [q] at e; cases e
      | some ms => rw [q] at e; cases e; rw [bls_rep b q]; rfl
    | non => cases e
    | int _ => cases e
    | str _ => cases e
    | tup _ _ => cases e
    | lst _ _ _ => cases e
    | obj _ => cases e
end
end GV
set_option Elab.async false
set_option linter.all false
set_option maxRecDepth 100000
set_option maxHeartbeats 4000000
namespace GV
open PySem L2
section
variable {A : Stat} {Wx : WX} {σ : L2.St} {H H0 : Hp} {Q : VK} {W : Wd} {h : MH}
/-- a sequence that is read: a list or a tuple -/
theorem RRel.rdSeq {v : V} {r : R} {xs : List D} (w : WOkA A W h H) (q : RRel A.K W H0 H v r) (e : r.rd.seq = some xs) :
    ∃ p vs, v = .ref p ∧ RepL A.K W H vs xs ∧ ((r.rd = .lst xs ∧ Rd H p (.lst vs)) ∨ (r.rd = .tup xs ∧ SqT A.K H p vs)) := by
  cases hd : r.rd with
  | lst ys =>
    rw [hd] at e; cases e
    obtain ⟨p, vs, e1, e2, e3, e4⟩ := q.rdLst w hd
    exact ⟨p, vs, e1, e3, .inl ⟨rfl, e2⟩⟩
  | tup ys =>
    rw [hd] at e; cases e
    obtain ⟨p, vs, e1, e2, e3⟩ := q.rdTup hd
    exact ⟨p, vs, e1, e3, .inr ⟨rfl, e2⟩⟩
  | non => rw [hd] at e; cases e
  | bl _ => rw [hd] at e; cases e
  | int _ => rw [hd] at e; cases e
  | str _ => rw [hd] at e; cases e
  | obj _ => rw [hd] at e; cases e
theorem P1 {v : V} {r : R} {vs : List V} (q : Paired (RRel A.K W H0 H) vs [r]) : ∃ v, vs = [v] ∧ RRel A.K W H0 H v r := by
  cases q with
  | cons a b => cases b; exact ⟨_, rfl, a⟩
theorem P2 {r r' : R} {vs : List V} (q : Paired (RRel A.K W H0 H) vs [r, r']) : ∃ v v', vs = [v, v'] ∧ RRel A.K W H0 H v r ∧ RRel A.K W H0 H v' r' := by
  cases q with
  | cons a b =>
    cases b with
    | cons c d => cases d; exact ⟨_, _, rfl, a, c⟩
theorem len_ok {v : V} {r : R} {n : Nat} (w : WOkA A W h H) (q : RRel A.K W H0 H v r) (e : lenD r.rd = some n) : LenV A.K v H n := by
  cases hd : r.rd with
  | lst ys =>
    rw [hd] at e; cases e
    obtain ⟨p, vs, rfl, e2, e3, e4⟩ := q.rdLst w hd
    exact .inl ⟨vs, .inl e2, e3.length.symm⟩
  | tup ys =>
    rw [hd] at e; cases e
    obtain ⟨p, vs, rfl, e2, e3⟩ := q.rdTup hd
    exact .inr ⟨vs, e2, e3.length.symm⟩
  | str x =>
    rw [hd] at e
    simp only [lenD] at e
    split at e
    · rename_i hs
      cases e
      cases r with
      | v d =>
        have e' : d = .str x := hd
        subst e'
        cases q
        exact ⟨small_le hs, rfl⟩
      | nl _ => cases hd
      | bw _ => cases hd
    · cases e
  | non => rw [hd] at e; cases e
  | bl _ => rw [hd] at e; cases e
  | int _ => rw [hd] at e; cases e
  | obj _ => rw [hd] at e; cases e
theorem zip_fst {α β : Type} : ∀ {xs : List α} {ys : List β}, xs.length = ys.length → (xs.zip ys).map (·.1) = xs ∧ (xs.zip ys).map (·.2) = ys
  | [], [], _ => ⟨rfl, rfl⟩
  | [], _ :: _, h => by simp at h
  | _ :: _, [], h => by simp at h
  | x :: xs, y :: ys, h => by
    obtain ⟨h1, h2⟩ := zip_fst (xs := xs) (ys := ys) (by simpa using h)
    exact ⟨by simp [h1], by simp [h2]⟩
theorem zip_rep : ∀ {vs : List V} {ds : List D}, RepL A.K W H vs ds → ∀ b ∈ vs.zip ds, Rep A.K W H b.1 b.2
  | _, _, .nil, b, m => by simp at m
  | _, _, .cons p q, b, m => by
    rcases List.mem_cons.mp (by simpa using m) with e | e
    · rw [e]; exact p
    · exact zip_rep q b e
theorem rep_zip : ∀ (l : List (V × D)), (∀ b ∈ l, Rep A.K W H b.1 b.2) → RepL A.K W H (l.map (·.1)) (l.map (·.2))
  | [], _ => .nil
  | b :: l, h => .cons (h b (by simp)) (rep_zip l fun c m => h c (by simp [m]))
theorem sort_imp {a : Addr} {us : List V} {xs ys : List D} (w : WOkA A W h H) (r : RepL A.K W H us xs) (e3 : SqL A.K H a us ∨ SqT A.K H a us) (e : srtD xs = some ys) (p : PostR A W H Wx σ (TR A H Q) (.ok (.nl ys) h)) : rSortD A.K [.ref a] H Q := by
  unfold srtD at e
  split at e
  · rename_i hok
    cases e
    unfold srtOk at hok
    simp only [Bool.and_eq_true, Bool.or_eq_true, List.all_eq_true] at hok
    obtain ⟨⟨⟨h1, h2⟩, h3⟩, h4⟩ := hok
    obtain ⟨z1, z2⟩ := zip_fst r.length
    have mem : ∀ b ∈ us.zip xs, b.2 ∈ xs := fun b m => by
      have := List.mem_map_of_mem (f := (·.2)) m
      rw [z2] at this
      exact this
    refine ⟨a, us.zip xs, rfl, by rw [z1]; exact e3, fun b m => ⟨(zip_rep r b m).dp (h1 _ (mem b m)), (lay_py _ _ (h1 _ (mem b m))).2⟩, fun d hd d' hd' => ?_, ?_, ?_⟩
    · obtain ⟨b, m, rfl⟩ := List.mem_map.mp hd
      obtain ⟨b', m', rfl⟩ := List.mem_map.mp hd'
      exact h2 _ (mem b m) _ (mem b' m')
    · rcases h3 with h3 | h3
      · refine .inr fun d hd => ?_
        obtain ⟨b, m, rfl⟩ := List.mem_map.mp hd
        have := h3 _ (mem b m)
        revert this
        cases b.2 with
        | tup l => intro _; exact ⟨D.pyL l, by simp [D.py]⟩
        | _ => intro z; cases z
      · refine .inl (.inr fun d hd => ?_)
        obtain ⟨b, m, rfl⟩ := List.mem_map.mp hd
        have := h3 _ (mem b m)
        revert this
        cases b.2 with
        | bl _ => intro _; exact ⟨(by simp [D.py]), fun l => by simp [D.py]⟩
        | int _ => intro _; exact ⟨(by simp [D.py]), fun l => by simp [D.py]⟩
        | str _ => intro _; exact ⟨(by simp [D.py]), fun l => by simp [D.py]⟩
        | _ => intro z; cases z
    · have em : ((us.zip xs).mergeSort (PySem.W.dataLe false fun b => b.2.py)).map (·.2) = xs.mergeSort (PySem.W.dataLe false D.py) := by
        have := List.map_mergeSort (r := PySem.W.dataLe false fun b : V × D => b.2.py) (s := PySem.W.dataLe false D.py) (f := Prod.snd) (l := us.zip xs) (fun a _ b _ => rfl)
        rw [show ((us.zip xs).map Prod.snd) = xs from z2] at this
        exact this
      have rr := rep_zip (A := A) (W := W) (H := H) ((us.zip xs).mergeSort (PySem.W.dataLe false fun b => b.2.py)) fun b m => zip_rep r b (List.mem_mergeSort.mp m)
      rw [em] at rr
      exact done_nl w p rr
  · cases e
theorem bi_imp {f : Bi} {rs : List R} {vs : List V} (w : WOkA A W h H) (q : Paired (RRel A.K W H0 H) vs rs) (p : PostR A W H Wx σ (TR A H Q) (O.of h (biR A.G.srt f rs h))) : rBi A.K f vs H Q := by
  unfold biR at p
  split at p
  · -- len of a list by reference
    rename_i i
    obtain ⟨v, rfl, qq⟩ := P1 (v := .non) q
    split at p
    · rename_i xs e
      have m := w.obj i _ e
      obtain ⟨a, us, e1, e2, e3⟩ := m
      cases qq with
      | obj e4 =>
        rename_i a'
        have : a' = a := by rw [e1] at e4; exact (Option.some.inj e4).symm
        subst this
        exact ⟨_, us.length, rfl, .inl ⟨us, SqL.of e2, rfl⟩, by rw [e3.length]; exact done_v w p (.int _)⟩
    · exact False.elim p
  · rename_i a hno
    obtain ⟨v, rfl, qq⟩ := P1 (v := .non) q
    cases e : lenD a.rd with
    | none => rw [e] at p; exact False.elim p
    | some n =>
      rw [e] at p
      exact ⟨v, n, rfl, len_ok w qq e, done_v w p (.int _)⟩
  · -- sum
    rename_i a
    obtain ⟨v, rfl, qq⟩ := P1 (v := .non) q
    cases e : a.rd.seq with
    | none => rw [e] at p; exact False.elim p
    | some xs =>
      rw [e] at p
      simp only [Option.bind_some] at p
      cases e2 : ints? xs with
      | none => rw [e2] at p; exact False.elim p
      | some ns =>
        rw [e2] at p
        obtain ⟨b, us, rfl, r, z⟩ := qq.rdSeq w e
        have hu := ints_rep r e2
        subst hu
        rcases z with ⟨_, z⟩ | ⟨_, z⟩
        · exact .inl ⟨b, ns, rfl, .inl z, done_v w p (.int _)⟩
        · exact .inr ⟨b, ns, rfl, z, done_v w p (.int _)⟩
  · -- all
    obtain ⟨v, rfl, qq⟩ := P1 (v := .non) q
    split at p
    · rename_i xs hd
      cases e2 : bls? xs with
      | none => rw [e2] at p; exact False.elim p
      | some ns =>
        rw [e2] at p
        obtain ⟨b, us, rfl, e3, r, _⟩ := qq.rdLst w hd
        have hu := bls_rep r e2
        subst hu
        exact ⟨b, ns, rfl, .inl e3, done_v w p (.bl _)⟩
    · exact False.elim p
  · -- any
    obtain ⟨v, rfl, qq⟩ := P1 (v := .non) q
    split at p
    · rename_i xs hd
      cases e2 : bls? xs with
      | none => rw [e2] at p; exact False.elim p
      | some ns =>
        rw [e2] at p
        obtain ⟨b, us, rfl, e3, r, _⟩ := qq.rdLst w hd
        have hu := bls_rep r e2
        subst hu
        exact ⟨b, ns, rfl, .inl e3, done_v w p (.bl _)⟩
    · exact False.elim p
  · obtain ⟨v, v', rfl, q1, q2⟩ := P2 q
    cases q1; cases q2
    exact .inl ⟨_, _, rfl, done_v w p (.int _)⟩
  · obtain ⟨v, v', rfl, q1, q2⟩ := P2 q
    cases q1; cases q2
    exact .inl ⟨_, _, rfl, done_v w p (.int _)⟩
  · -- min
    rename_i a
    obtain ⟨v, rfl, qq⟩ := P1 (v := .non) q
    cases e : a.rd.seq with
    | none => rw [e] at p; exact False.elim p
    | some xs =>
      rw [e] at p
      simp only [Option.bind_some] at p
      cases e2 : ints? xs with
      | none => rw [e2] at p; exact False.elim p
      | some ns =>
        rw [e2] at p
        simp only [Option.bind_some] at p
        cases ns with
        | nil => exact False.elim p
        | cons x l =>
          obtain ⟨b, us, rfl, r, z⟩ := qq.rdSeq w e
          have hu := ints_rep r e2
          subst hu
          rcases z with ⟨_, z⟩ | ⟨_, z⟩
          · obtain ⟨h1, h2⟩ := foldl_min l x
            refine .inr (.inl ⟨b, x :: l, rfl, .inl z, by simp, fun m hm hmin => ?_⟩)
            have : m = l.foldl min x := Int.le_antisymm (hmin _ h1) (h2 m hm)
            rw [this]
            exact done_v w p (.int _)
          · exact .inr (.inr ⟨b, x, l, rfl, z, done_v w p (.int _)⟩)
  · -- max
    rename_i a
    obtain ⟨v, rfl, qq⟩ := P1 (v := .non) q
    cases e : a.rd.seq with
    | none => rw [e] at p; exact False.elim p
    | some xs =>
      rw [e] at p
      simp only [Option.bind_some] at p
      cases e2 : ints? xs with
      | none => rw [e2] at p; exact False.elim p
      | some ns =>
        rw [e2] at p
        simp only [Option.bind_some] at p
        cases ns with
        | nil => exact False.elim p
        | cons x l =>
          obtain ⟨b, us, rfl, r, z⟩ := qq.rdSeq w e
          have hu := ints_rep r e2
          subst hu
          rcases z with ⟨_, z⟩ | ⟨_, z⟩
          · obtain ⟨h1, h2⟩ := foldl_max l x
            refine .inr (.inl ⟨b, x :: l, rfl, .inl z, by simp, fun m hm hmin => ?_⟩)
            have : m = l.foldl max x := Int.le_antisymm (h2 m hm) (hmin _ h1)
            rw [this]
            exact done_v w p (.int _)
          · exact .inr (.inr ⟨b, x, l, rfl, z, done_v w p (.int _)⟩)
  · -- tuple
    rename_i a
    obtain ⟨v, rfl, qq⟩ := P1 (v := .non) q
    cases e : a.rd.seq with
    | none => rw [e] at p; exact False.elim p
    | some xs =>
      rw [e] at p
      obtain ⟨b, us, rfl, r, z⟩ := qq.rdSeq w e
      rcases z with ⟨_, z⟩ | ⟨_, z⟩
      · exact ⟨b, us, rfl, .inl ⟨.inl z, done_tup w p r⟩⟩
      · exact ⟨b, us, rfl, .inr ⟨z, done_v w p (.tup z r)⟩⟩
  · -- list
    rename_i a
    obtain ⟨v, rfl, qq⟩ := P1 (v := .non) q
    cases e : a.rd.seq with
    | none => rw [e] at p; exact False.elim p
    | some xs =>
      rw [e] at p
      obtain ⟨b, us, rfl, r, z⟩ := qq.rdSeq w e
      rcases z with ⟨_, z⟩ | ⟨_, z⟩
      · exact ⟨b, us, rfl, .inl (.inl z), done_nl w p r⟩
      · exact ⟨b, us, rfl, .inr z, done_nl w p r⟩
  · -- sorted
    obtain ⟨v, rfl, qq⟩ := P1 (v := .non) q
    split at p
    · rename_i xs hd
      cases e2 : srtD xs with
      | none => rw [e2] at p; exact False.elim p
      | some ys =>
        rw [e2] at p
        obtain ⟨b, us, rfl, r, z⟩ := qq.rdSeq w hd
        rcases z with ⟨_, z⟩ | ⟨_, z⟩
        · exact sort_imp w r (.inl (.inl z)) e2 p
        · exact sort_imp w r (.inr z) e2 p
    · exact False.elim p
  · -- str
    rename_i i
    obtain ⟨v, rfl, qq⟩ := P1 (v := .non) q
    split at p
    · rename_i hc
      cases qq
      exact ⟨i, rfl, of_decide_eq_true hc, done_v w p (.str _)⟩
    · exact False.elim p
  · -- int
    rename_i x
    obtain ⟨v, rfl, qq⟩ := P1 (v := .non) q
    split at p
    · rename_i hc
      cases qq
      cases e : PySem.intText? x with
      | none => rw [e] at p; exact False.elim p
      | some n =>
        rw [e] at p
        exact ⟨x, n, rfl, e, of_decide_eq_true hc, done_v w p (.int _)⟩
    · exact False.elim p
  · exact False.elim p
theorem imp_bi {f : Bi} {es : List E} (t : tE A Wx (.bi f es) σ H Q) : tCB (rBi A.K f) (tA A Wx es) σ H Q := by
  obtain ⟨W, h, oA, ss, w, s, p⟩ := t
  simp only [evE] at p
  refine tA_bind w s p fun W1 H1 rs h1 vs x1 w1 s1 q1 p1 p0 => ?_
  exact bi_imp w1 q1 (p1.mono (Ext.refl _ _) (TR.back x1))
/-! ### isinstance -/
def Ty.nm : Ty → String
  | .int => "int" | .bool => "bool" | .tuple => "tuple" | .str => "str" | .list => "list"
def D.tnm : D → String
  | .non => "NoneType" | .bl _ => "bool" | .int _ => "int" | .str _ => "str" | .tup _ => "tuple" | .lst _ => "list" | .obj _ => ""
def tnmB : Nat → String
  | 0 => "NoneType" | 1 => "bool" | 2 => "int" | 3 => "str" | 4 => "tuple" | _ => "list"
theorem kit_int (d : D) (n : d.noObj = true) : kitB d.tnm "int" = some (tyD .int d) := by
  cases d with
  | non => exact (by decide +kernel : kitB "NoneType" "int" = some false)
  | bl _ => exact (by decide +kernel : kitB "bool" "int" = some true)
  | int _ => exact (by decide +kernel : kitB "int" "int" = some true)
  | str _ => exact (by decide +kernel : kitB "str" "int" = some false)
  | tup _ => exact (by decide +kernel : kitB "tuple" "int" = some false)
  | lst _ => exact (by decide +kernel : kitB "list" "int" = some false)
  | obj _ => cases n
theorem kit_bool (d : D) (n : d.noObj = true) : kitB d.tnm "bool" = some (tyD .bool d) := by
  cases d with
  | non => exact (by decide +kernel : kitB "NoneType" "bool" = some false)
  | bl _ => exact (by decide +kernel : kitB "bool" "bool" = some true)
  | int _ => exact (by decide +kernel : kitB "int" "bool" = some false)
  | str _ => exact (by decide +kernel : kitB "str" "bool" = some false)
  | tup _ => exact (by decide +kernel : kitB "tuple" "bool" = some false)
  | lst _ => exact (by decide +kernel : kitB "list" "bool" = some false)
  | obj _ => cases n
theorem kit_tuple (d : D) (n : d.noObj = true) : kitB d.tnm "tuple" = some (tyD .tuple d) := by
  cases d with
  | non => exact (by decide +kernel : kitB "NoneType" "tuple" = some false)
  | bl _ => exact (by decide +kernel : kitB "bool" "tuple" = some false)
  | int _ => exact (by decide +kernel : kitB "int" "tuple" = some false)
  | str _ => exact (by decide +kernel : kitB "str" "tuple" = some false)
  | tup _ => exact (by decide +kernel : kitB "tuple" "tuple" = some true)
  | lst _ => exact (by decide +kernel : kitB "list" "tuple" = some false)
  | obj _ => cases n
theorem kit_str (d : D) (n : d.noObj = true) : kitB d.tnm "str" = some (tyD .str d) := by
  cases d with
  | non => exact (by decide +kernel : kitB "NoneType" "str" = some false)
  | bl _ => exact (by decide +kernel : kitB "bool" "str" = some false)
  | int _ => exact (by decide +kernel : kitB "int" "str" = some false)
  | str _ => exact (by decide +kernel : kitB "str" "str" = some true)
  | tup _ => exact (by decide +kernel : kitB "tuple" "str" = some false)
  | lst _ => exact (by decide +kernel : kitB "list" "str" = some false)
  | obj _ => cases n
theorem kit_list (d : D) (n : d.noObj = true) : kitB d.tnm "list" = some (tyD .list d) := by
  cases d with
  | non => exact (by decide +kernel : kitB "NoneType" "list" = some false)
  | bl _ => exact (by decide +kernel : kitB "bool" "list" = some false)
  | int _ => exact (by decide +kernel : kitB "int" "list" = some false)
  | str _ => exact (by decide +kernel : kitB "str" "list" = some false)
  | tup _ => exact (by decide +kernel : kitB "tuple" "list" = some false)
  | lst _ => exact (by decide +kernel : kitB "list" "list" = some true)
  | obj _ => cases n
theorem kit_all (t : Ty) (d : D) (n : d.noObj = true) : kitB d.tnm t.nm = some (tyD t d) := by
  cases t with
  | int => exact kit_int d n
  | bool => exact kit_bool d n
  | tuple => exact kit_tuple d n
  | str => exact kit_str d n
  | list => exact kit_list d n
theorem ty_of {v : V} {r : R} (w : WOkA A W h H) (q : RRel A.K W H0 H v r) (n : r.rd.noObj = true) : TyX A.K H v (.type r.rd.tnm) := by
  cases hd : r.rd with
  | lst ys =>
    obtain ⟨p, vs, rfl, e2, e3, e4⟩ := q.rdLst w hd
    rcases e2 with e2 | ⟨o, e2⟩
    · exact .base (.lst e2)
    · exact .base (.frz e2)
  | tup ys =>
    obtain ⟨p, vs, rfl, e2, e3⟩ := q.rdTup hd
    rcases e2 with (e2 | ⟨o, e2⟩) | ⟨o, its, n, e1, e2, _⟩
    · exact .base (.tup e2)
    · exact .fTuple e2
    · exact .kTuple e1 e2
  | non => cases r with
    | v d => have e' : d = .non := hd; subst e'; cases q; exact .base .non
    | nl _ => cases hd
    | bw _ => cases hd
  | bl b => cases r with
    | v d => have e' : d = .bl b := hd; subst e'; cases q; exact .base (.bl b)
    | nl _ => cases hd
    | bw _ => cases hd
  | int b => cases r with
    | v d => have e' : d = .int b := hd; subst e'; cases q; exact .base (.int b)
    | nl _ => cases hd
    | bw _ => cases hd
  | str b => cases r with
    | v d => have e' : d = .str b := hd; subst e'; cases q; exact .base (.str b)
    | nl _ => cases hd
    | bw _ => cases hd
  | obj b => rw [hd] at n; cases n
theorem imp_isi {a : E} {ty : Ty} (t : tE A Wx (.isi a ty) σ H Q) : tCB (rIsi A.K) (tCons (tE A Wx a) (tCons (tC (.ty ty.nm)) tNil)) σ H Q := by
  obtain ⟨W, h, oA, ss, w, s, p⟩ := t
  simp only [evE] at p
  refine tE_bind w s p fun W1 H1 r1 h1 v x1 w1 s1 q1 p1 p0 => ?_
  split at p1
  · rename_i n
    exact ⟨v, .ty ty.nm, _, _, _, rfl, .ty _, ty_of w1 q1 n, kit_ty (kit_all ty _ n), done_v w1 (p1.mono (Ext.refl _ _) (TR.back x1)) (.bl _)⟩
  · exact False.elim p1
end
end GV
set_option Elab.async false
set_option linter.all false
set_option maxRecDepth 100000
set_option maxHeartbeats 4000000
/-! GI0: methods and makings whose exceptions are told by the slots. -/
namespace GV
open PySem L2
section
variable {X : Cx} {CX : CXT} {k : Nat} {f C : Addr} {fd : FuncData} {ps : List Str} {sp : Sp} {E : L2.St → XK} {x m : Str} {p pos apos : Pos} {e o : Expr} {es : List Expr} {ta : TE} {t : TA}
def tMethX (C : Addr) (m : Str) (sp : Sp) (E : L2.St → XK) (ta : TE) (t : TA) : TE := fun σ H Q => ta σ H fun x H1 => ∃ a dx fs, x = .ref a ∧ H1 a = some (.ins C dx fs) ∧ fs.lookup m = none ∧ t σ H1 fun vs H2 => sp (x :: vs) H2 Q (E σ)
def tMakeX (C : Addr) (sp : Sp) (E : L2.St → XK) (t : TA) : TE := fun σ H Q => t σ H fun vs H1 => ∀ x dx, H1 x = none → H1 dx = none → dx ≠ x →
  sp (.ref x :: vs) (upd (upd H1 dx (.own x)) x (.ins C dx [])) (fun v H2 => v = .non ∧ Q (.ref x) H2) (E σ)
theorem pe_methX {pl : Sem Bool} (he : PE X o ta) (c : Cls X.K C) (hm : Meth X.K C m f) (F : FnOk X.prog X.w X.K X.mg X.base CX k f fd ps sp) (hr : Room k X.A) (hb : Binds X.K fd ps []) (hx : ∀ σ, PassesAt CX X σ (E σ)) (ha : PA X (e :: es) t)
    (hst : starEach (e :: es) X.env = (false, eval e X.env) :: starEach es X.env) (hpl : (backTo pos (starEach es X.env)).any (·.1) = false)
    (ht : eval (.Call (.Attribute o m apos) (e :: es) [] pos) X.env = (do
      let ov ← eval o X.env
      standAt apos.atName
      let (f, first) ← holding [ov] (getMethod ov m pl)
      callWith pos f first (backTo pos (starEach (e :: es) X.env)) (backToKw pos (keywordEach [] X.env)))) :
    PE X (.Call (.Attribute o m apos) (e :: es) [] pos) (tMethX C m sp E ta t) := by
  refine ⟨fun pins s σ H Q I h => ?_⟩
  refine PySem.W.methodCall_KW (pl := pl) (thn (he.run pins s σ H _ I h) fun u s1 ⟨x, H1, I1, rx, a, dx, fs, ex, ea, l, q⟩ => ?_) ht
  subst ex
  obtain rfl : u = Value.ref a := rx
  refine getmeth_ok I1 ea c hm l ?_
  refine PySem.W.callWith_K (first := [.ref a]) (h₀ := X.base) I.ok.mod.kin hm.kp (thn (ha.run pos pins s1 σ H1 _ I1 q) fun us s2 ⟨vs, H2, I2, r, q2⟩ => ⟨I2.kIn, ?_⟩) hst hpl
  exact run_fnS (us := .ref a :: us) (vs := .ref a :: vs) F hr hb (hx σ) I2 (.cons rfl r) q2
theorem pe_methX0 {pl : Sem Bool} (he : PE X o ta) (c : Cls X.K C) (hm : Meth X.K C m f) (F : FnOk X.prog X.w X.K X.mg X.base CX k f fd ps sp) (hr : Room k X.A) (hb : Binds X.K fd ps []) (hx : ∀ σ, PassesAt CX X σ (E σ))
    (ht : eval (.Call (.Attribute o m apos) [] [] pos) X.env = (do
      let ov ← eval o X.env
      standAt apos.atName
      let (f, first) ← holding [ov] (getMethod ov m pl)
      callWith pos f first (backTo pos (starEach [] X.env)) (backToKw pos (keywordEach [] X.env)))) :
    PE X (.Call (.Attribute o m apos) [] [] pos) (tMethX C m sp E ta tNil) := by
  refine ⟨fun pins s σ H Q I h => ?_⟩
  refine PySem.W.methodCall_KW (pl := pl) (thn (he.run pins s σ H _ I h) fun u s1 ⟨x, H1, I1, rx, a, dx, fs, ex, ea, l, q⟩ => ?_) ht
  subst ex
  obtain rfl : u = Value.ref a := rx
  refine getmeth_ok I1 ea c hm l ?_
  exact PySem.W.callWith_K0 (first := [.ref a]) I1.kIn hm.kp (run_fnS (us := [.ref a]) (vs := [.ref a]) F hr hb (hx σ) I1 (.cons rfl .nil) q)
theorem run_makeX {pins : List (Addr × Obj)} {σ : L2.St} {H : Hp} {s : Shared} {Q : VK} {us : List Value} {vs : List V} (M : Mk X.K C f) (F : FnOk X.prog X.w X.K X.mg X.base CX k f fd ps sp) (hr : Room (k + 1) X.A) (hb : Binds X.K fd ps [])
    (hx : PassesAt CX X σ (E σ)) (I : Inv X pins σ H s) (r : Vals vs us)
    (h : ∀ x dx, H x = none → H dx = none → dx ≠ x → sp (.ref x :: vs) (upd (upd H dx (.own x)) x (.ins C dx [])) (fun v H2 => v = .non ∧ Q (.ref x) H2) (E σ)) :
    wpAny (model X.prog X.w) X.A (call (.ref C) us) (EP X pins σ Q) X.xe s := by
  have hq := h (s.heap.objs.size + 1) s.heap.objs.size (I.hok.fresh (Nat.le_succ _)) (I.hok.fresh (Nat.le_refl _)) (Nat.ne_of_lt (Nat.lt_succ_self _))
  have I2 := Inv.made (C := C) I
  have r2 : Vals (V.ref (s.heap.objs.size + 1) :: vs) (Value.ref (s.heap.objs.size + 1) :: us) := .cons rfl r
  have hl : (Value.ref (s.heap.objs.size + 1) :: us).length = ps.length := by
    have e := r2.length
    rw [F.len _ _ _ _ hq] at e
    exact e.symm
  have b := hb _ (Value.ref (s.heap.objs.size + 1) :: us) I2.kIn (by rw [List.append_nil]; exact hl)
  rw [List.append_nil] at b
  refine wpAny_call (make_map (f := f) I.kIn M.makes M.init (beq_iff_eq.mp M.fn) (codeAny_mono (F.run _ X.stack _ _ ⟨Value.ref (s.heap.objs.size + 1) :: us, []⟩ (Value.ref (s.heap.objs.size + 1) :: us) _ _ (E σ) (hr.make C us [])
    (I2.env0.make C us []) b r2 hq) fun r s' hq' => ?_))
  cases r with
  | error e => exact hx pins _ _ e s' I2 hq'
  | ok fl =>
    cases fl with
    | ret u =>
      obtain ⟨v, H', I3, rv, ev, q3⟩ := I2.after hq'
      subst ev
      exact ⟨rv, ⟨V.ref (s.heap.objs.size + 1), H', I3, rfl, q3⟩⟩
    | next => exact False.elim hq'
    | brk => exact False.elim hq'
    | cont => exact False.elim hq'
theorem pe_makeX (M : Mk X.K C f) (F : FnOk X.prog X.w X.K X.mg X.base CX k f fd ps sp) (hr : Room (k + 1) X.A) (hg : Gl X x) (hm : X.mg x = some (.ref C)) (hb : Binds X.K fd ps []) (hx : ∀ σ, PassesAt CX X σ (E σ))
    (ha : PA X (e :: es) t) (hdb : (x == ("__debug__" : Str)) = false) (he : starEach (e :: es) X.env = (false, eval e X.env) :: starEach es X.env) (hpl : (backTo pos (starEach es X.env)).any (·.1) = false) :
    PE X (.Call (.Name x p) (e :: es) [] pos) (tMakeX C sp E t) := by
  refine ⟨fun pins s σ H Q I h => ?_⟩
  refine wpAny_Call_Name_kw (ld_glob I hg hm ?_ hdb)
  refine PySem.W.callWith_K (h₀ := X.base) I.ok.mod.kin M.kp (thn (ha.run pos pins s σ H _ I h) fun us s1 ⟨vs, H1, I1, r, q⟩ => ⟨I1.kIn, ?_⟩) he hpl
  exact run_makeX M F hr hb (hx σ) I1 r q
theorem meth_tree {x2 : Str} {p2 : Pos} {args : List Expr} {env : Env} (hfew : methodCallForm (args.length + ([] : List Keyword).length) (backTo pos (starEach args env)) (backToKw pos (keywordEach [] env)) = true) (hline : (apos.endLine == pos.line) = true) :
    eval (.Call (.Attribute (.Name x2 p2) m apos) args [] pos) env = (do
      let ov ← eval (.Name x2 p2) env
      standAt apos.atName
      let (f, first) ← holding [ov] (getMethod ov m (do return (← importBound (.Name x2 p2) env).getD true))
      callWith pos f first (backTo pos (starEach args env)) (backToKw pos (keywordEach [] env))) := by
  have hb : attributeBase (.Name x2 p2) m env (eval (.Name x2 p2) env) = eval (.Name x2 p2) env := rfl
  rw [arm_eval_Call, hb]
  unfold methodCall
  rw [hfew]
  have hpos : methodCallPos true (.Name x2 p2) env apos pos = pure pos := by unfold methodCallPos; simp [hline]
  rw [hpos]
  unfold calleeOf
  simp only [if_true, pure_bind]
theorem attr_name {x2 : Str} {p2 : Pos} {f : Str} {env : Env} : attributeBase (.Name x2 p2) f env (eval (.Name x2 p2) env) = eval (.Name x2 p2) env := rfl
end
end GV
set_option Elab.async false
set_option linter.all false
set_option maxRecDepth 100000
set_option maxHeartbeats 4000000
/-! GI1: instances in expressions. -/
namespace GV
open PySem L2
section
variable {K : PySem.W.Frag} {W : Wd} {H : Hp} {i : Nat}
theorem GP.look : ∀ {fs : List (Str × Fd)} {gs : List (Str × V)} {f : Str} {x : Fd}, Paired (FRel K W H i) fs gs → fs.lookup f = some x → ∃ v, gs.lookup f = some v ∧ FRel K W H i (f, x) (f, v)
  | _, _, f, x, .nil, e => by cases e
  | (g, y) :: fs, (g', v) :: gs, f, x, .cons a b, e => by
    have hg : g = g' := a.1
    subst hg
    rw [List.lookup_cons] at e ⊢
    cases q : f == g with
    | true =>
      have z := eq_of_beq q
      subst z
      rw [q] at e
      cases e
      exact ⟨v, rfl, a⟩
    | false =>
      rw [q] at e
      exact GP.look b e
theorem GP.lookN : ∀ {fs : List (Str × Fd)} {gs : List (Str × V)} {f : Str}, Paired (FRel K W H i) fs gs → fs.lookup f = none → gs.lookup f = none
  | _, _, f, .nil, e => rfl
  | (g, y) :: fs, (g', v) :: gs, f, .cons a b, e => by
    have hg : g = g' := a.1
    subst hg
    rw [List.lookup_cons] at e ⊢
    cases q : f == g with
    | true => rw [q] at e; cases e
    | false =>
      rw [q] at e
      exact GP.lookN b e
end
section
variable {A : Stat} {Wx : WX} {σ : L2.St} {H : Hp} {Q : VK} {W : Wd} {h : MH} {oA : Nat → Option Addr} {ss : SS} {f : Str} {j : Nat}
/-- the instance that a name holds -/
theorem ins_at {i c : Nat} {fs : List (Str × Fd)} (w : WOkA A W h H) (s : SRel A.K W H oA ss σ) (e1 : ss[j]? = some (some (.v (.obj i)))) (e2 : h[i]? = some (.ins c fs)) :
    ∃ a C dx gs, σ[j]? = some (some (.ref a)) ∧ W.k (i, none) = some a ∧ A.cl c = some C ∧ H a = some (.ins C dx gs) ∧ Paired (FRel A.K W H i) fs gs := by
  obtain ⟨v, k1, k2⟩ := s.vs j _ e1
  obtain ⟨a, C, dx, gs, m1, m2, m3, m4⟩ := w.obj i _ e2
  cases k2 with
  | obj k3 =>
    rename_i a'
    have e : a' = a := by rw [m1] at k3; exact (Option.some.inj k3).symm
    subst e
    exact ⟨a', C, dx, gs, k1, m1, m2, m3, m4⟩
theorem objF_at {i : Nat} {x : Fd} (e : objF ss h j f = some (i, x)) : ∃ c fs, ss[j]? = some (some (.v (.obj i))) ∧ h[i]? = some (.ins c fs) ∧ fs.lookup f = some x := by
  unfold objF at e
  split at e
  · rename_i i' e1
    split at e
    · rename_i c fs e2
      cases q : fs.lookup f with
      | none => rw [q] at e; cases e
      | some y =>
        rw [q] at e
        cases e
        exact ⟨c, fs, e1, e2, q⟩
    · cases e
  · cases e
/-- the classes, and a field's name that is none of theirs -/
def ClF (A : Stat) (f : Str) : Prop := ∀ c C, A.cl c = some C → Cls A.K C ∧ NoAttr A.K C f
theorem imp_fld (hC : ClF A f) (t : tE A Wx (.fld j f) σ H Q) : tFld A.K (tVar j) f σ H Q := by
  obtain ⟨W, h, oA, ss, w, s, p⟩ := t
  simp only [evE, fldV] at p
  cases e : objF ss h j f with
  | none => rw [e] at p; exact p.elim
  | some ix =>
    obtain ⟨i, x⟩ := ix
    rw [e] at p
    cases x with
    | own n xs => exact p.elim
    | v d =>
      obtain ⟨c, fs, e1, e2, e3⟩ := objF_at e
      obtain ⟨a, C, dx, gs, k1, k2, k3, k4, k5⟩ := ins_at w s e1 e2
      obtain ⟨v, l1, l2⟩ := GP.look k5 e3
      exact ⟨_, k1, a, C, dx, gs, v, rfl, k4, (hC c C k3).1, (hC c C k3).2, l1, done_v w p l2.2⟩
theorem simpI_ev {G : Cfg} {e : E} {k : Int} (q : simpI ss e = some k) : evE G e ss h = .ok (.v (.int k)) h := by
  unfold simpI at q
  split at q
  · rename_i j'
    split at q
    · rename_i z
      cases q
      rw [evE, readV, z]
      rfl
    · cases q
  · cases q; rw [evE]
  · cases q
    rename_i i
    rw [evE, evE]
    rfl
  · cases q
/-- the list that a field owns, at any later time -/
theorem own_at {i n : Nat} {xs : List D} (w : WOkA A W h H) (e : objF ss h j f = some (i, .own n xs)) : ∃ a vs, W.k (i, some (f, n)) = some a ∧ H a = some (.lst vs) ∧ RepL A.K W H vs xs := by
  obtain ⟨c, fs, e1, e2, e3⟩ := objF_at e
  obtain ⟨a, C, dx, gs, m1, m2, m3, m4⟩ := w.obj i _ e2
  obtain ⟨v, l1, _, b, vs, l2, l3, l4, l5⟩ := GP.look m4 e3
  exact ⟨b, vs, l2, l4, l5⟩
theorem imp_fix {ie : E} (hC : ClF A f) (t : tE A Wx (.fix j f ie) σ H Q) : tOp (rIx A.K) (tFld A.K (tVar j) f) (tE A Wx ie) σ H Q := by
  obtain ⟨W, h, oA, ss, w, s, p⟩ := t
  simp only [evE, fldL] at p
  cases e : objF ss h j f with
  | none => rw [e] at p; exact p.elim
  | some ix =>
    obtain ⟨i, x⟩ := ix
    rw [e] at p
    cases x with
    | v d => exact p.elim
    | own n xs =>
      simp only [Option.bind_some] at p
      cases ek : simpI ss ie with
      | none => rw [ek] at p; exact p.elim
      | some k =>
        rw [ek] at p
        simp only [Option.bind_some] at p
        cases ea : atD xs k with
        | none => rw [ea] at p; exact p.elim
        | some d =>
          rw [ea] at p
          obtain ⟨c, fs, e1, e2, e3⟩ := objF_at e
          obtain ⟨a, C, dx, gs, k1, k2, k3, k4, k5⟩ := ins_at w s e1 e2
          obtain ⟨v, l1, _, b, vs, l2, l3, l4, l5⟩ := GP.look k5 e3
          refine ⟨_, k1, a, C, dx, gs, v, rfl, k4, (hC c C k3).1, (hC c C k3).2, l1, W, h, oA, ss, w, s, ?_⟩
          rw [simpI_ev ek]
          intro W' H' x' w' u qu
          have l3' : v = .ref b := l3
          subst l3'
          cases qu
          obtain ⟨b', vs', m1, m2, m3⟩ := own_at (ss := ss) w' e
          have eb : b' = b := by rw [x'.ids _ _ l2] at m1; exact (Option.some.inj m1).symm
          subst eb
          obtain ⟨z, m4, m5⟩ := atI_rep m3 ea
          exact .inl ⟨b', vs', k, z, rfl, rfl, .inl (.inl m2), m4, p W' H' x' w' z m5⟩
theorem imp_flen (hC : ClF A f) (t : tE A Wx (.flen j f) σ H Q) : tCB (rLenX A.K) (tCons (tFld A.K (tVar j) f) tNil) σ H Q := by
  obtain ⟨W, h, oA, ss, w, s, p⟩ := t
  simp only [evE, fldL] at p
  cases e : objF ss h j f with
  | none => rw [e] at p; exact p.elim
  | some ix =>
    obtain ⟨i, x⟩ := ix
    rw [e] at p
    cases x with
    | v d => exact p.elim
    | own n xs =>
      obtain ⟨c, fs, e1, e2, e3⟩ := objF_at e
      obtain ⟨a, C, dx, gs, k1, k2, k3, k4, k5⟩ := ins_at w s e1 e2
      obtain ⟨v, l1, _, b, vs, l2, l3, l4, l5⟩ := GP.look k5 e3
      have l3' : v = .ref b := l3
      subst l3'
      refine ⟨_, k1, a, C, dx, gs, _, rfl, k4, (hC c C k3).1, (hC c C k3).2, l1, _, xs.length, rfl, ?_, ?_⟩
      · exact .inl ⟨vs, .inl (.inl l4), l5.length.symm⟩
      · exact done_v w p (.int _)
/-- a method -/
theorem imp_meth {c : Nat} {C : Addr} {m : Str} {g : Nat} {es : List E} (hc : A.cl c = some C) (t : tE A Wx (.meth j c m g es) σ H Q) : tMethX C m (spF A g) (WE Wx) (tVar j) (tA A Wx es) σ H Q := by
  obtain ⟨W, h, oA, ss, w, s, p⟩ := t
  simp only [evE] at p
  unfold insAt at p
  split at p
  · rename_i i e0
    split at e0
    · rename_i i' e1
      split at e0
      · rename_i c' fs e2
        split at e0
        · rename_i hcc
          cases e0
          obtain ⟨rfl, hn⟩ := hcc
          have hn' : fs.lookup m = none := by simpa using hn
          obtain ⟨a, C', dx, gs, k1, k2, k3, k4, k5⟩ := ins_at w s e1 e2
          have eC : C' = C := by rw [hc] at k3; exact (Option.some.inj k3).symm
          subst eC
          refine ⟨_, k1, a, dx, gs, rfl, k4, GP.lookN k5 hn', ?_⟩
          refine tA_bind w s p fun W1 H1 rs h1 vs x1 w1 s1 q1 p1 p0 => ?_
          have x2 := fz_ext x1
          refine ⟨W1.fz H H1, h1, .v (.obj i) :: rs.map R.arg, fz_ok w1, .cons (.obj (x2.ids _ _ k2)) (args_of q1), ?_⟩
          cases e : A.G.cf g (.v (.obj i) :: rs.map R.arg) h1 with
          | ok r h' =>
            rw [e] at p0
            exact fun W' H' v x w' rr => p0 W' H' (x2.trans x) w' v (rr.back x1)
          | ex c h' =>
            rw [e] at p0
            exact fun W' H' x w' => p0 W' H' (x2.trans x) w'
          | no => rw [e] at p0; exact p0
        · cases e0
      · cases e0
    · cases e0
  · exact p.elim
/-- a new instance -/
def Wd.addI (W : Wd) (n : Nat) (p : Addr) : Wd := { W with k := fun q => if q = (n, none) then some p else W.k q }
theorem WOk.newIns {K : PySem.W.Frag} {cl : Cl} {c : Nat} {C x dx : Addr} (w : WOk K cl W h H) (hc : cl c = some C) (nx : H x = none) (nd : H dx = none) (ne : dx ≠ x) :
    WOk K cl (W.addI h.length x) (h ++ [.ins c []]) (upd (upd H dx (.own x)) x (.ins C dx [])) ∧ Ext W H (W.addI h.length x) (upd (upd H dx (.own x)) x (.ins C dx [])) := by
  have nk : W.k (h.length, none) = none := by
    cases q : W.k (h.length, none) with
    | none => rfl
    | some a => exact absurd (w.bnd _ a q) (Nat.lt_irrefl _)
  have nfp : ¬ W.fp x := fun z => by rcases w.cov x z with ⟨xs, e⟩ | ⟨C, dx, fs, e⟩ | ⟨φ, e⟩ <;> rw [nx] at e <;> cases e
  have nfd : ¬ W.fp dx := fun z => by rcases w.cov dx z with ⟨xs, e⟩ | ⟨C, dx, fs, e⟩ | ⟨φ, e⟩ <;> rw [nd] at e <;> cases e
  have fpA : ∀ a, (W.addI h.length x).fp a ↔ a = x ∨ W.fp a := fun a => by
    constructor
    · rintro ⟨q, hq⟩
      unfold Wd.addI at hq
      simp only at hq
      split at hq
      · exact .inl (Option.some.inj hq).symm
      · exact .inr ⟨q, hq⟩
    · rintro (z | ⟨q, hq⟩)
      · subst z; exact ⟨(h.length, none), by simp [Wd.addI]⟩
      · refine ⟨q, ?_⟩
        unfold Wd.addI
        simp only
        rw [if_neg (fun z => by rw [z, nk] at hq; cases hq)]
        exact hq
  have ids : ∀ q a, W.k q = some a → (W.addI h.length x).k q = some a := fun q a hq => by
    unfold Wd.addI
    simp only
    rw [if_neg (fun z => by rw [z, nk] at hq; cases hq)]
    exact hq
  have keep : ∀ a, H a ≠ none → upd (upd H dx (.own x)) x (.ins C dx []) a = H a := fun a ha => by
    rw [upd_ne (fun z => ha (by rw [z]; exact nx)), upd_ne (fun z => ha (by rw [z]; exact nd))]
  have hx : upd (upd H dx (.own x)) x (.ins C dx []) x = some (.ins C dx []) := upd_same
  have ex : Ext W H (W.addI h.length x) (upd (upd H dx (.own x)) x (.ins C dx [])) := by
    refine ⟨fun a o e _ => ?_, fun a e => by rw [keep a e]; exact e, fun a z => ?_, ids, fun _ f => f, fun _ f => .inl f, fun _ _ e => e⟩
    · rw [keep a (by rw [e]; exact Option.some_ne_none _)]; exact e
    · rcases (fpA a).mp z with y | y
      · subst y; exact .inr nx
      · exact .inl y
  refine ⟨⟨fun q q' a h2 h3 => ?_, fun a f z => ?_, fun a z => ?_, fun a f => by rw [keep a (w.frz a f)]; exact w.frz a f, fun i o q => ?_, fun q a hq => ?_, fun i c fs hi f m a hk => ?_, fun q o hq => by rw [List.length_append, List.length_singleton]; exact Nat.lt_succ_of_lt (w.dbd q o hq), fun i m kvs hi l o hq => by
    have z := w.dbd _ _ hq
    rw [List.getElem?_append_left z] at hi
    exact w.dnx i m kvs hi l o hq⟩, ex⟩
  · unfold Wd.addI at h2 h3
    simp only at h2 h3
    split at h2
    · split at h3
      · rename_i z1 z2; rw [z1, z2]
      · cases h2; exact (nfp ⟨_, h3⟩).elim
    · split at h3
      · cases h3; exact (nfp ⟨_, h2⟩).elim
      · exact w.inj q q' a h2 h3
  · rcases (fpA a).mp z with y | y
    · subst y; exact w.frz a f nx
    · exact w.dis a f y
  · rcases (fpA a).mp z with y | y
    · subst y; exact .inr (.inl ⟨C, dx, [], hx⟩)
    · have hc := w.cov a y
      have hne : H a ≠ none := by rcases hc with ⟨xs, e⟩ | ⟨C, dx, fs, e⟩ | ⟨φ, e⟩ <;> rw [e] <;> exact Option.some_ne_none _
      rw [keep a hne]; exact hc
  · by_cases hi : i < h.length
    · rw [List.getElem?_append_left hi] at q
      have m := w.obj i o q
      cases o with
      | lst zs =>
        obtain ⟨a, ws, k1, k2, k3⟩ := m
        exact ⟨a, ws, ids _ _ k1, by rw [keep a (by rw [k2]; exact Option.some_ne_none _)]; exact k2, RepL.ext w ex k3⟩
      | ins c fs =>
        obtain ⟨a, C, dx, gs, k1, k2, k3, k4⟩ := m
        refine ⟨a, C, dx, gs, ids _ _ k1, k2, by rw [keep a (by rw [k3]; exact Option.some_ne_none _)]; exact k3, Paired.ext w ex (fun f b e5 => ?_) k4⟩
        rcases w.cov b ⟨_, e5⟩ with ⟨ys, q⟩ | ⟨C', dx', fs', q⟩ | ⟨φ, q⟩
        · rw [keep b (by rw [q]; exact Option.some_ne_none _)]
        · rw [keep b (by rw [q]; exact Option.some_ne_none _)]
        · rw [keep b (by rw [q]; exact Option.some_ne_none _)]
      | dic m' kvs =>
        obtain ⟨a, ob, xs, k1, k2, k3, k4⟩ := m
        exact ⟨a, ob, xs, ids _ _ k1, k2, by rw [keep a (by rw [k3]; exact Option.some_ne_none _)]; exact k3, DP.map (fun _ _ z => Rep.ext w ex z) k4⟩
    · rw [List.getElem?_append_right (by omega)] at q
      have ei : i = h.length := by
        have := (List.getElem?_eq_some_iff.mp q).1
        simp at this
        omega
      subst ei
      simp at q
      subst q
      exact ⟨x, C, dx, [], by simp [Wd.addI], hc, hx, .nil⟩
  · rw [List.length_append, List.length_singleton]
    unfold Wd.addI at hq
    simp only at hq
    split at hq
    · rename_i z; rw [z]; exact Nat.lt_succ_self _
    · exact Nat.lt_succ_of_lt (w.bnd q a hq)
  · have hk' : W.k (i, some (f, m)) = some a := by
      unfold Wd.addI at hk
      simpa using hk
    have := w.bnd _ _ hk'
    rw [List.getElem?_append_left this] at hi
    exact w.nxt i c fs hi f m a hk'
theorem imp_make {c : Nat} {C : Addr} {g : Nat} {es : List E} (hc : A.cl c = some C) (t : tE A Wx (.make c g es) σ H Q) : tMakeX C (spF A g) (WE Wx) (tA A Wx es) σ H Q := by
  obtain ⟨W, h, oA, ss, w, s, p⟩ := t
  simp only [evE] at p
  refine tA_bind w s p fun W1 H1 rs h1 vs x1 w1 s1 q1 p1 p0 => ?_
  intro x dx nx nd ne
  have x2 := fz_ext x1
  have w2 : WOkA A (W1.fz H H1) h1 H1 := fz_ok w1
  obtain ⟨w3, x3⟩ := w2.newIns (c := c) hc nx nd ne
  have ar : Paired (AR A.K ((W1.fz H H1).addI h1.length x) (upd (upd H1 dx (.own x)) x (.ins C dx []))) vs (rs.map R.arg) := by
    refine Paired.mapP (args_of q1) fun v sl z => ?_
    cases sl with
    | v d => exact Rep.ext w2 x3 z
    | own xs => exact z
    | bw xs =>
      obtain ⟨a, us, z1, z2, z3, z4⟩ := z
      refine ⟨a, us, z1, x3.keep _ _ z2 z4, RepL.ext w2 x3 z3, fun y => ?_⟩
      rcases x3.fpn a y with y | y
      · exact z4 y
      · rw [z2] at y; cases y
  refine ⟨_, _, .v (.obj h1.length) :: rs.map R.arg, w3, .cons (.obj (by simp [Wd.addI])) ar, ?_⟩
  cases e : A.G.cf g (.v (.obj h1.length) :: rs.map R.arg) (h1 ++ [.ins c []]) with
  | ok r h' =>
    rw [e] at p0
    simp only [O.bind_ok] at p0
    cases r with
    | v d =>
      cases d with
      | non =>
        intro W' H' v x w' rr
        cases rr
        exact ⟨rfl, p0 W' H' ((x2.trans x3).trans x) w' _ (.obj (x.ids _ _ (by simp [Wd.addI])))⟩
      | _ => exact p0.elim
    | nl _ => exact p0.elim
    | bw _ => exact p0.elim
  | ex c h' =>
    rw [e] at p0
    exact fun W' H' x w' => p0 W' H' ((x2.trans x3).trans x) w'
  | no => rw [e] at p0; exact p0.elim
/-! ### list.index -/
theorem findIdx_spec {α : Type} {p : α → Bool} : ∀ {l : List α} {n : Nat}, l.findIdx? p = some n → (∃ z, l[n]? = some z ∧ p z = true) ∧ ∀ m z, m < n → l[m]? = some z → p z = false
  | [], n, e => by cases e
  | a :: l, n, e => by
    rw [List.findIdx?_cons] at e
    split at e
    · rename_i h
      cases e
      exact ⟨⟨a, rfl, h⟩, fun m z hm => by omega⟩
    · rename_i h
      cases q : l.findIdx? p with
      | none => rw [q] at e; cases e
      | some k =>
        rw [q] at e
        obtain rfl : k + 1 = n := Option.some.inj e
        obtain ⟨⟨z, h1, h2⟩, h3⟩ := findIdx_spec q
        refine ⟨⟨z, by simpa using h1, h2⟩, fun m y hm hy => ?_⟩
        cases m with
        | zero => simp at hy; subst hy; simpa using h
        | succ m => exact h3 m y (by omega) (by simpa using hy)
theorem pyL_get {d : D} : ∀ {ds : List D} {n : Nat}, ds[n]? = some d → (D.pyL ds)[n]? = some d.py
  | [], n, e => by simp at e
  | x :: xs, 0, e => by simp at e; subst e; rw [D.pyL]; rfl
  | x :: xs, n + 1, e => by rw [D.pyL]; simpa using pyL_get (ds := xs) (by simpa using e)
theorem pyL_get' {z : PyData} : ∀ {ds : List D} {n : Nat}, (D.pyL ds)[n]? = some z → ∃ d, ds[n]? = some d ∧ d.py = z
  | [], n, e => by simp [D.pyL] at e
  | x :: xs, 0, e => by rw [D.pyL] at e; simp at e; exact ⟨x, rfl, e⟩
  | x :: xs, n + 1, e => by rw [D.pyL] at e; simpa using pyL_get' (ds := xs) (by simpa using e)
theorem imp_index {a b : E} (t : tE A Wx (.mt .index a [b]) σ H Q) : tBM A.K "list" (rIndexD A.K) (tE A Wx a) (tA A Wx [b]) σ H Q := by
  obtain ⟨W, h, oA, ss, w, s, p⟩ := t
  simp only [evE] at p
  refine tE_bind w s p fun W1 H1 r h1 v x1 w1 s1 q1 p1 p0 => ?_
  cases hd : r.rd with
  | lst xs =>
    obtain ⟨l, vs, rfl, e1, e2, e3⟩ := q1.rdLst w1 hd
    refine ⟨Or.inl ⟨rfl, _, Or.inl e1⟩, ?_⟩
    rw [hd] at p1
    refine tA_bindE w1 s1 (es := [b]) (k := fun rs h => O.of h (mtR .index r rs)) p1 fun W2 H2 rs h2 us el x2 w2 s2 q2 p2 p02 => ?_
    match rs, us, q2, p2 with
    | [r2], [u], .cons qu .nil, p2 =>
      simp only [mtR, hd] at p2
      split at p2
      · rename_i hc
        obtain ⟨h1', h2'⟩ := Bool.and_eq_true_iff.mp hc
        have h3' : ∀ d ∈ xs, d.okN 50 = true := List.all_eq_true.mp h2'
        cases ef : xs.findIdx? fun z => D.eqb z r2.rd with
        | none => rw [ef] at p2; exact p2.elim
        | some n =>
          rw [ef] at p2
          obtain ⟨⟨z, k1, k2⟩, k3⟩ := findIdx_spec ef
          have hok : r.rd.okN 51 = true := by rw [hd]; simpa [D.okN] using h3'
          have q1' := q1.ext w1 x2
          have d1 := q1'.dp w2 hok
          have sh := shaped_py hok (by decide)
          rw [hd, D.py] at d1 sh
          refine ⟨l, u, r2.rd.py, D.pyL xs, n, z.py, rfl, rfl, d1, qu.dp w2 h1', sh, shaped_py h1' (by decide), pyL_get k1, ?_, fun m y hm hy => ?_, done_v w2 (p2.mono (Ext.refl _ _) (TR.back (x1.trans x2))) (.int _)⟩
          · rw [eqv_py _ _ 50 50 (h3' z (List.mem_of_getElem? k1)) h1']; exact k2
          · obtain ⟨d, g1, rfl⟩ := pyL_get' hy
            rw [eqv_py _ _ 50 50 (h3' d (List.mem_of_getElem? g1)) h1']; exact k3 m d hm g1
      · exact p2.elim
    | [], [], .nil, p2 => simp only [mtR] at p2; exact p2.elim
    | r2 :: r3 :: rr, u :: u2 :: ur, .cons _ (.cons _ _), p2 => simp only [mtR] at p2; exact p2.elim
  | _ => rw [hd] at p1; exact p1.elim
/-! ### methods of texts -/
theorem strs_rep {K : PySem.W.Frag} {W : Wd} {H : Hp} : ∀ {vs : List V} {ds : List D} {ns : List Str}, RepL K W H vs ds → strs? ds = some ns → vs = ns.map V.str
  | _, _, ns, .nil, e => by cases e; rfl
  | _, d :: ds, ns, .cons a b, e => by
    cases a with
    | str x =>
      simp only [strs?] at e
      cases e2 : strs? ds with
      | none => rw [e2] at e; cases e
      | some ns2 =>
        rw [e2] at e
        cases e
        rw [strs_rep b e2]
        rfl
    | _ => simp [strs?] at e
theorem rep_strs {K : PySem.W.Frag} {W : Wd} {H : Hp} : ∀ ss : List Str, RepL K W H (ss.map V.str) (ss.map D.str)
  | [] => .nil
  | _ :: ss => .cons (.str _) (rep_strs ss)
theorem imp_join {a b : E} (t : tE A Wx (.mt .join a [b]) σ H Q) : tM1 (fun x xs H Q => ∃ a p, ∃ ys : List Str, x = .str a ∧ xs = [.ref p] ∧ (SqL A.K H p (ys.map V.str) ∨ SqT A.K H p (ys.map V.str)) ∧ (ys.map (·.length)).sum + ys.length * a.length ≤ 16777216 ∧ Q (.str (PySem.Txt.join a ys)) H) (tE A Wx a) (tE A Wx b) σ H Q := by
  obtain ⟨W, h, oA, ss, w, s, p⟩ := t
  simp only [evE] at p
  refine tE_bind w s p fun W1 H1 r h1 v x1 w1 s1 q1 p1 p0 => ?_
  cases r with
  | v d =>
    cases d with
    | str x =>
      cases q1
      refine ⟨⟨x, rfl⟩, ?_⟩
      simp only [R.rd, mtPre, evL, O.bind_assoc] at p1
      refine tE_bind w1 s1 p1 fun W2 H2 r2 h2 u x2 w2 s2 q2 p2 p02 => ?_
      simp only [O.bind_ok, mtR] at p2
      cases hd : r2.rd with
      | lst ys =>
        rw [hd] at p2
        simp only at p2
        cases es : strs? ys with
        | none => rw [es] at p2; exact p2.elim
        | some ns =>
          rw [es] at p2
          simp only at p2
          split at p2
          · rename_i hc
            obtain ⟨l, vs, rfl, e1, e2, e3⟩ := q2.rdLst w2 hd
            have ev := strs_rep e2 es
            subst ev
            exact ⟨x, l, ns, rfl, rfl, .inl (.inl e1), Nat.le_trans (of_decide_eq_true hc) (by decide), done_v w2 (p2.mono (Ext.refl _ _) (TR.back (x1.trans x2))) (.str _)⟩
          · exact p2.elim
      | _ => rw [hd] at p2; exact p2.elim
    | _ => exact p1.elim
  | nl _ => exact p1.elim
  | bw _ => exact p1.elim
theorem imp_split {a b : E} (t : tE A Wx (.mt .split a [b]) σ H Q) : tM1 (fun x xs H Q => ∃ a b, x = .str a ∧ xs = [.str b] ∧ (b.length == 0) = false ∧ a.length + 2 ≤ sizeLine ∧ rNewStrs (PySem.Txt.split a b) H Q) (tE A Wx a) (tE A Wx b) σ H Q := by
  obtain ⟨W, h, oA, ss, w, s, p⟩ := t
  simp only [evE] at p
  refine tE_bind w s p fun W1 H1 r h1 v x1 w1 s1 q1 p1 p0 => ?_
  cases r with
  | v d =>
    cases d with
    | str x =>
      cases q1
      refine ⟨⟨x, rfl⟩, ?_⟩
      simp only [R.rd, mtPre, evL, O.bind_assoc] at p1
      refine tE_bind w1 s1 p1 fun W2 H2 r2 h2 u x2 w2 s2 q2 p2 p02 => ?_
      simp only [O.bind_ok] at p2
      cases r2 with
      | v d2 =>
        cases d2 with
        | str y =>
          simp only [mtR] at p2
          split at p2
          · rename_i hc
            have hc' := of_decide_eq_true hc
            cases q2
            refine ⟨x, y, rfl, rfl, hc'.1, ?_, done_nl w2 (p2.mono (Ext.refl _ _) (TR.back (x1.trans x2))) (rep_strs _)⟩
            have h1 := hc'.2
            rw [sizeLine_eq]
            omega
          · exact p2.elim
        | _ => exact p2.elim
      | nl _ => exact p2.elim
      | bw _ => exact p2.elim
    | _ => exact p1.elim
  | nl _ => exact p1.elim
  | bw _ => exact p1.elim
theorem imp_upper {a : E} (t : tE A Wx (.mt .upper a []) σ H Q) : tM0 (fun x xs H Q => ∃ a, x = .str a ∧ xs = [] ∧ a.length ≤ 5592405 ∧ Q (.str (PySem.Txt.upper a)) H) (tE A Wx a) σ H Q := by
  obtain ⟨W, h, oA, ss, w, s, p⟩ := t
  simp only [evE] at p
  refine tE_bind w s p fun W1 H1 r h1 v x1 w1 s1 q1 p1 p0 => ?_
  cases r with
  | v d =>
    cases d with
    | str x =>
      cases q1
      refine ⟨⟨x, rfl⟩, ?_⟩
      simp only [R.rd, mtPre, evL, O.bind_ok, mtR] at p1
      split at p1
      · rename_i hc
        exact ⟨x, rfl, rfl, Nat.le_trans (of_decide_eq_true hc) (by decide), done_v w1 (p1.mono (Ext.refl _ _) (TR.back x1)) (.str _)⟩
      · exact p1.elim
    | _ => exact p1.elim
  | nl _ => exact p1.elim
  | bw _ => exact p1.elim
end
end GV
set_option Elab.async false
set_option linter.all false
set_option maxRecDepth 100000
set_option maxHeartbeats 4000000
/-! GV10: targets, walks, comprehensions. -/
namespace GV
open PySem L2
/-! ### a list that is in nobody's data changes -/
section
variable {K : PySem.W.Frag} {cl : Cl} {W : Wd} {H : Hp} {h : MH} {p : Addr} {xs ys : List V} {oA : Nat → Option Addr} {ss : SS} {σ : L2.St}
theorem ne_fp {a : Addr} (z : W.fp a) (m : ¬ W.fp p) : a ≠ p := fun q => m (q ▸ z)
theorem ne_F {a : Addr} (z : W.F a) (m : ¬ W.F p) : a ≠ p := fun q => m (q ▸ z)
mutual
theorem Rep.chg (e : H p = some (.lst xs)) (n : ¬ W.F p) : ∀ {v : V} {d : D}, Rep K W H v d → Rep K W (upd H p (.lst ys)) v d
  | _, _, .non => .non
  | _, _, .bl b => .bl b
  | _, _, .int i => .int i
  | _, _, .str s => .str s
  | _, _, .tup q r => .tup (by
      rcases q with (q | ⟨o, q⟩) | q
      · exact .inl (.inl (by rw [upd_ne (ne_of q e (by intro z; cases z))]; exact q))
      · exact .inl (.inr ⟨o, by rw [upd_ne (ne_of q e (by intro z; cases z))]; exact q⟩)
      · exact .inr q) (RepL.chg e n r)
  | _, _, .lst q f r => .lst (by
      rename_i a _ _
      have na : a ≠ p := ne_F f n
      rcases q with q | ⟨o, q⟩
      · exact .inl (by rw [upd_ne na]; exact q)
      · exact .inr ⟨o, by rw [upd_ne na]; exact q⟩) f (RepL.chg e n r)
  | _, _, .obj q => .obj q
theorem RepL.chg (e : H p = some (.lst xs)) (n : ¬ W.F p) : ∀ {vs : List V} {ds : List D}, RepL K W H vs ds → RepL K W (upd H p (.lst ys)) vs ds
  | _, _, .nil => .nil
  | _, _, .cons a b => .cons (Rep.chg e n a) (RepL.chg e n b)
end
theorem Paired.chg {i : Nat} (e : H p = some (.lst xs)) (n : ¬ W.F p) (m : ¬ W.fp p) : ∀ {fs : List (Str × Fd)} {gs : List (Str × V)}, Paired (FRel K W H i) fs gs → Paired (FRel K W (upd H p (.lst ys)) i) fs gs
  | _, _, .nil => .nil
  | (f, .v d) :: _, _, .cons a b => .cons ⟨a.1, Rep.chg e n a.2⟩ (Paired.chg e n m b)
  | (f, .own k xs) :: _, _, .cons a b => .cons ⟨a.1, by
      obtain ⟨_, q, vs, h1, h2, h3, h4⟩ := a
      exact ⟨q, vs, h1, h2, by rw [upd_ne (ne_fp ⟨_, h1⟩ m)]; exact h3, RepL.chg e n h4⟩⟩ (Paired.chg e n m b)
theorem WOk.chg (w : WOk K cl W h H) (e : H p = some (.lst xs)) (n : ¬ W.F p) (m : ¬ W.fp p) : WOk K cl W h (upd H p (.lst ys)) where
  inj := w.inj
  dis := w.dis
  cov := fun a z => by rw [upd_ne (ne_fp z m)]; exact w.cov a z
  frz := fun a z => by rw [upd_ne (ne_F z n)]; exact w.frz a z
  obj := fun i o q => by
    have r := w.obj i o q
    cases o with
    | lst zs =>
      obtain ⟨a, vs, e1, e2, e3⟩ := r
      exact ⟨a, vs, e1, by rw [upd_ne (ne_fp ⟨_, e1⟩ m)]; exact e2, RepL.chg e n e3⟩
    | ins c fs =>
      obtain ⟨a, C, dx, gs, e1, e2, e3, e4⟩ := r
      exact ⟨a, C, dx, gs, e1, e2, by rw [upd_ne (ne_fp ⟨_, e1⟩ m)]; exact e3, Paired.chg e n m e4⟩
    | dic c kvs =>
      obtain ⟨a, ob, zs, e1, e2, e3, e4⟩ := r
      exact ⟨a, ob, zs, e1, e2, by rw [upd_ne (ne_fp ⟨_, e1⟩ m)]; exact e3, DP.map (fun _ _ z => Rep.chg e n z) e4⟩
  bnd := w.bnd
  nxt := w.nxt
  dbd := w.dbd
  dnx := w.dnx
/-- what was before the list's birth stands -/
theorem Ext.chg {W0 : Wd} {H0 : Hp} (x : Ext W0 H0 W H) (e : H p = some (.lst xs)) (b : H0 p = none) : Ext W0 H0 W (upd H p (.lst ys)) where
  keep := fun a o q n => by rw [upd_ne (ne_of_none q b)]; exact x.keep a o q n
  there := fun a q => by
    by_cases z : a = p
    · subst z; rw [upd_same]; exact Option.some_ne_none _
    · rw [upd_ne z]; exact x.there a q
  fpn := x.fpn
  ids := x.ids
  fF := x.fF
  fn := x.fn
  ob := x.ob
end
/-! ### targets -/
mutual
def gTg (K : PySem.W.Frag) : Tg → TG
  | .n j => gName j
  | .t ts => gTup K ts.length (gTgs K ts)
def gTgs (K : PySem.W.Frag) : List Tg → TGs
  | [] => gNil
  | t :: ts => gCons (gTg K t) (gTgs K ts)
end
section
variable {A : Stat} {W : Wd} {H : Hp} {oA : Nat → Option Addr} {ss ss' : SS} {σ : L2.St}
theorem SRel.setV {K : PySem.W.Frag} {j : Nat} {v : V} {d : D} (s : SRel K W H oA ss σ) (hj : j < ss.length) (r : Rep K W H v d) : SRel K W H oA (ss.set j (some (.v d))) (σ.set j (some v)) where
  vs := fun i e q => by
    by_cases z : j = i
    · subst z
      rw [List.getElem?_set_self hj] at q
      cases q
      exact ⟨v, by rw [List.getElem?_set_self (by rw [← s.len]; exact hj)], r⟩
    · rw [List.getElem?_set_ne z] at q ⊢
      exact s.vs i e q
  own := fun i xs q => by
    by_cases z : j = i
    · subst z
      rw [List.getElem?_set_self hj] at q
      cases q
    · rw [List.getElem?_set_ne z] at q
      obtain ⟨a, vs, e1, e2, e3⟩ := s.own i xs q
      exact ⟨a, vs, e1, by rw [List.getElem?_set_ne z]; exact e2, e3⟩
  bw := fun i xs q => by
    by_cases z : j = i
    · subst z
      rw [List.getElem?_set_self hj] at q
      cases q
    · rw [List.getElem?_set_ne z] at q
      obtain ⟨a, vs, e2, e3⟩ := s.bw i xs q
      exact ⟨a, vs, by rw [List.getElem?_set_ne z]; exact e2, e3⟩
  inj := s.inj
  free := s.free
  len := by simp [s.len]
/- the slots that a target stores -/
mutual
def Tg.js : Tg → List Nat
  | .n j => [j]
  | .t ts => Tg.jsL ts
def Tg.jsL : List Tg → List Nat
  | [] => []
  | x :: xs => Tg.js x ++ Tg.jsL xs
end
theorem wipe_set {j : Nat} {v : Option V} : ∀ {vs : List Nat} {σ : L2.St}, j ∈ vs → wipe (σ.set j v) vs = wipe σ vs
  | [], _, h => by cases h
  | u :: vs, σ, h => by
    unfold wipe
    by_cases e : j ∈ vs
    · rw [wipe_set e]
    · rcases List.mem_cons.mp h with z | z
      · subst z
        have : ∀ (vs : List Nat) (σ : L2.St), j ∉ vs → wipe (σ.set j v) vs = (wipe σ vs).set j v := by
          intro vs
          induction vs with
          | nil => intro σ _; rfl
          | cons w ws ih =>
            intro σ hn
            have h1 : j ≠ w := fun z => hn (by simp [z])
            have h2 : j ∉ ws := fun z => hn (by simp [z])
            unfold wipe
            rw [ih σ h2, List.set_comm _ _ h1]
        rw [this vs σ e, List.set_set]
      · exact absurd z e
def Kept (js : List Nat) (σ σ' : L2.St) : Prop := ∀ vs : List Nat, (∀ j ∈ js, j ∈ vs) → wipe σ' vs = wipe σ vs
mutual
theorem tg_ok : ∀ {t : Tg} {d : D} {v : V} {ss ss' : SS} {σ : L2.St} {Q : L2.St → Hp → Prop}, SRel A.K W H oA ss σ → Rep A.K W H v d → asgT t d ss = some ss' → (∀ σ', SRel A.K W H oA ss' σ' → Kept t.js σ σ' → Q σ' H) → gTg A.K t v σ H Q
  | .n j, d, v, ss, ss', σ, Q, s, r, e, k => by
    unfold asgT at e
    split at e
    · rename_i hj
      cases e
      rw [gTg]
      exact k _ (s.setV hj r) fun vs hv => wipe_set (hv j (by simp [Tg.js]))
    · cases e
  | .t ts, .tup ds, v, ss, ss', σ, Q, s, r, e, k => by
    rw [asgT] at e
    cases r with
    | tup q1 q2 =>
      rw [gTg]
      refine ⟨_, _, rfl, q1, ?_, tgs_ok s q2 e fun σ' s' kp => k σ' s' (by rw [Tg.js]; exact kp)⟩
      rw [q2.length]
      exact (tgs_len e).symm
  | .t ts, .non, _, _, _, _, _, _, _, e, _ => by simp [asgT] at e
  | .t ts, .bl _, _, _, _, _, _, _, _, e, _ => by simp [asgT] at e
  | .t ts, .int _, _, _, _, _, _, _, _, e, _ => by simp [asgT] at e
  | .t ts, .str _, _, _, _, _, _, _, _, e, _ => by simp [asgT] at e
  | .t ts, .lst _, _, _, _, _, _, _, _, e, _ => by simp [asgT] at e
  | .t ts, .obj _, _, _, _, _, _, _, _, e, _ => by simp [asgT] at e
theorem tgs_ok : ∀ {ts : List Tg} {ds : List D} {vs : List V} {ss ss' : SS} {σ : L2.St} {Q : L2.St → Hp → Prop}, SRel A.K W H oA ss σ → RepL A.K W H vs ds → asgTs ts ds ss = some ss' → (∀ σ', SRel A.K W H oA ss' σ' → Kept (Tg.jsL ts) σ σ' → Q σ' H) → gTgs A.K ts vs σ H Q
  | [], [], vs, ss, ss', σ, Q, s, r, e, k => by
    rw [asgTs] at e
    cases e
    cases r
    rw [gTgs]
    exact ⟨rfl, k _ s fun _ _ => rfl⟩
  | [], _ :: _, _, _, _, _, _, _, _, e, _ => by simp [asgTs] at e
  | _ :: _, [], _, _, _, _, _, _, _, e, _ => by simp [asgTs] at e
  | t :: ts, d :: ds, vs, ss, ss', σ, Q, s, r, e, k => by
    rw [asgTs] at e
    cases q : asgT t d ss with
    | none => rw [q] at e; cases e
    | some ss1 =>
      rw [q] at e
      cases r with
      | cons r1 r2 =>
        rw [gTgs]
        exact ⟨_, _, rfl, tg_ok s r1 q fun σ1 s1 k1 => tgs_ok s1 r2 e fun σ2 s2 k2 => k σ2 s2 fun vs hv => (k2 vs fun j hj => hv j (by simp [Tg.jsL, hj])).trans (k1 vs fun j hj => hv j (by simp [Tg.jsL, hj]))⟩
theorem tgs_len : ∀ {ts : List Tg} {ds : List D} {ss ss' : SS}, asgTs ts ds ss = some ss' → ts.length = ds.length
  | [], [], _, _, _ => rfl
  | [], _ :: _, _, _, e => by simp [asgTs] at e
  | _ :: _, [], _, _, e => by simp [asgTs] at e
  | t :: ts, d :: ds, ss, ss', e => by
    rw [asgTs] at e
    cases q : asgT t d ss with
    | none => rw [q] at e; cases e
    | some ss1 =>
      rw [q] at e
      simp [tgs_len (ts := ts) e]
end
theorem wipeS_length (ss : SS) : ∀ vs : List Nat, (wipeS ss vs).length = ss.length
  | [] => rfl
  | v :: vs => by simp [wipeS, wipeS_length ss vs]
theorem wipeS_some {x : Sl} {i : Nat} : ∀ {vs : List Nat}, (wipeS ss vs)[i]? = some (some x) → ss[i]? = some (some x) ∧ i ∉ vs
  | [], h => ⟨h, by simp⟩
  | v :: vs, h => by
    unfold wipeS at h
    by_cases hi : v = i
    · subst hi
      by_cases hv : v < (wipeS ss vs).length
      · rw [List.getElem?_set_self hv] at h; cases h
      · rw [List.getElem?_eq_none (by simpa using hv)] at h; cases h
    · rw [List.getElem?_set_ne hi] at h
      obtain ⟨h1, h2⟩ := wipeS_some h
      exact ⟨h1, by simp only [List.mem_cons, not_or]; exact ⟨fun e => hi e.symm, h2⟩⟩
theorem SRel.wiped (s : SRel A.K W H oA ss σ) (vs : List Nat) : SRel A.K W H oA (wipeS ss vs) (wipe σ vs) where
  vs := fun j d e => by
    obtain ⟨h1, h2⟩ := wipeS_some e
    rw [wipe_out h2]
    exact s.vs j d h1
  own := fun j d e => by
    obtain ⟨h1, h2⟩ := wipeS_some e
    rw [wipe_out h2]
    exact s.own j d h1
  bw := fun j d e => by
    obtain ⟨h1, h2⟩ := wipeS_some e
    rw [wipe_out h2]
    exact s.bw j d h1
  inj := s.inj
  free := s.free
  len := by rw [wipeS_length, wipe_length]; exact s.len
end
end GV
set_option Elab.async false
set_option linter.all false
set_option maxRecDepth 100000
set_option maxHeartbeats 4000000
/-! GV11: what is walked; comprehensions. -/
namespace GV
open PySem L2
abbrev W0 : WX := fun _ _ _ _ => False
def iSeq (K : PySem.W.Frag) (tl : TE) : TI := fun σ H R => tl σ H fun x H1 => ∃ a, x = .ref a ∧ (((∃ xs, SqL K H1 a xs) ∧ R (Itl K a) H1) ∨ ((∃ xs, SqT K H1 a xs) ∧ R (Itt K a) H1))
theorem pi_seq {X : Cx} {tg l : Expr} {tl : TE} (hl : PE X l tl) : PI X tg l (iSeq X.K tl) := by
  refine ⟨fun pins s σ H R I h => ?_⟩
  refine thn (hl.run pins s σ H _ I h) fun v s1 ⟨x, H1, I1, r1, q1⟩ => ?_
  obtain ⟨a, e, q⟩ := q1
  subst e
  cases r1
  rcases q with ⟨⟨xs, hq⟩, q⟩ | ⟨⟨xs, hq⟩, q⟩
  · obtain ⟨its, rv, p, hz⟩ := I1.list hq
    refine wpAny_pyIter_list p.isList ?_
    refine ⟨s1.heap.objs.size, [s1.heap.objs.size], _, _, H1, rfl, I1.kept (t' := s1.toks) fun b o e => Heap.get?_push_of_some _ e, turn_list a _, ⟨_, Heap.get?_push_size _ rfl, rfl, rfl⟩, fun b hb => ?_, q⟩
    have e : b = s1.heap.objs.size := by simpa using hb
    subst e
    exact I1.fpOk (Nat.le_refl _) (I1.hok.fresh (Nat.le_refl _))
  · obtain ⟨its, rv, p, hz⟩ := I1.tuple hq
    refine wpAny_pyIter_tuple (show s1.heap.IsTuple a its.toArray from p) ?_
    refine ⟨s1.heap.objs.size, [s1.heap.objs.size], _, _, H1, rfl, I1.kept (t' := s1.toks) fun b o e => Heap.get?_push_of_some _ e, turn_tuple a _, ⟨_, Heap.get?_push_size _ rfl, rfl, rfl⟩, fun b hb => ?_, q⟩
    have e : b = s1.heap.objs.size := by simpa using hb
    subst e
    exact I1.fpOk (Nat.le_refl _) (I1.hok.fresh (Nat.le_refl _))
def iK (A : Stat) (Wx : WX) : IK → List E → TI
  | .seq, [e] => iSeq A.K (tE A Wx e)
  | .rng, [a] => iRng1 (tA A Wx [a])
  | .rng, [a, b] => iRng2 (tA A Wx [a, b])
  | .enum, [e] => iEnumA A.K (tA A Wx [e])
  | .zip, [a, b] => iZip2 A.K (tA A Wx [a, b])
  | .zip, [a, b, c] => iZip3 A.K (tA A Wx [a, b, c])
  | _, _ => fun _ _ _ => False
def srcB : IK → List E → Bool
  | .seq, [_] => true
  | .rng, [_] => true
  | .rng, [_, _] => true
  | .enum, [_] => true
  | .zip, [_, _] => true
  | .zip, [_, _, _] => true
  | _, _ => false
/-- J walks the items ds, as long as P holds of the state -/
def Wk (A : Stat) (P : Wd → Hp → Prop) (ds : List D) (J : It) : Prop := ∃ G Y, Walk J ds.length G Y ∧ (∀ W' H', P W' H' → G H') ∧
  ∀ i H' x H'' W' h', i < ds.length → P W' H' → WOkA A W' h' H' → Y i H' x H'' → ∃ d, ds[i]? = some d ∧ Rep A.K W' H'' x d ∧ Ext W' H' W' H'' ∧ WOkA A W' h' H''
/-- a source of a walk stands while P holds -/
def SrcOk (A : Stat) (P : Wd → Hp → Prop) (v : V) (r : R) : Prop :=
  (∀ xs, r.rd = .lst xs → ∃ p vs, v = .ref p ∧ ∀ W' H', P W' H' → SqL A.K H' p vs ∧ RepL A.K W' H' vs xs) ∧
  (∀ xs, r.rd = .tup xs → ∃ p vs, v = .ref p ∧ ∀ W' H', P W' H' → SqT A.K H' p vs ∧ RepL A.K W' H' vs xs)
section
variable {A : Stat} {Wx : WX} {σ : L2.St} {H H0 : Hp} {W : Wd} {h : MH} {P : Wd → Hp → Prop}
theorem srcExt {v : V} {r : R} (w : WOkA A W h H) (q : RRel A.K W H0 H v r) : SrcOk A (Ext W H) v r :=
  ⟨fun xs e => let ⟨p, vs, e1, e2, e3, e4⟩ := q.rdLst w e; ⟨p, vs, e1, fun W' H' x => ⟨.inl (rd_ext x e4 e2), RepL.ext w x e3⟩⟩,
   fun xs e => let ⟨p, vs, e1, e2, e3⟩ := q.rdTup e; ⟨p, vs, e1, fun W' H' x => ⟨sqT_ext w x e2, RepL.ext w x e3⟩⟩⟩
theorem wk_list {a : Addr} {vs : List V} {ds : List D} (hl : vs.length = ds.length) (q : ∀ W' H', P W' H' → SqL A.K H' a vs ∧ RepL A.K W' H' vs ds) : Wk A P ds (Itl A.K a) := by
  refine ⟨fun H => SqL A.K H a vs, YAt vs, by rw [← hl]; exact walk_list, fun W' H' x => (q W' H' x).1, fun i H' x H'' W' h' hi ex w' y => ?_⟩
  obtain ⟨rfl, e1⟩ := y
  obtain ⟨d, e2, e3⟩ := (q _ _ ex).2.get e1
  exact ⟨d, e2, e3, Ext.refl _ _, w'⟩
theorem wk_tup {a : Addr} {vs : List V} {ds : List D} (hl : vs.length = ds.length) (q : ∀ W' H', P W' H' → SqT A.K H' a vs ∧ RepL A.K W' H' vs ds) : Wk A P ds (Itt A.K a) := by
  refine ⟨fun H => SqT A.K H a vs, YAt vs, by rw [← hl]; exact walk_tup, fun W' H' x => (q W' H' x).1, fun i H' x H'' W' h' hi ex w' y => ?_⟩
  obtain ⟨rfl, e1⟩ := y
  obtain ⟨d, e2, e3⟩ := (q _ _ ex).2.get e1
  exact ⟨d, e2, e3, Ext.refl _ _, w'⟩
theorem rngD_len (a b : Int) : (rngD a b).length = (b - a).toNat := by simp [rngD]
theorem wk_rng (a b : Int) : Wk A P (rngD a b) (Itr a (b - a).toNat) := by
  refine ⟨fun _ => True, YFn fun i => .int (a + i), by rw [rngD_len]; exact walk_range, fun _ _ _ => trivial, fun i H' x H'' W' h' hi ex w' y => ?_⟩
  obtain ⟨rfl, rfl⟩ := y
  refine ⟨.int (a + i), ?_, .int _, Ext.refl _ _, w'⟩
  rw [rngD_len] at hi
  simp [rngD, hi]
theorem new_pair {T : Addr} {x y : V} {d d' : D} {W' : Wd} {H' : Hp} {h' : MH} (w' : WOkA A W' h' H') (n : H' T = none) (r : Rep A.K W' H' x d) (r' : Rep A.K W' H' y d') :
    Rep A.K W' (upd H' T (.tup [x, y])) (.ref T) (.tup [d, d']) ∧ Ext W' H' W' (upd H' T (.tup [x, y])) ∧ WOkA A W' h' (upd H' T (.tup [x, y])) :=
  ⟨.tup (SqT.of upd_same) (.cons (r.ext w' (Ext.laid n)) (.cons (r'.ext w' (Ext.laid n)) .nil)), Ext.laid n, w'.laid n⟩
theorem wk_enum {a : Addr} {vs : List V} {ds : List D} (hl : vs.length = ds.length) (q : ∀ W' H', P W' H' → SqL A.K H' a vs ∧ RepL A.K W' H' vs ds) : Wk A P (ds.zipIdx.map fun p => .tup [.int (p.2 : Nat), p.1]) (Ite A.K a) := by
  refine ⟨fun H => SqL A.K H a vs, YPair (fun i => some (.int (i : Nat))) (fun i => vs[i]?), by simp only [List.length_map, List.length_zipIdx]; rw [← hl]; exact walk_enum, fun W' H' x => (q W' H' x).1, fun i H' x H'' W' h' hi ex w' y => ?_⟩
  obtain ⟨T, x1, y1, rfl, nT, rfl, e1, e2⟩ := y
  obtain ⟨d, e3, e4⟩ := (q _ _ ex).2.get e2
  cases e1
  obtain ⟨q1, q2, q3⟩ := new_pair w' nT (.int (i : Nat)) e4
  exact ⟨_, by simp [List.getElem?_zipIdx, e3], q1, q2, q3⟩
theorem wk_enumT {a : Addr} {vs : List V} {ds : List D} (hl : vs.length = ds.length) (q : ∀ W' H', P W' H' → SqT A.K H' a vs ∧ RepL A.K W' H' vs ds) : Wk A P (ds.zipIdx.map fun p => .tup [.int (p.2 : Nat), p.1]) (IteT A.K a) := by
  refine ⟨fun H => SqT A.K H a vs, YPair (fun i => some (.int (i : Nat))) (fun i => vs[i]?), ?_, fun W' H' x => (q W' H' x).1, fun i H' x H'' W' h' hi ex w' y => ?_⟩
  · have hn : (ds.zipIdx.map fun p => D.tup [.int (p.2 : Nat), p.1]).length = vs.length := by simp [hl]
    rw [hn]
    refine ⟨fun i _ hi q => ⟨vs, vs[i], q, by simp [hi]⟩, fun _ q => ⟨vs, q, rfl⟩, fun i H v H' _ q y => ?_⟩
    obtain ⟨T, x, h1, h2, h3, h4⟩ := y
    exact ⟨T, _, x, h1, h2, h3, rfl, h4 vs q⟩
  · obtain ⟨T, x1, y1, rfl, nT, rfl, e1, e2⟩ := y
    obtain ⟨d, e3, e4⟩ := (q _ _ ex).2.get e2
    cases e1
    obtain ⟨q1, q2, q3⟩ := new_pair w' nT (.int (i : Nat)) e4
    exact ⟨_, by simp [List.getElem?_zipIdx, e3], q1, q2, q3⟩
theorem wk_zip2 {b c : Bool} {a a' : Addr} {vs us : List V} {ds es : List D} (hl : vs.length = ds.length) (hl' : us.length = es.length) (q : ∀ W' H', P W' H' → SqB A.K b H' a vs ∧ RepL A.K W' H' vs ds) (q' : ∀ W' H', P W' H' → SqB A.K c H' a' us ∧ RepL A.K W' H' us es) :
    Wk A P ((ds.zip es).map fun p => .tup [p.1, p.2]) (It2 A.K b c a a') := by
  refine ⟨fun H => SqB A.K b H a vs ∧ SqB A.K c H a' us, YPair (fun i => vs[i]?) (fun i => us[i]?), ?_, fun W' H' x => ⟨(q W' H' x).1, (q' W' H' x).1⟩, fun i H' x H'' W' h' hi ex w' y => ?_⟩
  · have hn : ((ds.zip es).map fun p => D.tup [p.1, p.2]).length = min vs.length us.length := by simp [hl, hl']
    rw [hn]
    refine ⟨fun i _ hi q => ?_, fun _ q => ⟨vs, us, q.1, q.2, rfl⟩, fun i H v H' _ q y => ?_⟩
    · have h1 : i < vs.length := by omega
      have h2 : i < us.length := by omega
      exact ⟨vs, us, vs[i], us[i], q.1, q.2, by simp [h1], by simp [h2]⟩
    · obtain ⟨T, x, z, h1, h2, h3, h4, h5⟩ := y
      exact ⟨T, x, z, h1, h2, h3, h4 vs q.1, h5 us q.2⟩
  · obtain ⟨T, x1, y1, rfl, nT, rfl, e1, e2⟩ := y
    obtain ⟨d, e3, e4⟩ := (q _ _ ex).2.get e1
    obtain ⟨d', e5, e6⟩ := (q' _ _ ex).2.get e2
    obtain ⟨q1, q2, q3⟩ := new_pair w' nT e4 e6
    exact ⟨_, by simp [List.getElem?_zip_eq_some, e3, e5], q1, q2, q3⟩
theorem new_triple {T : Addr} {x y z : V} {d d' d'' : D} {W' : Wd} {H' : Hp} {h' : MH} (w' : WOkA A W' h' H') (n : H' T = none) (r : Rep A.K W' H' x d) (r' : Rep A.K W' H' y d') (r'' : Rep A.K W' H' z d'') :
    Rep A.K W' (upd H' T (.tup [x, y, z])) (.ref T) (.tup [d, d', d'']) ∧ Ext W' H' W' (upd H' T (.tup [x, y, z])) ∧ WOkA A W' h' (upd H' T (.tup [x, y, z])) :=
  ⟨.tup (SqT.of upd_same) (.cons (r.ext w' (Ext.laid n)) (.cons (r'.ext w' (Ext.laid n)) (.cons (r''.ext w' (Ext.laid n)) .nil))), Ext.laid n, w'.laid n⟩
theorem wk_zip3 {b c d : Bool} {a a' a'' : Addr} {vs us ws : List V} {ds es fs : List D} (hl : vs.length = ds.length) (hl' : us.length = es.length) (hl'' : ws.length = fs.length) (q : ∀ W' H', P W' H' → SqB A.K b H' a vs ∧ RepL A.K W' H' vs ds) (q' : ∀ W' H', P W' H' → SqB A.K c H' a' us ∧ RepL A.K W' H' us es) (q'' : ∀ W' H', P W' H' → SqB A.K d H' a'' ws ∧ RepL A.K W' H' ws fs) :
    Wk A P ((ds.zip (es.zip fs)).map fun p => .tup [p.1, p.2.1, p.2.2]) (It3 A.K b c d a a' a'') := by
  refine ⟨fun H => SqB A.K b H a vs ∧ SqB A.K c H a' us ∧ SqB A.K d H a'' ws, fun i H v H' => ∃ T x y t, v = .ref T ∧ H T = none ∧ H' = upd H T (.tup [x, y, t]) ∧ vs[i]? = some x ∧ us[i]? = some y ∧ ws[i]? = some t, ?_, fun W' H' x => ⟨(q W' H' x).1, (q' W' H' x).1, (q'' W' H' x).1⟩, fun i H' x H'' W' h' hi ex w' y => ?_⟩
  · have hn : ((ds.zip (es.zip fs)).map fun p => D.tup [p.1, p.2.1, p.2.2]).length = min (min vs.length us.length) ws.length := by simp [hl, hl', hl''] <;> omega
    rw [hn]
    refine ⟨fun i _ hi q => ?_, fun _ q => ⟨vs, us, ws, q.1, q.2.1, q.2.2, rfl⟩, fun i H v H' _ q y => ?_⟩
    · have h1 : i < vs.length := by omega
      have h2 : i < us.length := by omega
      have h3 : i < ws.length := by omega
      exact ⟨vs, us, ws, vs[i], us[i], ws[i], q.1, q.2.1, q.2.2, by simp [h1], by simp [h2], by simp [h3]⟩
    · obtain ⟨T, x, z, t, h1, h2, h3, h4, h5, h6⟩ := y
      exact ⟨T, x, z, t, h1, h2, h3, h4 vs q.1, h5 us q.2.1, h6 ws q.2.2⟩
  · obtain ⟨T, x1, y1, t1, rfl, nT, rfl, e1, e2, e0⟩ := y
    obtain ⟨d, e3, e4⟩ := (q _ _ ex).2.get e1
    obtain ⟨d', e5, e6⟩ := (q' _ _ ex).2.get e2
    obtain ⟨d'', e7, e8⟩ := (q'' _ _ ex).2.get e0
    obtain ⟨q1, q2, q3⟩ := new_triple w' nT e4 e6 e8
    exact ⟨_, by rw [List.getElem?_map, (List.getElem?_zip_eq_some (z := (d, (d', d'')))).mpr ⟨e3, (List.getElem?_zip_eq_some (z := (d', d''))).mpr ⟨e5, e7⟩⟩]; rfl, q1, q2, q3⟩
theorem wk_none {ds : List D} {J : It} (hn : ∀ W' H', ¬ P W' H') (hJ : ∃ G Y, Walk J ds.length G Y ∧ ∀ H, ¬ G H) : Wk A P ds J := by
  obtain ⟨G, Y, w, g⟩ := hJ
  exact ⟨G, Y, w, fun W' H' p => (hn W' H' p).elim, fun i H' x H'' W' h' _ p => (hn W' H' p).elim⟩
theorem walk_false (J : It) (n : Nat) : ∃ G Y, Walk J n G Y ∧ ∀ H, ¬ G H := ⟨fun _ => False, fun _ _ _ _ => False, ⟨fun _ _ _ g => g.elim, fun _ g => g.elim, fun _ _ _ _ _ g => g.elim⟩, fun _ g => g⟩
theorem wk_cases {ds : List D} {J : It} (h : ∀ W' H', P W' H' → Wk A P ds J) : Wk A P ds J := by
  by_cases hp : ∃ W' H', P W' H'
  · obtain ⟨W', H', p⟩ := hp
    exact h W' H' p
  · exact wk_none (fun W' H' p => hp ⟨W', H', p⟩) (walk_false J _)
theorem wk_listE {a : Addr} {vs : List V} {ds : List D} (q : ∀ W' H', P W' H' → SqL A.K H' a vs ∧ RepL A.K W' H' vs ds) : Wk A P ds (Itl A.K a) := wk_cases fun W' H' p => wk_list (q W' H' p).2.length q
theorem wk_tupE {a : Addr} {vs : List V} {ds : List D} (q : ∀ W' H', P W' H' → SqT A.K H' a vs ∧ RepL A.K W' H' vs ds) : Wk A P ds (Itt A.K a) := wk_cases fun W' H' p => wk_tup (q W' H' p).2.length q
theorem wk_enumE {a : Addr} {vs : List V} {ds : List D} (q : ∀ W' H', P W' H' → SqL A.K H' a vs ∧ RepL A.K W' H' vs ds) : Wk A P (ds.zipIdx.map fun p => .tup [.int (p.2 : Nat), p.1]) (Ite A.K a) := wk_cases fun W' H' p => wk_enum (q W' H' p).2.length q
theorem wk_enumTE {a : Addr} {vs : List V} {ds : List D} (q : ∀ W' H', P W' H' → SqT A.K H' a vs ∧ RepL A.K W' H' vs ds) : Wk A P (ds.zipIdx.map fun p => .tup [.int (p.2 : Nat), p.1]) (IteT A.K a) := wk_cases fun W' H' p => wk_enumT (q W' H' p).2.length q
theorem wk_zip2E {b c : Bool} {a a' : Addr} {vs us : List V} {ds es : List D} (q : ∀ W' H', P W' H' → SqB A.K b H' a vs ∧ RepL A.K W' H' vs ds) (q' : ∀ W' H', P W' H' → SqB A.K c H' a' us ∧ RepL A.K W' H' us es) :
    Wk A P ((ds.zip es).map fun p => .tup [p.1, p.2]) (It2 A.K b c a a') := wk_cases fun W' H' p => wk_zip2 (q W' H' p).2.length (q' W' H' p).2.length q q'
theorem wk_zip3E {b c d : Bool} {a a' a'' : Addr} {vs us ws : List V} {ds es fs : List D} (q : ∀ W' H', P W' H' → SqB A.K b H' a vs ∧ RepL A.K W' H' vs ds) (q' : ∀ W' H', P W' H' → SqB A.K c H' a' us ∧ RepL A.K W' H' us es) (q'' : ∀ W' H', P W' H' → SqB A.K d H' a'' ws ∧ RepL A.K W' H' ws fs) :
    Wk A P ((ds.zip (es.zip fs)).map fun p => .tup [p.1, p.2.1, p.2.2]) (It3 A.K b c d a a' a'') := wk_cases fun W' H' p => wk_zip3 (q W' H' p).2.length (q' W' H' p).2.length (q'' W' H' p).2.length q q' q''
def R.isT (r : R) : Bool := match r.rd with
  | .tup _ => true
  | _ => false
theorem SrcOk.sq {v : V} {r : R} {xs : List D} (so : SrcOk A P v r) (e : r.rd.seq = some xs) : ∃ p vs, v = .ref p ∧ ∀ W' H', P W' H' → SqB A.K r.isT H' p vs ∧ RepL A.K W' H' vs xs := by
  cases hd : r.rd with
  | lst ys =>
    rw [hd] at e; cases e
    have ht : r.isT = false := by unfold R.isT; rw [hd]
    rw [ht]
    exact so.1 _ hd
  | tup ys =>
    rw [hd] at e; cases e
    have ht : r.isT = true := by unfold R.isT; rw [hd]
    rw [ht]
    exact so.2 _ hd
  | non => rw [hd] at e; cases e
  | bl _ => rw [hd] at e; cases e
  | int _ => rw [hd] at e; cases e
  | str _ => rw [hd] at e; cases e
  | obj _ => rw [hd] at e; cases e
theorem RRel.sq {v : V} {r : R} {xs : List D} (w : WOkA A W h H) (q : RRel A.K W H0 H v r) (e : r.rd.seq = some xs) : ∃ p vs, v = .ref p ∧ SqB A.K r.isT H p vs := by
  obtain ⟨p, vs, e1, e2⟩ := (srcExt w q).sq e
  exact ⟨p, vs, e1, (e2 W H (Ext.refl _ _)).1⟩
theorem P3 {r r' r'' : R} {vs : List V} (q : Paired (RRel A.K W H0 H) vs [r, r', r'']) : ∃ v v' v'', vs = [v, v', v''] ∧ RRel A.K W H0 H v r ∧ RRel A.K W H0 H v' r' ∧ RRel A.K W H0 H v'' r'' := by
  cases q with
  | cons a b =>
    cases b with
    | cons c d =>
      cases d with
      | cons e f => cases f; exact ⟨_, _, _, rfl, a, c, e⟩
theorem srcExtL {vs : List V} {rs : List R} (w : WOkA A W h H) (q : Paired (RRel A.K W H0 H) vs rs) : Paired (SrcOk A (Ext W H)) vs rs := Paired.mapP q fun _ _ z => srcExt w z
/-- what may be asked of an outcome -/
structure PrOk (A : Stat) (W : Wd) (H : Hp) (Wx : WX) (σ : L2.St) {β : Type} (Pr : O β → Prop) : Prop where
  no : ¬ Pr .no
  ex : ∀ c h', Pr (.ex c h') → ∀ W' H', Ext W H W' H' → WOkA A W' h' H' → Wx (A.xc c) none σ H'
theorem PostR.prOk {β : Type} {T : Wd → Hp → β → Prop} : PrOk A W H Wx σ (PostR A W H Wx σ T) := ⟨fun z => z, fun c h' z => z⟩
theorem tE_bindG {β : Type} {oA : Nat → Option Addr} {ss : SS} {e : E} {k : R → MH → O β} {Pr : O β → Prop} {Q : VK} (ok : PrOk A W H Wx σ Pr) (w : WOkA A W h H) (s : SRel A.K W H oA ss σ) (p : Pr ((evE A.G e ss h).bind k))
    (step : ∀ W1 H1 r h1 v, Ext W H W1 H1 → WOkA A W1 h1 H1 → SRel A.K W1 H1 oA ss σ → RRel A.K W1 H H1 v r → Pr (k r h1) → Q v H1) : tE A Wx e σ H Q := by
  refine ⟨W, h, oA, ss, w, s, ?_⟩
  cases q : evE A.G e ss h with
  | ok r h1 =>
    rw [q] at p
    exact fun W1 H1 x w1 v rr => step W1 H1 r h1 v x w1 (s.ext w x) rr p
  | ex c h1 => rw [q] at p; exact ok.ex c h1 p
  | no => rw [q] at p; exact (ok.no p).elim
theorem tA_bindG {β : Type} {oA : Nat → Option Addr} {ss : SS} {es : List E} {k : List R → MH → O β} {Pr : O β → Prop} {Q : List V → Hp → Prop} (ok : PrOk A W H Wx σ Pr) (w : WOkA A W h H) (s : SRel A.K W H oA ss σ) (p : Pr ((evL A.G es ss h).bind k))
    (step : ∀ W1 H1 rs h1 vs, evL A.G es ss h = .ok rs h1 → Ext W H W1 H1 → WOkA A W1 h1 H1 → SRel A.K W1 H1 oA ss σ → Paired (RRel A.K W1 H H1) vs rs → Pr (k rs h1) → Q vs H1) : tA A Wx es σ H Q := by
  refine ⟨W, h, oA, ss, w, s, ?_⟩
  cases q : evL A.G es ss h with
  | ok r h1 =>
    rw [q] at p
    exact fun W1 H1 x w1 v rr => step W1 H1 r h1 v q x w1 (s.ext w x) rr p
  | ex c h1 => rw [q] at p; exact ok.ex c h1 p
  | no => rw [q] at p; exact (ok.no p).elim
/-- the sources of a walk -/
theorem imp_src {β : Type} {k : IK} {src : List E} {oA : Nat → Option Addr} {ss : SS} {Pr : O β → Prop} {Kk : List R → List D → MH → O β} {R' : It → Hp → Prop} (ok : PrOk A W H Wx σ Pr) (hsrc : srcB k src = true) (w : WOkA A W h H) (s : SRel A.K W H oA ss σ)
    (p : Pr ((evL A.G src ss h).bind fun rs h => (O.of h (itemsR k rs)).bind (Kk rs)))
    (step : ∀ W1 H1 rs ds h1 J vs, Ext W H W1 H1 → WOkA A W1 h1 H1 → SRel A.K W1 H1 oA ss σ → Paired (RRel A.K W1 H H1) vs rs → (∀ P, Paired (SrcOk A P) vs rs → Wk A P ds J) → Pr (Kk rs ds h1) → R' J H1) : iK A Wx k src σ H R' := by
  have bad : ∀ {rs : List R} {h1 : MH}, itemsR k rs = none → Pr ((O.of h1 (itemsR k rs)).bind (Kk rs)) → False := fun e q => by rw [e] at q; exact ok.no q
  unfold iK
  split
  · -- a sequence
    rename_i e
    simp only [evL] at p
    rw [O.bind_assoc] at p
    simp only [O.bind_ok] at p
    refine tE_bindG ok w s p fun W1 H1 r1 h1 v x1 w1 s1 q1 p0 => ?_
    cases hi : r1.rd.seq with
    | none => exact (bad (rs := [r1]) (by simp [itemsR, hi]) p0).elim
    | some xs =>
      have hI : itemsR .seq [r1] = some xs := by simp [itemsR, hi]
      rw [hI] at p0
      obtain ⟨a, us, rfl, r, z⟩ := q1.rdSeq w1 hi
      refine ⟨a, rfl, ?_⟩
      rcases z with ⟨hd, z⟩ | ⟨hd, z⟩
      · obtain ⟨a', us', e1, e2, e3, e4⟩ := q1.rdLst w1 hd
        cases e1
        exact .inl ⟨⟨us', .inl e2⟩, step W1 H1 [r1] xs h1 _ [.ref a] x1 w1 s1 (.cons q1 .nil) (fun P so => by
          cases so with
          | cons so _ =>
            obtain ⟨p2, vs2, e5, e6⟩ := so.1 xs hd
            cases e5
            exact wk_listE e6) p0⟩
      · exact .inr ⟨⟨us, z⟩, step W1 H1 [r1] xs h1 _ [.ref a] x1 w1 s1 (.cons q1 .nil) (fun P so => by
          cases so with
          | cons so _ =>
            obtain ⟨p2, vs2, e5, e6⟩ := so.2 xs hd
            cases e5
            exact wk_tupE e6) p0⟩
  · -- range(n)
    refine tA_bindG ok w s p fun W1 H1 rs h1 vs eL x1 w1 s1 q1 p0 => ?_
    cases hi : itemsR .rng rs with
    | none => exact (bad hi p0).elim
    | some ds =>
      rw [hi] at p0
      have hl := evL_len eL
      unfold itemsR at hi
      split at hi
      · rename_i hk; cases hk
      · rename_i n _
        split at hi
        · rename_i hc
          cases hi
          have hc := of_decide_eq_true hc
          obtain ⟨v, rfl, qq⟩ := P1 (v := .non) q1
          cases qq
          have wk := fun P => wk_rng (A := A) (P := P) 0 n
          rw [Int.sub_zero] at wk
          exact ⟨n, rfl, hc.1, hc.2, step W1 H1 _ _ h1 _ _ x1 w1 s1 q1 (fun P _ => wk P) p0⟩
        · cases hi
      · simp at hl
      · rename_i hk; cases hk
      · rename_i hk; cases hk
      · rename_i hk; cases hk
      · cases hi
  · -- range(a, b)
    refine tA_bindG ok w s p fun W1 H1 rs h1 vs eL x1 w1 s1 q1 p0 => ?_
    cases hi : itemsR .rng rs with
    | none => exact (bad hi p0).elim
    | some ds =>
      rw [hi] at p0
      have hl := evL_len eL
      unfold itemsR at hi
      split at hi
      · rename_i hk; cases hk
      · simp at hl
      · rename_i a b _
        split at hi
        · rename_i hc
          cases hi
          have hc := of_decide_eq_true hc
          obtain ⟨v, v', rfl, q2, q3⟩ := P2 q1
          cases q2
          cases q3
          exact ⟨a, b, rfl, ⟨hc.1.1, hc.1.2, hc.2.1, hc.2.2⟩, step W1 H1 _ _ h1 _ _ x1 w1 s1 q1 (fun P _ => wk_rng a b) p0⟩
        · cases hi
      · rename_i hk; cases hk
      · rename_i hk; cases hk
      · rename_i hk; cases hk
      · cases hi
  · -- enumerate
    refine tA_bindG ok w s p fun W1 H1 rs h1 vs eL x1 w1 s1 q1 p0 => ?_
    cases hi : itemsR .enum rs with
    | none => exact (bad hi p0).elim
    | some ds =>
      rw [hi] at p0
      have hl := evL_len eL
      match rs, hl, hi, q1, p0 with
      | [r1], _, hi, q1, p0 =>
        obtain ⟨v, rfl, qq⟩ := P1 (v := .non) q1
        simp only [itemsR, Option.map_eq_some_iff] at hi
        obtain ⟨xs, hxs, rfl⟩ := hi
        obtain ⟨a, us, rfl, r, z⟩ := qq.rdSeq w1 hxs
        rcases z with ⟨hd, z⟩ | ⟨hd, z⟩
        · exact ⟨a, us, rfl, .inl ⟨.inl z, step W1 H1 _ _ h1 _ _ x1 w1 s1 q1 (fun P so => by
            cases so with
            | cons so _ =>
              obtain ⟨p2, vs2, e5, e6⟩ := so.1 xs hd
              cases e5
              exact wk_enumE e6) p0⟩⟩
        · exact ⟨a, us, rfl, .inr ⟨z, step W1 H1 _ _ h1 _ _ x1 w1 s1 q1 (fun P so => by
            cases so with
            | cons so _ =>
              obtain ⟨p2, vs2, e5, e6⟩ := so.2 xs hd
              cases e5
              exact wk_enumTE e6) p0⟩⟩
  · -- zip
    refine tA_bindG ok w s p fun W1 H1 rs h1 vs eL x1 w1 s1 q1 p0 => ?_
    cases hi : itemsR .zip rs with
    | none => exact (bad hi p0).elim
    | some ds =>
      rw [hi] at p0
      have hl := evL_len eL
      match rs, hl, hi, q1, p0 with
      | [r1, r2], _, hi, q1, p0 =>
        obtain ⟨v, v', rfl, q2, q3⟩ := P2 q1
        simp only [itemsR, Option.map_eq_some_iff, Option.bind_eq_some_iff] at hi
        obtain ⟨xs, hx, ys, hy, rfl⟩ := hi
        obtain ⟨a, us, rfl, z1⟩ := q2.sq w1 hx
        obtain ⟨a', us', rfl, z2⟩ := q3.sq w1 hy
        refine ⟨r1.isT, r2.isT, a, a', us, us', rfl, z1, z2, step W1 H1 _ _ h1 _ _ x1 w1 s1 q1 (fun P so => ?_) p0⟩
        cases so with
        | cons so so' =>
          cases so' with
          | cons so' _ =>
            obtain ⟨p2, vs2, e5, e6⟩ := so.sq hx
            obtain ⟨p3, vs3, e7, e8⟩ := so'.sq hy
            cases e5
            cases e7
            exact wk_zip2E e6 e8
  · -- zip of three
    refine tA_bindG ok w s p fun W1 H1 rs h1 vs eL x1 w1 s1 q1 p0 => ?_
    cases hi : itemsR .zip rs with
    | none => exact (bad hi p0).elim
    | some ds =>
      rw [hi] at p0
      have hl := evL_len eL
      match rs, hl, hi, q1, p0 with
      | [r1, r2, r3], _, hi, q1, p0 =>
        obtain ⟨v, v', v'', rfl, q2, q3, q4⟩ := P3 q1
        simp only [itemsR, Option.map_eq_some_iff, Option.bind_eq_some_iff] at hi
        obtain ⟨xs, hx, ys, hy, zs, hz, rfl⟩ := hi
        obtain ⟨a, us, rfl, z1⟩ := q2.sq w1 hx
        obtain ⟨a', us', rfl, z2⟩ := q3.sq w1 hy
        obtain ⟨a'', us'', rfl, z3⟩ := q4.sq w1 hz
        refine ⟨r1.isT, r2.isT, r3.isT, a, a', a'', us, us', us'', rfl, z1, z2, z3, step W1 H1 _ _ h1 _ _ x1 w1 s1 q1 (fun P so => ?_) p0⟩
        cases so with
        | cons so so' =>
          cases so' with
          | cons so' so'' =>
            cases so'' with
            | cons so'' _ =>
              obtain ⟨p2, vs2, e5, e6⟩ := so.sq hx
              obtain ⟨p3, vs3, e7, e8⟩ := so'.sq hy
              obtain ⟨p4, vs4, e9, e10⟩ := so''.sq hz
              cases e5
              cases e7
              cases e9
              exact wk_zip3E e6 e8 e10
  · -- nothing else
    rename_i n1 n2 n3 n4 n5 n6
    unfold srcB at hsrc
    split at hsrc
    · exact (n1 _ rfl rfl).elim
    · exact (n2 _ rfl rfl).elim
    · exact (n3 _ _ rfl rfl).elim
    · exact (n4 _ rfl rfl).elim
    · exact (n5 _ _ rfl rfl).elim
    · exact (n6 _ _ _ rfl rfl).elim
    · cases hsrc
/-! ### comprehensions -/
theorem wipe_wipe {σ : L2.St} : ∀ {vs us : List Nat}, (∀ j ∈ us, j ∈ vs) → wipe (wipe σ us) vs = wipe σ vs
  | vs, [], _ => rfl
  | vs, u :: us, h => by
    show wipe ((wipe σ us).set u none) vs = wipe σ vs
    rw [wipe_set (h u (by simp)), wipe_wipe fun j hj => h j (by simp [hj])]
def compF (G : Cfg) (t : Tg) (ss : SS) (ifs : List E) (e : E) : D → MH → O (Option D) := fun d h => match asgT t d ss with
  | none => .no
  | some ss1 => (evT G ifs ss1 h).bind fun b h => match b with
    | true => (evE G e ss1 h).bind fun r h => O.of h (r.toD.map some)
    | false => .ok none h
theorem evItems_no {f : D → MH → O (Option D)} {d : D} {ds acc : List D} {h : MH} (e : ∀ x h1, f d h ≠ .ok x h1) : evItems f (d :: ds) acc h = .no := by
  unfold evItems
  split
  · rename_i y h1 q; exact (e _ _ q).elim
  · rename_i h1 q; exact (e _ _ q).elim
  · rfl
theorem imp_comp {k : IK} {src : List E} {t : Tg} {own : List Nat} {ifs : List E} {e : E} {Q : VK} (hsrc : srcB k src = true) (hown : ∀ j ∈ t.js, j ∈ own) (z : tE A Wx (.comp k src t own ifs e) σ H Q) :
    tLc (iK A Wx k src) (gTg A.K t) (tTs A W0 ifs) (tE A W0 e) own σ H Q := by
  obtain ⟨W, h, oA, ss, w, s, p⟩ := z
  simp only [evE] at p
  refine imp_src (Kk := fun rs ds h => (evItems (compF A.G t (wipeS ss own) ifs e) ds [] h).bind fun xs h => O.ok (R.nl xs) h) PostR.prOk hsrc w s p fun W1 H1 rs ds h1 J vs x1 w1 s1 qs wk p0 => ?_
  intro Dd nD
  obtain ⟨G, Y, wlk, hG, hY⟩ := wk (Ext W1 H1) (srcExtL w1 qs)
  have x1n : ∀ a, H1 a = none → H a = none := fun a q => x1.new q
  refine lc_it wlk (fun i H' => ∃ W' h' acc us, Ext W1 H1 W' H' ∧ WOkA A W' h' H' ∧ H' Dd = some (.lst us) ∧ RepL A.K W' H' us acc ∧ ¬ W'.F Dd ∧ ¬ W'.fp Dd ∧
      PostR A W H Wx σ (TR A H Q) ((evItems (compF A.G t (wipeS ss own) ifs e) (ds.drop i) acc h').bind fun xs h => O.ok (R.nl xs) h)) ?_ ?_ ?_ ?_
  · refine ⟨W1, h1, [], [], Ext.laid nD, w1.laid nD, upd_same, .nil, fun z => w1.frz _ z nD, fun z => ?_, by simpa using p0⟩
    rcases w1.cov _ z with ⟨xs, q⟩ | ⟨C, dx, fs, q⟩ | ⟨φ, q⟩ <;> rw [nD] at q <;> cases q
  · intro i H' hi ⟨W', h', acc, us, x', w', _⟩
    exact hG W' H' x'
  · intro i x H' H'' hi ⟨W', h', acc, us, x', w', eD, rD, nF, nf, pp⟩ y
    obtain ⟨d, ed, rd, x2, w2⟩ := hY i H' x H'' W' h' hi x' w' y
    have eD2 : H'' Dd = some (.lst us) := x2.keep _ _ eD nf
    have dr : ds.drop i = d :: ds.drop (i + 1) := by
      obtain ⟨hlt, hget⟩ := List.getElem?_eq_some_iff.mp ed
      rw [List.drop_eq_getElem_cons hlt, hget]
    rw [dr] at pp
    have s2 : SRel A.K W' H'' oA (wipeS ss own) (wipe σ own) := ((s.ext w x1).ext w1 (x'.trans x2)).wiped own
    cases ea : asgT t d (wipeS ss own) with
    | none =>
      rw [evItems_no (by intro x h1 q; simp [compF, ea] at q)] at pp
      exact pp.elim
    | some ss1 =>
      refine tg_ok s2 rd ea fun σ' s' kp => ⟨?_, ?_⟩
      · rw [kp own hown, wipe_wipe fun _ hj => hj]
      · -- the test
        refine ⟨W', h', oA, ss1, w2, s', ?_⟩
        cases et : evT A.G ifs ss1 h' with
        | no =>
          rw [evItems_no (by intro x h1 q; simp [compF, ea, et] at q)] at pp
          exact pp
        | ex c h2 =>
          rw [evItems_no (by intro x h1 q; simp [compF, ea, et] at q)] at pp
          exact pp.elim
        | ok b h2 =>
          intro W3 H3 x3 w3
          have eD3 : H3 Dd = some (.lst us) := x3.keep _ _ eD2 nf
          have nDs : H'' Dd ≠ none := by rw [eD2]; exact Option.some_ne_none _
          have nF3 : ¬ W3.F Dd := fun z => (x3.fn _ z).elim nF nDs
          have nf3 : ¬ W3.fp Dd := fun z => (x3.fpn _ z).elim nf nDs
          have rD3 : RepL A.K W3 H3 us acc := (rD.ext w' x2).ext w2 x3
          have s3 : SRel A.K W3 H3 oA ss1 σ' := s'.ext w2 x3
          have x13 : Ext W1 H1 W3 H3 := (x'.trans x2).trans x3
          cases b with
          | false =>
            refine iteF ⟨W3, h2, acc, us, x13, w3, eD3, rD3, nF3, nf3, ?_⟩
            have ef : compF A.G t (wipeS ss own) ifs e d h' = .ok none h2 := by simp [compF, ea, et]
            unfold evItems at pp
            rw [ef] at pp
            exact pp
          | true =>
            refine iteT ⟨W3, h2, oA, ss1, w3, s3, ?_⟩
            have ef : compF A.G t (wipeS ss own) ifs e d h' = (evE A.G e ss1 h2).bind fun r h => O.of h (r.toD.map some) := by simp [compF, ea, et]
            cases ee : evE A.G e ss1 h2 with
            | no =>
              rw [evItems_no (by intro x h1 q; rw [ef, ee] at q; cases q)] at pp
              exact pp
            | ex c h3 =>
              rw [evItems_no (by intro x h1 q; rw [ef, ee] at q; cases q)] at pp
              exact pp.elim
            | ok r h3 =>
              intro W4 H4 x4 w4 v rr
              cases et : r.toD with
              | none =>
                rw [evItems_no (by intro x h1 q; rw [ef, ee] at q; simp [et] at q)] at pp
                exact pp.elim
              | some y =>
                have ef2 : compF A.G t (wipeS ss own) ifs e d h' = .ok (some y) h3 := by rw [ef, ee]; simp [et]
                unfold evItems at pp
                rw [ef2] at pp
                simp only at pp
                split at pp
                · rename_i hsm
                  have nD3 : H3 Dd ≠ none := by rw [eD3]; exact Option.some_ne_none _
                  have eD4 : H4 Dd = some (.lst us) := x4.keep _ _ eD3 nf3
                  have nF4 : ¬ W4.F Dd := fun z => (x4.fn _ z).elim nF3 nD3
                  have nf4 : ¬ W4.fp Dd := fun z => (x4.fpn _ z).elim nf3 nD3
                  have nF5 : ¬ (W4.fz H3 H4).F Dd := fun z => z.elim nF4 fun q => nD3 q.1
                  have w5 : WOkA A (W4.fz H3 H4) h3 H4 := fz_ok w4
                  have ry : Rep A.K (W4.fz H3 H4) H4 v y := rr.fz et
                  have rD5 : RepL A.K (W4.fz H3 H4) H4 us acc := (rD3.ext w3 x4).fz
                  refine ⟨us, eD4, by rw [rD5.length]; exact small_lt hsm, W4.fz H3 H4, h3, acc ++ [y], us ++ [v], ?_, w5.chg eD4 nF5 nf4, upd_same, ?_, nF5, nf4, pp⟩
                  · exact (x13.trans (fz_ext x4)).chg eD4 nD
                  · exact (rD5.append (.cons ry .nil)).chg eD4 nF5
                · exact pp.elim
  · intro H' ⟨W', h', acc, us, x', w', eD, rD, nF, nf, pp⟩
    rw [List.drop_length] at pp
    simp only [evItems, O.bind_ok] at pp
    exact pp W' H' (x1.trans x') w' (.ref Dd) ⟨Dd, us, rfl, x1n _ nD, eD, rD, nF, nf⟩
end
end GV
set_option Elab.async false
set_option linter.all false
set_option maxRecDepth 100000
set_option maxHeartbeats 4000000
/-! GJ1: dicts: keys, the operations. -/
namespace GV
open PySem PySem.Spec PyProof.Rows L2
/-! ### keys -/
mutual
theorem nk_depth : ∀ (n : Nat) (d : D), d.keyN n = true → d.nk.depth ≤ n
  | _, .non, _ => by simp [D.nk, NestedKey.depth]
  | _, .bl _, _ => by simp [D.nk, NestedKey.depth]
  | _, .int _, _ => by simp [D.nk, NestedKey.depth]
  | _, .str _, _ => by simp [D.nk, NestedKey.depth]
  | 0, .tup _, h => by simp [D.keyN] at h
  | n + 1, .tup xs, h => by
    simp only [D.nk, NestedKey.depth]
    have := nkL_depth n xs (by simpa [D.keyN] using h)
    omega
  | _, .lst _, h => by simp [D.keyN] at h
  | _, .obj _, h => by simp [D.keyN] at h
theorem nkL_depth : ∀ (n : Nat) (ds : List D), (∀ d ∈ ds, d.keyN n = true) → NestedKey.depthAll (D.nkL ds) ≤ n
  | _, [], _ => by simp [D.nkL, NestedKey.depthAll]
  | n, d :: ds, h => by
    simp only [D.nkL, NestedKey.depthAll]
    have h1 := nk_depth n d (h d (by simp))
    have h2 := nkL_depth n ds fun x hx => h x (by simp [hx])
    omega
end
mutual
theorem eqb_beq : ∀ (n m : Nat) (a b : D), a.keyN n = true → b.keyN m = true → D.eqb a b = NestedKey.beq a.nk b.nk
  | _, _, .non, .non, _, _ => rfl
  | _, _, .non, .bl _, _, _ => rfl
  | _, _, .non, .int _, _, _ => rfl
  | _, _, .non, .str _, _, _ => rfl
  | _, _, .non, .tup _, _, _ => rfl
  | _, _, .bl _, .non, _, _ => rfl
  | _, _, .bl x, .bl y, _, _ => by cases x <;> cases y <;> rfl
  | _, _, .bl x, .int j, _, _ => by cases x <;> rfl
  | _, _, .bl _, .str _, _, _ => rfl
  | _, _, .bl _, .tup _, _, _ => rfl
  | _, _, .int _, .non, _, _ => rfl
  | _, _, .int j, .bl x, _, _ => by cases x <;> rfl
  | _, _, .int i, .int j, _, _ => rfl
  | _, _, .int _, .str _, _, _ => rfl
  | _, _, .int _, .tup _, _, _ => rfl
  | _, _, .str _, .non, _, _ => rfl
  | _, _, .str _, .bl _, _, _ => rfl
  | _, _, .str _, .int _, _, _ => rfl
  | _, _, .str x, .str y, _, _ => by
    show (x == y) = decide (x = y)
    by_cases e : x = y
    · subst e; simp
    · simp [e]
  | _, _, .str _, .tup _, _, _ => rfl
  | _, _, .tup _, .non, _, _ => rfl
  | _, _, .tup _, .bl _, _, _ => rfl
  | _, _, .tup _, .int _, _, _ => rfl
  | _, _, .tup _, .str _, _, _ => rfl
  | n + 1, m + 1, .tup xs, .tup ys, ha, hb => by
    show D.eqbL xs ys = NestedKey.beqAll (D.nkL xs) (D.nkL ys)
    exact eqbL_beq n m xs ys (by simpa [D.keyN] using ha) (by simpa [D.keyN] using hb)
  | 0, _, .tup xs, .tup ys, ha, hb => by simp [D.keyN] at ha
  | _ + 1, 0, .tup xs, .tup ys, ha, hb => by simp [D.keyN] at hb
  | _, _, .lst _, _, ha, _ => by simp [D.keyN] at ha
  | _, _, .obj _, _, ha, _ => by simp [D.keyN] at ha
  | _, _, _, .lst _, _, hb => by simp [D.keyN] at hb
  | _, _, _, .obj _, _, hb => by simp [D.keyN] at hb
theorem eqbL_beq : ∀ (n m : Nat) (as bs : List D), (∀ d ∈ as, d.keyN n = true) → (∀ d ∈ bs, d.keyN m = true) → D.eqbL as bs = NestedKey.beqAll (D.nkL as) (D.nkL bs)
  | _, _, [], [], _, _ => rfl
  | _, _, [], _ :: _, _, _ => rfl
  | _, _, _ :: _, [], _, _ => rfl
  | n, m, a :: as, b :: bs, ha, hb => by
    show (D.eqb a b && D.eqbL as bs) = (NestedKey.beq a.nk b.nk && NestedKey.beqAll (D.nkL as) (D.nkL bs))
    rw [eqb_beq n m a b (ha a (by simp)) (hb b (by simp)), eqbL_beq n m as bs (fun d hd => ha d (by simp [hd])) fun d hd => hb d (by simp [hd])]
end
theorem keyB_N {d : D} (h : d.keyB = true) : d.keyN 8 = true := by
  unfold D.keyB at h
  split at h
  · exact h
  · cases h
theorem eqb_nk {a b : D} (ha : a.keyB = true) (hb : b.keyB = true) : D.eqb a b = decide (a.nk = b.nk) := by
  rw [eqb_beq 8 8 a b (keyB_N ha) (keyB_N hb), NestedKey.decide_eq]
section
variable {X : Cx} {pins : List (Addr × Obj)} {σ : L2.St} {H : Hp} {s : Shared} {W : Wd}
mutual
theorem Rep.nest (I : Inv X pins σ H s) : ∀ {v : V} {d : D} {n : Nat} {u : Value}, Rep X.K W H v d → d.keyN n = true → RelV v u → NestedIs s.heap d.nk u
  | _, _, _, _, .non, _, r => by
    cases r
    rw [D.nk]
    exact .none
  | _, _, _, _, .bl b, _, r => by
    cases r
    rw [D.nk]
    exact .bool rfl
  | _, _, _, _, .int i, _, r => by
    obtain ⟨t, rfl⟩ := r
    rw [D.nk]
    exact .int _ _
  | _, _, _, _, .str x, _, r => by
    obtain ⟨t, rfl⟩ := r
    rw [D.nk]
    exact .text _ _
  | _, _, 0, _, .tup _ _, h, _ => by simp [D.keyN] at h
  | _, _, n + 1, _, .tup q rl, h, r => by
    cases r
    obtain ⟨its, rv, ⟨o, ho, hc, m, hd⟩, hz⟩ := I.tuple q
    rw [D.nk]
    exact .tup ho hc hd (by simpa using RepL.nest I (n := n) rl (by simpa [D.keyN] using h) rv)
  | _, _, _, _, .lst _ _ _, h, _ => by simp [D.keyN] at h
  | _, _, _, _, .obj _, h, _ => by simp [D.keyN] at h
theorem RepL.nest (I : Inv X pins σ H s) : ∀ {vs : List V} {ds : List D} {n : Nat} {us : List Value}, RepL X.K W H vs ds → (∀ d ∈ ds, d.keyN n = true) → Vals vs us → NestedAll s.heap (D.nkL ds) us
  | _, _, _, _, .nil, _, .nil => by rw [D.nkL]; exact .nil
  | _, _, n, _, .cons a b, h, .cons r rs => by
    rw [D.nkL]
    exact .cons (Rep.nest I a (h _ (by simp)) r) (RepL.nest I (n := n) b (fun d hd => h d (by simp [hd])) rs)
end
theorem key_is {b : Addr} {d : D} (I : Inv X pins σ H s) (r : Rep X.K W H (.ref b) d) (h : d.keyB = true) : (nestedKind X.prog X.w).is s.heap d.nk b :=
  ⟨Rep.nest I r (keyB_N h) rfl, nk_depth 8 d (keyB_N h)⟩
theorem key_ref {v : V} {d : D} (r : Rep X.K W H v d) (h : d.keyB = true) : ∃ b, v = .ref b := by
  unfold D.keyB at h
  split at h
  · cases r with
    | tup _ _ => exact ⟨_, rfl⟩
  · cases h
theorem dic_of {w : World} {a : Addr} {o : Obj} {xs : List (NestedKey × Addr × Value)} {kvs : List (D × D)} (I : Inv X pins σ H s) (hw : X.w = w) (e : H a = some (DicO w a o xs)) (r : Paired (DP X.K W H) kvs xs) :
    s.heap.get? a = some o ∧ (a == sysModules) = false ∧ xs.length ≤ sizeLine ∧ s.heap.DictOfH (nestedKind X.prog X.w) a xs := by
  subst hw
  obtain ⟨⟨h1, h2, h3, h4, es, ep, h5, h6, h7⟩, hrest⟩ := (show ObjOk X.prog X.w H s.heap a (DicO X.w a o xs) from I.hok a _ e)
  refine ⟨h1, h2, h4, o, es, ep, h1, h3, h5, h6, ?_, h7⟩
  clear e h6 h7 h4 hrest
  induction r with
  | nil => intro x hx; cases hx
  | @cons p x ps xs hq _ ih =>
    intro y hy
    rcases List.mem_cons.mp hy with z | z
    · subst z
      obtain ⟨q1, q2, q3, _⟩ := hq
      rw [q1]
      exact key_is I q3 q2
    · exact ih y z
theorem dget_rel {K : PySem.W.Frag} {kvs : List (D × D)} {xs : List (NestedKey × Addr × Value)} {k : D} (hk : k.keyB = true) (r : Paired (DP K W H) kvs xs) :
    (∀ d, dget kvs k = some d → ∃ p, atKey xs k.nk = some p ∧ ∃ v, RelV v p.2 ∧ Rep K W H v d) ∧ (dget kvs k).isSome = (atKey xs k.nk).isSome := by
  induction r with
  | nil => exact ⟨fun d h => (by cases h), rfl⟩
  | @cons p x ps xs hq _ ih =>
    obtain ⟨q1, q2, q3, v, q4, q5⟩ := hq
    have e := eqb_nk q2 hk
    by_cases z : x.1 = k.nk
    · have z' : D.eqb p.1 k = true := by rw [e, ← q1]; exact decide_eq_true z
      have a1 : atKey (x :: xs) k.nk = some x.2 := by simp [atKey, List.find?_cons, z]
      have a2 : dget (p :: ps) k = some p.2 := by simp [dget, List.find?_cons, z']
      rw [a1, a2]
      exact ⟨fun d h => (by cases h; exact ⟨_, rfl, v, q4, q5⟩), rfl⟩
    · have z' : D.eqb p.1 k = false := by rw [e, ← q1]; exact decide_eq_false z
      have a1 : atKey (x :: xs) k.nk = atKey xs k.nk := by simp [atKey, List.find?_cons, z]
      have a2 : dget (p :: ps) k = dget ps k := by simp [dget, List.find?_cons, z']
      rw [a1, a2]
      exact ih
theorem dany_rel {K : PySem.W.Frag} {kvs : List (D × D)} {xs : List (NestedKey × Addr × Value)} {k : D} (hk : k.keyB = true) (r : Paired (DP K W H) kvs xs) : (kvs.any fun p => D.eqb p.1 k) = (atKey xs k.nk).isSome := by
  rw [← (dget_rel hk r).2]
  clear r
  induction kvs with
  | nil => rfl
  | cons p ps ih =>
    rw [List.any_cons]
    cases z : D.eqb p.1 k with
    | true => simp [dget, List.find?_cons, z]
    | false =>
      rw [Bool.false_or, ih]
      simp [dget, List.find?_cons, z]
theorem dput_rel {K : PySem.W.Frag} {kvs : List (D × D)} {xs : List (NestedKey × Addr × Value)} {k d : D} {b : Addr} {v : V} {u : Value} (hk : k.keyB = true) (hb : Rep K W H (.ref b) k) (hv : Rep K W H v d) (ru : RelV v u) (r : Paired (DP K W H) kvs xs) :
    Paired (DP K W H) (dput kvs k d) (storedH xs k.nk b u) := by
  unfold dput storedH
  rw [dany_rel hk r]
  split
  · clear hb
    rename_i hs
    clear hs
    induction r with
    | nil => exact .nil
    | @cons p x ps xs hq _ ih =>
      rw [List.map_cons, List.map_cons]
      refine .cons ?_ ih
      obtain ⟨q1, q2, q3, q4⟩ := hq
      have e := eqb_nk q2 hk
      by_cases z : x.1 = k.nk
      · have z' : D.eqb p.1 k = true := by rw [e, ← q1]; exact decide_eq_true z
        rw [if_pos z']
        unfold putAt
        rw [if_pos z]
        exact ⟨q1, q2, q3, v, ru, hv⟩
      · have z' : ¬ D.eqb p.1 k = true := by rw [e, ← q1]; simpa using z
        rw [if_neg z']
        unfold putAt
        rw [if_neg z]
        exact ⟨q1, q2, q3, q4⟩
  · have : ∀ {kvs : List (D × D)} {xs : List (NestedKey × Addr × Value)}, Paired (DP K W H) kvs xs → Paired (DP K W H) (kvs ++ [(k, d)]) (xs ++ [(k.nk, b, u)]) := by
      intro kvs xs r
      induction r with
      | nil => exact .cons ⟨rfl, hk, hb, v, ru, hv⟩ .nil
      | cons a _ ih => exact .cons a ih
    exact this r
end
/-! ### d[k], k in d -/
section
variable {X : Cx}
/-- what is known of a dict -/
def IsDic (K : PySem.W.Frag) (w : World) (H : Hp) (a : Addr) (W : Wd) (kvs : List (D × D)) : Prop := ∃ o xs, H a = some (DicO w a o xs) ∧ Paired (DP K W H) kvs xs
def rDix (K : PySem.W.Frag) (w : World) : R2 := fun x y H Q => ∃ a W kvs k d, x = .ref a ∧ IsDic K w H a W kvs ∧ Rep K W H y k ∧ k.keyB = true ∧ dget kvs k = some d ∧ ∀ v, Rep K W H v d → Q v H
theorem room8 {A : Around} {w : World} {P : Program} (hu : A.units + 65 < cLine) : (nestedKind P w).room A.in1 := by
  show A.units + 1 + 8 < cLine
  omega
theorem ix_dic (hu : X.A.units + 65 < cLine) : IxR X (rDix X.K X.w) := by
  intro value slice pins s σ H x y v u Q I rx ry h hs
  obtain ⟨a, W, kvs, k, d, rfl, ⟨o, xs, e, r⟩, hy, hk, hg, q⟩ := h
  cases rx
  obtain ⟨b, rfl⟩ := key_ref hy hk
  cases ry
  obtain ⟨h1, h2, h3, dd⟩ := dic_of I rfl e r
  obtain ⟨p, hp, v, rv, rd⟩ := (dget_rel hk r).1 d hg
  exact tail_any dd.typeIs PySem.F.slot_dict_getitem.lookup (wpAny_getItem_heap (room8 hu) (key_is I hy hk) dd hp ⟨v, H, I.tok _, rv, q v rd⟩) hs
def rDin (K : PySem.W.Frag) (w : World) (b : Bool) : R2 := fun y x H Q => ∃ a W kvs k, x = .ref a ∧ IsDic K w H a W kvs ∧ Rep K W H y k ∧ k.keyB = true ∧ Q (.bl ((dget kvs k).isSome == b)) H
theorem op_din (hu : X.A.units + 65 < cLine) : OpR X (compareOp .In) (rDin X.K X.w true) := by
  intro pins s σ H y x u v Q I ry rx h
  obtain ⟨a, W, kvs, k, rfl, ⟨o, xs, e, r⟩, hy, hk, q⟩ := h
  cases rx
  obtain ⟨b, rfl⟩ := key_ref hy hk
  cases ry
  obtain ⟨h1, h2, h3, dd⟩ := dic_of I rfl e r
  refine wpAny_in_heap (room8 hu) (key_is I hy hk) h2 dd ⟨.bl ((dget kvs k).isSome == true), H, I.tok _, ?_, q⟩
  rw [(dget_rel hk r).2]
  simp [L2.RelV]
theorem op_dnin (hu : X.A.units + 65 < cLine) : OpR X (compareOp .NotIn) (rDin X.K X.w false) := by
  intro pins s σ H y x u v Q I ry rx h
  obtain ⟨a, W, kvs, k, rfl, ⟨o, xs, e, r⟩, hy, hk, q⟩ := h
  cases rx
  obtain ⟨b, rfl⟩ := key_ref hy hk
  cases ry
  obtain ⟨h1, h2, h3, dd⟩ := dic_of I rfl e r
  refine wpAny_notIn_heap (room8 hu) (key_is I hy hk) h2 dd ⟨.bl ((dget kvs k).isSome == false), H, I.tok _, ?_, q⟩
  rw [(dget_rel hk r).2]
  simp [L2.RelV]
/-! ### {}, {k: v} -/
def tDct0 (w : World) : TE := fun _ H Q => ∀ p o, H p = none → Q (.ref p) (upd H p (DicO w p o []))
theorem dic_ok {P : Program} {w : World} {H : Hp} {h : Heap} {a : Addr} {o : Obj} {xs : List (NestedKey × Addr × Value)} (e : h.get? a = some o) (z : DicP w a o xs) : ObjOk P w H h a (DicO w a o xs) :=
  ⟨⟨e, z⟩, ⟨o, e⟩, fun h1 h2 q k => ⟨k o q.1, q.2⟩⟩
theorem dic_empty {w : World} {h : Heap} (hb : sysModules < h.objs.size) : DicP w h.objs.size { cls := .type "dict", data := .dict #[] } [] :=
  ⟨beq_eq_false_iff_ne.mpr (Ne.symm (Nat.ne_of_lt hb)), ⟨rfl, rfl, rfl⟩, Nat.zero_le _, #[], 0, rfl, rfl, List.nodup_nil⟩
theorem pe_dct0 {pos : Pos} : PE X (.Dict [] [] pos) (tDct0 X.w) := ⟨fun pins s σ H Q I h =>
  wpAny_Dict_empty ⟨.ref s.heap.objs.size, _, I.laid (a := s.heap.objs.size) (o := DicO X.w s.heap.objs.size _ []) (t' := s.toks) (fun _ _ q => Heap.get?_push_of_some _ q) (Nat.le_refl _) (dic_ok (Heap.get?_push_size _ rfl) (dic_empty I.big)), rfl, h _ _ (I.hok.fresh (Nat.le_refl _))⟩⟩
def tDct1 (K : PySem.W.Frag) (w : World) (tk tv : TE) : TE := fun σ H Q => ∀ p o, H p = none → tk σ (upd H p (DicO w p o [])) fun x H1 => tv σ H1 fun y H2 => H2 p = some (DicO w p o []) ∧
  ∃ W k d, Rep K W H2 x k ∧ k.keyB = true ∧ Rep K W H2 y d ∧ ∀ o' xs, Paired (DP K W H2) [(k, d)] xs → Q (.ref p) (upd H2 p (DicO w p o' xs))
theorem dic_from {P : Program} {w : World} {a : Addr} {h : Heap} {xs : List (NestedKey × Addr × Value)} (hs : (a == sysModules) = false) (hl : xs.length ≤ sizeLine) (dd : h.DictOfH (nestedKind P w) a xs) : ∃ o, h.get? a = some o ∧ DicP w a o xs := by
  obtain ⟨o, es, ep, h1, h2, h3, h4, h5, h6⟩ := dd
  exact ⟨o, h1, hs, h2, hl, es, ep, h3, h4, h6⟩
theorem dict_pairsH {prog : Program} {w : World} {A : Around} {E : Value → Shared → Prop} {s : Shared} {knd : HeapKind prog w NestedKey} {env : Env} {keys : List (Option Expr)} {values : List Expr} {pos : Pos} {pairs : List (Sem Value × Sem Value)} {Q : Value → Shared → Prop} (hu : knd.room A)
    (hshape : (evalEachOpt keys env).zip ((evalEach values env).map fun v => do let x ← v; standAt pos; pure x) = pairs.map fun p => (some p.1, p.2)) (h0 : pairs ≠ []) (hlen : pairs.length ≤ 15)
    (h : wpAny (model prog w) A (evalPairs pairs) (fun vs s₁ => ∃ ps, CarriesH knd s₁.heap vs ps ∧ s₁.heap.DictOfH knd s.heap.objs.size [] ∧
      ∀ h' tk, h'.DictOfH knd s.heap.objs.size (storedAllH [] ps) → Heap.SameBut s.heap.objs.size s₁.heap h' → Q (.ref s.heap.objs.size) { s₁ with heap := h', toks := tk }) E
      { s with heap := s.heap.push { cls := .type "dict", data := .dict #[] } }) :
    wpAny (model prog w) A (eval (.Dict keys values pos) env) Q E s := by
  rw [arm_eval_Dict, hshape, dictDisplay_pairs pairs h0 (by omega)]
  exact wpAny_bind (wpAny_standAt (wpAny_bind (wpAny_subDictH (knd := knd) (Q := fun d s' => wpAny (model prog w) A (pure (Value.ref d)) Q E s') hu hlen
    (wpAny_mono h (fun vs s₁ h₁ => by obtain ⟨ps, hc, hm, hq⟩ := h₁; exact ⟨ps, hc, hm, fun h' tk a b => wpAny_pure (hq h' tk a b)⟩) fun _ _ e => e))))
theorem trees1 {ke ve : Expr} {env : Env} {pos : Pos} : pairTrees [some ke] [ve] env pos = (eval ke env, do let x ← eval ve env; standAt pos; pure x) :: pairTrees [] [] env pos := by
  rw [pairTrees]
theorem trees1_len {ke ve : Expr} {env : Env} {pos : Pos} : (pairTrees [some ke] [ve] env pos).length = 1 := pairTrees_length [some ke] [ve] env pos rfl rfl
theorem pe_dct1 {pos : Pos} {ke ve : Expr} {tk tv : TE} (hu : X.A.units + 65 < cLine) (hk : PE X ke tk) (hv : PE X ve tv) : PE X (.Dict [some ke] [ve] pos) (tDct1 X.K X.w tk tv) := by
  refine ⟨fun pins s σ H Q I h => ?_⟩
  have hn := I.hok.fresh (Nat.le_refl s.heap.objs.size)
  have I1 : Inv X pins σ (upd H s.heap.objs.size (DicO X.w s.heap.objs.size { cls := .type "dict", data := .dict #[] } [])) { s with heap := s.heap.push { cls := .type "dict", data := .dict #[] } } :=
    I.laid (a := s.heap.objs.size) (o := DicO X.w s.heap.objs.size { cls := .type "dict", data := .dict #[] } []) (h' := s.heap.push { cls := .type "dict", data := .dict #[] }) (t' := s.toks) (fun _ _ q => Heap.get?_push_of_some _ q) (Nat.le_refl _) (dic_ok (Heap.get?_push_size _ rfl) (dic_empty I.big))
  have hne : pairTrees [some ke] [ve] X.env pos ≠ [] := by rw [trees1]; exact List.cons_ne_nil _ _
  have hln : (pairTrees [some ke] [ve] X.env pos).length ≤ 15 := by rw [trees1_len]; decide
  have hroom : (nestedKind X.prog X.w).room X.A := by
    show X.A.units + 8 < cLine
    omega
  refine dict_pairsH (knd := nestedKind X.prog X.w) (pairs := pairTrees [some ke] [ve] X.env pos) hroom (zip_pairTrees [some ke] [ve] X.env pos rfl rfl) hne hln ?_
  refine pairTrees_cons_walk (thn (hk.run pins _ σ _ _ I1 (h _ _ hn)) fun u s1 ⟨x, H1, I2, rx, q1⟩ => thn (hv.run pins s1 σ H1 _ I2 q1) fun u2 s2 ⟨y, H2, I3, ry, e, W, k, d, rk, kb, rd, q2⟩ => ?_)
  obtain ⟨b, rfl⟩ := key_ref rk kb
  cases rx
  have hsm : (s.heap.objs.size == sysModules) = false := beq_eq_false_iff_ne.mpr (Ne.symm (Nat.ne_of_lt I.big))
  refine pairTrees_nil_walk ⟨[(k.nk, b, u2)], ⟨rfl, rfl, key_is I3 rk kb, trivial⟩, (dic_of (kvs := []) (W := W) I3 rfl e .nil).2.2.2, fun h' tk' dd hs => ?_⟩
  have dd' : h'.DictOfH (nestedKind X.prog X.w) s.heap.objs.size [(k.nk, b, u2)] := dd
  have hz1 : ([(k.nk, b, u2)] : List (NestedKey × Addr × Value)).length ≤ sizeLine := by rw [sizeLine_eq]; simp
  obtain ⟨o', ho', z⟩ := dic_from hsm hz1 dd'
  refine ⟨.ref s.heap.objs.size, upd H2 s.heap.objs.size (DicO X.w s.heap.objs.size o' [(k.nk, b, u2)]), ?_, rfl, q2 o' _ (.cons ⟨rfl, kb, rk, y, ry, rd⟩ .nil)⟩
  exact d_write I3 (by rw [e]; exact True.intro) hs ⟨o', ho'⟩ (dic_ok ho' z)
end
end GV
set_option Elab.async false
set_option linter.all false
set_option maxRecDepth 100000
set_option maxHeartbeats 4000000
/-! GJ1b: dicts: d[k] = v, for k in d, sorted(d). -/
namespace GV
open PySem PySem.Spec PySem.W PyProof.Rows L2
section
variable {X : Cx}
def sDset (K : PySem.W.Frag) (w : World) (td ty tv : TE) : TS := fun Dn σ H => tv σ H fun v H1 => td σ H1 fun x H2 => ty σ H2 fun y H3 => ∃ a W kvs k d, x = .ref a ∧ IsDic K w H3 a W kvs ∧ kvs.length < sizeLine ∧ GV.Rep K W H3 y k ∧ k.keyB = true ∧ GV.Rep K W H3 v d ∧
  ∀ o' xs', Paired (DP K W H3) (dput kvs k d) xs' → Dn.nx σ (upd H3 a (DicO w a o' xs'))
theorem dput_len {kvs : List (D × D)} {k d : D} : (dput kvs k d).length ≤ kvs.length + 1 := by
  unfold dput
  split <;> simp
theorem ps_dset {o i value : Expr} {pos pos' : Pos} {td ty tv : TE} (hu : X.A.units + 65 < cLine) (ho : PE X o td) (hi : PE X i ty) (hv : PE X value tv) (hs : swapsWith value (some (.Subscript o i pos')) pos.line X.env = pure false) :
    PS X (.Assign [.Subscript o i pos'] value pos) (sDset X.K X.w td ty tv) := by
  refine ⟨fun pins s σ H Dn I h => ?_⟩
  refine wpAny_Assign_Subscript (thn (hv.run pins s σ H _ I h) fun r s1 ⟨v, H1, I1, rv, q1⟩ => thn (ho.run pins s1 σ H1 _ I1 q1) fun u s2 ⟨x, H2, I2, rx, q2⟩ => thn (hi.run pins s2 σ H2 _ I2 q2) fun iv s3 ⟨y, H3, I3, ry, a, W, kvs, k, d, ex, ⟨o, xs, e, r'⟩, hl, hy, hk, hd, q3⟩ => ?_) hs
  subst ex
  cases rx
  obtain ⟨b, rfl⟩ := key_ref hy hk
  cases ry
  obtain ⟨h1, h2, h3, dd⟩ := dic_of I3 rfl e r'
  refine wpAny_setItem_heap (hsz := h3) (room8 hu) (key_is I3 hy hk) dd fun h' dd' hs' => ?_
  have rel := dput_rel hk hy hd rv r'
  have hl2 : (storedH xs k.nk b r).length ≤ sizeLine := by
    have := Paired.length rel
    have := dput_len (kvs := kvs) (k := k) (d := d)
    omega
  obtain ⟨o', ho', z⟩ := dic_from h2 hl2 dd'
  exact ⟨σ, upd H3 a (DicO X.w a o' (storedH xs k.nk b r)), d_write I3 (by rw [e]; exact True.intro) hs' ⟨o', ho'⟩ (dic_ok ho' z), q3 o' _ rel⟩
/-! ### for k in d -/
def ItD (w : World) (d : Addr) (o : Obj) (xs : List (NestedKey × Addr × Value)) : It :=
  ⟨fun i H => H d = some (DicO w d o xs) ∧ i < xs.length, fun i H x H' => H' = H ∧ ∃ y, xs[i]? = some y ∧ x = .ref y.2.1, fun i H => H d = some (DicO w d o xs) ∧ xs.length ≤ i⟩
theorem dic_raw {pins : List (Addr × Obj)} {σ : L2.St} {H : Hp} {s : Shared} {w : World} {d : Addr} {o : Obj} {xs : List (NestedKey × Addr × Value)} (I : Inv X pins σ H s) (h : H d = some (DicO w d o xs)) :
    (d == sysModules) = false ∧ s.heap.get? d = some o ∧ o.ExactDict ∧ xs.length ≤ sizeLine ∧ ∃ (es : Array DictEntry) (ep : Nat), o.data = .dict es ep ∧ es.size = xs.length ∧ ∀ (i : Nat) (y : NestedKey × Addr × Value), xs[i]? = some y → ∃ en : DictEntry, es[i]? = some en ∧ en.key = .ref y.2.1 := by
  obtain ⟨⟨h1, h2, h3, h4, es, ep, h5, h6, h7⟩, _⟩ := (show ObjOk X.prog X.w H s.heap d (DicO w d o xs) from I.hok d _ h)
  refine ⟨h2, h1, h3, h4, es, ep, h5, ?_, fun i y e => ?_⟩
  · rw [← Array.length_toList, h6, List.length_map]
  · refine ⟨dEnt w y, ?_, rfl⟩
    rw [← Array.getElem?_toList, h6, List.getElem?_map, e]
    rfl
theorem turn_dic {P : Program} {w : World} {K : PySem.W.Frag} {tg : Expr} {d : Addr} {o : Obj} {es : Array DictEntry} {ep : Nat} {xs : List (NestedKey × Addr × Value)} (it : Addr) (hod : o.data = .dict es ep) : Turn P w K tg (ItD w d o xs) [it] it (fun i h => h.IsKeyIter it d i xs.length ep) where
  mem := by simp
  obj := fun i h st b hb => by
    have e : b = it := by simpa using hb
    subst e
    obtain ⟨oi, e, c, dd⟩ := st
    exact ⟨oi, e, fun v z => by rw [dd] at z; cases z⟩
  keep := fun i h h' st k => st.at fun oi e => k it (by simp) oi e
  item := by
    intro X hP hw hK hc i pins s σ H E I hf st hg
    subst hP hw hK
    obtain ⟨hd, hi⟩ := hg
    obtain ⟨f0, f1, f2, f3, f4, f5⟩ := hf it (by simp)
    obtain ⟨hs, hgd, hx, hz, es', ep', hdt, hsz, ent⟩ := dic_raw I hd
    obtain ⟨rfl, rfl⟩ := dict_ep hod hdt
    obtain ⟨y, hy⟩ : ∃ y, xs[i]? = some y := ⟨xs[i], List.getElem?_eq_getElem hi⟩
    obtain ⟨en, hen, hkey⟩ := ent i y hy
    refine next_key_item st hgd hdt hsz hen fun h' st' sb => ?_
    have I1 : Inv X pins σ H { s with heap := h' } := I.turned (t' := s.toks) (fun b ob hb e => (sb.2 b hb).trans e) f0 f1 f3 f4 f5
    obtain ⟨oi, e, c, dd⟩ := id st'
    exact ⟨en.key, rfl, go_of (s := { s with heap := h' }) e c dd (by decide) ⟨.ref y.2.1, H, I1, hkey, ⟨rfl, y, hy, rfl⟩, st', fun b hb => (hf b hb).1⟩⟩
  done := by
    intro X hP hw hK hc i pins s σ H E I hf st hg
    subst hP hw hK
    obtain ⟨hd, hi⟩ := hg
    obtain ⟨f0, f1, f2, f3, f4, f5⟩ := hf it (by simp)
    obtain ⟨hs, hgd, hx, hz, es', ep', hdt, hsz, ent⟩ := dic_raw I hd
    obtain ⟨rfl, rfl⟩ := dict_ep hod hdt
    exact next_key_end (I.ok.hd hc) st hgd hdt hsz hi fun h' eb => ⟨rfl, I.turned (t' := s.toks) (fun b ob hb e => eb b ob hb e) f0 f1 f3 f4 f5⟩
  self := fun A i s Q E st h => by
    refine wpAny_pyIter_slot st.typeIs F.slot_dict_keyiterator_iter (wpAny_call_entry F.slot_dict_keyiterator_iter st.typeIs F.entry_dict_keyiterator_iter ?_ (F.args_dict_keyiterator_iter_1 _))
    show wpAny _ _ (ret (.ref it)) _ _ s
    exact wpAny_pure ⟨_, rfl, "dict_keyiterator", _, st.typeIs, F.slot_dict_keyiterator_next.lookup, h⟩
def iDic (w : World) (td : TE) : TI := fun σ H R => td σ H fun x H1 => ∃ d o xs, x = .ref d ∧ H1 d = some (DicO w d o xs) ∧ R (ItD w d o xs) H1
theorem pi_dic {tg e : Expr} {td : TE} (he : PE X e td) : PI X tg e (iDic X.w td) := by
  refine ⟨fun pins s σ H R I h => ?_⟩
  refine thn (he.run pins s σ H _ I h) fun u s1 ⟨x, H1, I1, rx, d, o, xs, ex, hd, q⟩ => ?_
  subst ex
  obtain rfl : u = Value.ref d := rx
  obtain ⟨hs, hgd, hx, hz, es, ep, hdt, hsz, ent⟩ := dic_raw I1 hd
  refine iter_keys hs hgd hx hdt (pi_one (tk := s1.toks) I1 _ (turn_dic _ hdt) ⟨_, Heap.get?_push_size _ rfl, rfl, ?_⟩ q)
  rw [hsz] <;> rfl
/-! ### sorted(d) -/
theorem collect_src {prog : Program} {w : World} {A : Around} {E : Value → Shared → Prop} {s : Shared} {T : String} {r d : Addr} {n : Nat} {P : Nat → Value → Prop} {OK : Heap → Prop} {R : List Value → Shared → Prop} (K : KdlSrc prog w T r d n P OK) (hh : A.handled = none) (hok : OK s.heap) (hn : n ≤ sizeLine)
    (h : ∀ (h' : Heap) (tk : Nat) (acc : Array Value), (∀ b o, s.heap.get? b = some o → h'.get? b = some o) → s.heap.objs.size < h'.objs.size → ItemsOf P acc n → R acc.toList { s with heap := h', toks := tk }) :
    wpAny (model prog w) A (collect (.ref r)) R E s := by
  have hlt := K.there _ hok
  unfold collect
  refine wpAny_bind (wpAny_runValue (codeAny_builtin entry_proto_collect' ?_))
  rw [Around.under_plainId PySem.F.plain_proto_collect _]
  show wpAny _ A.in1 (newList [] >>= fun l => again (.builtin "list.__iadd__" ⟨[l, .ref r], []⟩)) _ _ s
  refine wpAny_bind (wpAny_newObj_type ?_)
  refine wpAny_pure ⟨plainId_quiet PySem.F.plain_list_iadd _, codeAny_builtin entry_list_iadd' ?_⟩
  rw [Around.under_plainId PySem.F.plain_list_iadd _]
  have hS₁ : (s.heap.push { cls := .type "list", data := .seq ([] : List Value).toArray }).get? s.heap.objs.size = some { cls := .type "list", data := .seq #[] } := Heap.get?_push_size _ rfl
  show wpAny _ A.in1 (Builtin.List.listExtendWith (.ref s.heap.objs.size) (.ref r) (.ref s.heap.objs.size)) _ _ _
  have key := kdl_extend (A := A) (s := { s with heap := s.heap.push { cls := .type "list", data := .seq ([] : List Value).toArray } })
    (R := fun (q : Result) (s' : Shared) => ∃ (h' : Heap) (tk : Nat) (acc' : Array Value) (c' : Nat), q = .ok (.ret (.ref s.heap.objs.size)) ∧ s' = { s with heap := h', toks := tk } ∧
      (∀ b o, s.heap.get? b = some o → h'.get? b = some o) ∧ h'.get? s.heap.objs.size = some { cls := .type "list", dict := none, data := .seq acc' c', slots := #[] } ∧ ItemsOf P acc' n)
    K hh (K.keep _ _ hok fun b _ o e => Heap.get?_push_of_some _ e) s.heap.objs.size (Nat.ne_of_gt hlt.1) (Nat.ne_of_gt hlt.2) (.ref s.heap.objs.size) 0 hS₁
    (fun h' tk acc' c' hk hS' hacc => ⟨h', tk, acc', c', rfl, rfl, fun b o e => hk b o (Nat.ne_of_lt (Heap.lt_size e)) (Heap.get?_push_of_some _ e), hS', hacc⟩) hn
  refine wpAny_mono key (fun fin s' x => ?_) fun e s' x => ?_
  · cases fin with
    | done f =>
      obtain ⟨h', tk, acc', c', e, rfl, hk, hS', hacc⟩ := x
      cases e
      show wpAny _ A (load s.heap.objs.size >>= _) _ _ _
      refine wpAny_bind (wpAny_load hS' ?_)
      exact wpAny_pure (h h' tk acc' hk (Heap.lt_size hS') hacc)
    | again c₁ =>
      refine ⟨x.1, codeAny_mono x.2 fun q s₂ y => ?_⟩
      obtain ⟨h', tk, acc', c', rfl, rfl, hk, hS', hacc⟩ := y
      show wpAny _ A (load s.heap.objs.size >>= _) _ _ _
      refine wpAny_bind (wpAny_load hS' ?_)
      exact wpAny_pure (h h' tk acc' hk (Heap.lt_size hS') hacc)
  · obtain ⟨_, _, _, _, e', _⟩ := x
    cases e'
theorem sorted_of_dic {prog : Program} {w : World} {A : Around} {E : Value → Shared → Prop} {s : Shared} {d : Addr} {es : Array DictEntry} {ep : Nat} {Q : Value → Shared → Prop} (hh : A.handled = none) (lo : (d == sysModules) = false) (hm : s.heap.DictRaw d es ep) (hn : es.size ≤ sizeLine)
    (body : ∀ (h' : Heap) (tk : Nat) (vs : List Value) (E' : Value → Shared → Prop), (∀ b o, s.heap.get? b = some o → h'.get? b = some o) → s.heap.objs.size ≤ h'.objs.size → vs.length = es.size → (∀ (j : Nat) (v : Value), vs[j]? = some v → ∃ hi : j < es.size, v = es[j].key) →
      wpAny (model prog w) A.in1.in1 (Builtin.«list.sort» ⟨[.ref h'.objs.size], []⟩) (fun f s' => f = .done (.ret .none) ∧ Q (.ref h'.objs.size) s') E' { s with heap := h'.push (seqObj "list" vs.toArray 0), toks := tk }) :
    wpAny (model prog w) A (call (.builtin "sorted") [.ref d] []) Q E s := by
  refine call_function_entry_kw kind_sorted plain_sorted entry_sorted (args_sorted1 _) ?_
  unfold Builtin.«sorted»
  refine wpAny_bind (m := checkCount "sorted" 1 1 _) (wpAny_pure ?_)
  refine wpAny_bind (collect_src (A := A.in1) (KdlSrc.rawDict lo) hh hm hn fun h' tk acc hk hlt hacc => ?_)
  have hl : acc.toList.length = es.size := by rw [Array.length_toList]; exact hacc.1
  have hge : s.heap.objs.size ≤ h'.objs.size := Nat.le_of_lt hlt
  refine wpAny_bind (wpAny_newList ?_ (by rw [hl]; exact hn))
  show wpAny _ _ _ _ _ { s with heap := h'.push (seqObj "list" acc.toList.toArray 0), toks := tk }
  refine wpAny_bind (wpAny_holding (wpAny_call_entry_kw slot_list_sort ⟨_, Heap.get?_push_size _ rfl, rfl⟩ entry_list_sort ?body (args_list_sort _)))
  case body =>
    show wpAny (model prog w) A.in1.in1 (Builtin.«list.sort» ⟨[.ref h'.objs.size], []⟩) _ _ _
    refine wpAny_mono (body h' tk acc.toList _ hk hge hl (fun j v e => hacc.2 j v (by rw [← Array.getElem?_toList]; exact e))) (fun f s' hf => ?_) fun _ _ e => e
    obtain ⟨rfl, hq⟩ := hf
    exact ⟨_, rfl, wpAny_pure ⟨_, rfl, hq⟩⟩
def rSortDic (K : PySem.W.Frag) (w : World) : List V → Hp → VK → Prop := fun vs H Q => ∃ (a : Addr) (o : Obj) (xs : List (NestedKey × Addr × Value)) (bs : List (V × D)), vs = [V.ref a] ∧ H a = some (DicO w a o xs) ∧ bs.map (·.1) = xs.map (fun x => V.ref x.2.1) ∧ (∀ b ∈ bs, Dp K H b.1 b.2.py ∧ b.2.py.depth ≤ 50) ∧
  PySem.W.AllAlike (bs.map fun b => b.2.py) ∧ SortableT (bs.map fun b => b.2.py) ∧ ∀ p, H p = none → Q (.ref p) (upd H p (.lst ((bs.mergeSort (PySem.W.dataLe false fun b => b.2.py)).map (·.1))))
theorem vals_refs : ∀ {xs : List (NestedKey × Addr × Value)} {us : List Value}, us = xs.map (fun x => Value.ref x.2.1) → Vals (xs.map fun x => V.ref x.2.1) us
  | [], _, rfl => .nil
  | _ :: _, _, rfl => .cons rfl (vals_refs rfl)
theorem cr_sortDic (hc : X.calm = true) (hu : X.A.units + 65 < cLine) : CallR X (.builtin "sorted") (rSortDic X.K X.w) := by
  intro pins s σ H vs us Q I r h
  obtain ⟨a, o, xs, bs, rfl, he, hb, hd, hal, hso, q⟩ := h
  rw [Vals.ref1 r]
  obtain ⟨hs, hgd, hx, hz, es, ep, hdt, hsz, ent⟩ := dic_raw I he
  have hh : X.A.handled = none := I.ok.hd hc
  have hlb : bs.length = xs.length := by
    have := congrArg List.length hb
    simpa using this
  refine sorted_of_dic (es := es) (ep := ep) hh hs ⟨o, hgd, hx, hdt⟩ (by rw [hsz]; exact hz) fun h' tk its E' hk hge hil hit => ?_
  have ei : its = xs.map fun x => Value.ref x.2.1 := by
    apply List.ext_getElem?
    intro j
    by_cases hj : j < its.length
    · rw [List.getElem?_eq_getElem hj]
      obtain ⟨hi, ev⟩ := hit j its[j] (List.getElem?_eq_getElem hj)
      have hjx : j < xs.length := by omega
      obtain ⟨en, e1, e2⟩ := ent j xs[j] (List.getElem?_eq_getElem hjx)
      rw [Array.getElem?_eq_getElem hi] at e1
      have e1' : es[j] = en := Option.some.inj e1
      rw [List.getElem?_map, List.getElem?_eq_getElem hjx, Option.map_some, ev, e1', e2]
    · rw [List.getElem?_eq_none (by omega), List.getElem?_eq_none (by simp; omega)]
  have rv : Vals (bs.map (·.1)) its := by
    rw [hb]
    exact vals_refs ei
  have e := each_rel rv
  have er : PySem.W.EachIs (fun u (b : V × D) => ∃ as, Reads s.heap u b.2.py as) its bs := by
    have : ∀ {us : List Value} {xs : List (V × D)}, PySem.W.EachIs (fun u (b : V × D) => L2.RelV b.1 u) us xs → (∀ b ∈ xs, b ∈ bs) → PySem.W.EachIs (fun u (b : V × D) => ∃ as, Reads s.heap u b.2.py as) us xs := by
      intro us xs h
      induction h with
      | nil => intro _; exact .nil
      | cons h1 _ ih => intro hb; exact .cons (Dp.reads I _ _ _ (hd _ (hb _ (by simp))).1 h1) (ih fun b m => hb b (by simp [m]))
    exact this e fun b m => m
  have ho2 : (h'.push (seqObj "list" its.toArray 0)).get? h'.objs.size = some (seqObj "list" its.toArray 0) := Heap.get?_push_size _ rfl
  have kb : ∀ b ob, s.heap.get? b = some ob → (h'.push (seqObj "list" its.toArray 0)).get? b = some ob := fun b ob q => Heap.get?_push_of_some _ (hk b ob q)
  have ne0 : ∀ b ob, s.heap.get? b = some ob → b ≠ h'.objs.size := fun b ob q => Nat.ne_of_lt (Nat.lt_of_lt_of_le (Heap.lt_size q) hge)
  generalize hh2 : h'.push (seqObj "list" its.toArray 0) = h2 at ho2 kb ⊢
  have er' : PySem.W.EachIs (fun v (b : V × D) => ∃ as, Reads (sortingHeap h2 h'.objs.size its) v b.2.py as) its bs := er.mono fun _ _ ⟨as, r⟩ => ⟨as, PyProof.Rows.Reads.keeps (fun b ob q => sortingHeap_old (ne0 _ _ q) (kb _ _ q)) r⟩
  have S := sorts_both (prog := X.prog) (w := X.w) (A := X.A.in1.in1) (s := { s with heap := sortingHeap h2 h'.objs.size its, toks := tk }) (each_map (R := fun v d => ∃ as, Reads (sortingHeap h2 h'.objs.size its) v d as) (fun b : V × D => b.2.py) er') hal hso (bound_map fun b hb => by have := (hd b hb).2; show X.A.units + 1 + 1 + _ < _; omega)
  have hL' : its.length ≤ sizeLine := by omega
  refine list_sort_vals (s := { s with heap := h2, toks := tk }) ho2 S hL' ⟨rfl, ?_⟩
  have eo := sortVals_data (h' := sortingHeap h2 h'.objs.size its) false e er' hal
  obtain ⟨ep', he'⟩ := PyProof.Rows.sortedHeap_at (vs := its) (out := (sortVals (dataKind (sortingHeap h2 h'.objs.size its) (bs.map fun b => b.2.py)) false its its).toArray) ho2
  refine ⟨.ref _, _, I.laid (t' := tk) (o := .lst ((bs.mergeSort (PySem.W.dataLe false fun b => b.2.py)).map (·.1))) (fun b ob q => (PyProof.Rows.sortedHeap_old (ne0 _ _ q) (Heap.lt_size (kb _ _ q))).trans (kb _ _ q)) hge ⟨?_, _, ep', rel_each eo, he'⟩, rfl, q _ (I.hok.fresh hge)⟩
  rw [List.length_map, List.length_mergeSort, hlb]
  exact hz
end
end GV
set_option Elab.async false
set_option linter.all false
set_option maxRecDepth 100000
set_option maxHeartbeats 4000000
/-! GJ2: what data lean on; dicts in the worlds. -/
namespace GV
open PySem L2
/-- what data lean on stands -/
structure ExS (W : Wd) (H : Hp) (W' : Wd) (H' : Hp) : Prop where
  tup : ∀ a xs, H a = some (.tup xs) → H' a = some (.tup xs)
  frz : ∀ a o u, H a = some (.frz o u) → H' a = some (.frz o u)
  lst : ∀ a o, W.F a → H a = some o → H' a = some o
  ids : ∀ q a, W.k q = some a → W'.k q = some a
  fF : ∀ a, W.F a → W'.F a
  ob : ∀ q o, W.ob q = some o → W'.ob q = some o
theorem ExS.refl (W : Wd) (H : Hp) : ExS W H W H := ⟨fun _ _ e => e, fun _ _ _ e => e, fun _ _ _ e => e, fun _ _ e => e, fun _ e => e, fun _ _ e => e⟩
theorem ExS.trans {W W1 W2 : Wd} {H H1 H2 : Hp} (a : ExS W H W1 H1) (b : ExS W1 H1 W2 H2) : ExS W H W2 H2 :=
  ⟨fun c xs e => b.tup c xs (a.tup c xs e), fun c o u e => b.frz c o u (a.frz c o u e), fun c o f e => b.lst c o (a.fF c f) (a.lst c o f e), fun q c e => b.ids q c (a.ids q c e), fun c f => b.fF c (a.fF c f), fun q o e => b.ob q o (a.ob q o e)⟩
section
variable {K : PySem.W.Frag} {cl : Cl} {W W' : Wd} {H H' : Hp} {h : MH}
theorem Ext.exs (w : WOk K cl W h H) (x : Ext W H W' H') : ExS W H W' H' :=
  ⟨fun a xs e => x.keep a _ e (notfp_tup w e), fun a o u e => x.keep a _ e (notfp_frz w e), fun a o f e => x.keep a o e (w.dis a f), x.ids, x.fF, x.ob⟩
theorem fz_exs {H0 : Hp} : ExS W H (W.fz H0 H) H := ⟨fun _ _ e => e, fun _ _ _ e => e, fun _ _ _ e => e, fun _ _ e => e, fun _ f => .inl f, fun _ _ e => e⟩
theorem chg_exs {p : Addr} {xs ys : List V} (e : H p = some (.lst xs)) (n : ¬ W.F p) : ExS W H W (upd H p (.lst ys)) :=
  ⟨fun a zs q => by rw [upd_ne (ne_of q e (by intro z; cases z))]; exact q, fun a o u q => by rw [upd_ne (ne_of q e (by intro z; cases z))]; exact q,
   fun a o f q => by rw [upd_ne (ne_F f n)]; exact q, fun _ _ e => e, fun _ f => f, fun _ _ e => e⟩
mutual
theorem Rep.exs (x : ExS W H W' H') : ∀ {v : V} {d : D}, Rep K W H v d → Rep K W' H' v d
  | _, _, .non => .non
  | _, _, .bl b => .bl b
  | _, _, .int i => .int i
  | _, _, .str s => .str s
  | _, _, .tup e r => .tup (by
      rcases e with (e | ⟨o, e⟩) | e
      · exact .inl (.inl (x.tup _ _ e))
      · exact .inl (.inr ⟨o, x.frz _ _ _ e⟩)
      · exact .inr e) (RepL.exs x r)
  | _, _, .lst e f r => .lst (by
      rcases e with e | ⟨o, e⟩
      · exact .inl (x.lst _ _ f e)
      · exact .inr ⟨o, x.frz _ _ _ e⟩) (x.fF _ f) (RepL.exs x r)
  | _, _, .obj e => .obj (x.ids _ _ e)
theorem RepL.exs (x : ExS W H W' H') : ∀ {vs : List V} {ds : List D}, RepL K W H vs ds → RepL K W' H' vs ds
  | _, _, .nil => .nil
  | _, _, .cons a b => .cons (Rep.exs x a) (RepL.exs x b)
end
end
section
variable {K : PySem.W.Frag} {cl : Cl} {W W' : Wd} {H H' : Hp} {h : MH}
theorem MRel.exs {i : Nat} {o : MO} (x : ExS W H W' H') (hk : ∀ f a, W.k (i, f) = some a → H' a = H a) (m : MRel K cl W H i o) : MRel K cl W' H' i o := by
  cases o with
  | lst xs =>
    obtain ⟨a, vs, e1, e2, e3⟩ := m
    exact ⟨a, vs, x.ids _ _ e1, by rw [hk _ _ e1]; exact e2, RepL.exs x e3⟩
  | ins c fs =>
    obtain ⟨a, C, dx, gs, e1, e2, e3, e4⟩ := m
    refine ⟨a, C, dx, gs, x.ids _ _ e1, e2, by rw [hk _ _ e1]; exact e3, Paired.mapP e4 fun pp qq z => ?_⟩
    obtain ⟨f, fd⟩ := pp
    cases fd with
    | v d => exact ⟨z.1, Rep.exs x z.2⟩
    | own m ys =>
      obtain ⟨z1, c, ws, z2, z3, z4, z5⟩ := z
      exact ⟨z1, c, ws, x.ids _ _ z2, z3, by rw [hk _ _ z2]; exact z4, RepL.exs x z5⟩
  | dic n kvs =>
    obtain ⟨a, ob, xs, e1, e2, e3, e4⟩ := m
    exact ⟨a, ob, xs, x.ids _ _ e1, x.ob _ _ e2, by rw [hk _ _ e1]; exact e3, DP.map (fun _ _ z => Rep.exs x z) e4⟩
/-- a dict is named -/
def Wd.addD (W : Wd) (n : Nat) (p : Addr) (o : Obj × List (NestedKey × Addr × Value)) : Wd := { W with k := fun q => if q = (n, none) then some p else W.k q, ob := fun q => if q = (n, 0) then some o else W.ob q }
theorem WOk.newDic {p : Addr} {o : Obj} {kvs : List (D × D)} {xs : List (NestedKey × Addr × Value)} (w : WOk K cl W h H) (e : H p = none ∨ ∃ φ, H p = some (.ext φ)) (nf : ¬ W.fp p) (nF : ¬ W.F p) (r : Paired (DP K W H) kvs xs) :
    WOk K cl (W.addD h.length p (o, xs)) (h ++ [.dic 0 kvs]) (upd H p (DicO cl.w p o xs)) ∧ ExS W H (W.addD h.length p (o, xs)) (upd H p (DicO cl.w p o xs)) ∧ (W.addD h.length p (o, xs)).k (h.length, none) = some p ∧ ∀ a, (W.addD h.length p (o, xs)).fp a → a = p ∨ W.fp a := by
  have nk : ∀ f, W.k (h.length, f) = none := fun f => by
    cases q : W.k (h.length, f) with
    | none => rfl
    | some a => exact absurd (w.bnd _ a q) (Nat.lt_irrefl _)
  have no : ∀ m, W.ob (h.length, m) = none := fun m => by
    cases q : W.ob (h.length, m) with
    | none => rfl
    | some a => exact absurd (w.dbd _ a q) (Nat.lt_irrefl _)
  have ids : ∀ q a, W.k q = some a → (W.addD h.length p (o, xs)).k q = some a := fun q a hq => by
    unfold Wd.addD
    simp only
    rw [if_neg (fun z => by rw [z, nk] at hq; cases hq)]
    exact hq
  have obs : ∀ q a, W.ob q = some a → (W.addD h.length p (o, xs)).ob q = some a := fun q a hq => by
    unfold Wd.addD
    simp only
    rw [if_neg (fun z => by rw [z, no] at hq; cases hq)]
    exact hq
  have fpA : ∀ a, (W.addD h.length p (o, xs)).fp a → a = p ∨ W.fp a := fun a z => by
    obtain ⟨q, hq⟩ := z
    unfold Wd.addD at hq
    simp only at hq
    split at hq
    · exact .inl (Option.some.inj hq).symm
    · exact .inr ⟨q, hq⟩
  have me : (W.addD h.length p (o, xs)).k (h.length, none) = some p := by simp [Wd.addD]
  have nep : ∀ a u, H a = some u → (∀ φ, u ≠ .ext φ) → a ≠ p := fun a u q hu z => by
    subst z
    rcases e with e | ⟨φ, e⟩
    · rw [q] at e; cases e
    · rw [q] at e; exact hu φ (Option.some.inj e)
  have x : ExS W H (W.addD h.length p (o, xs)) (upd H p (DicO cl.w p o xs)) :=
    ⟨fun a xs q => by rw [upd_ne (nep a _ q (by intro φ z; cases z))]; exact q, fun a o u q => by rw [upd_ne (nep a _ q (by intro φ z; cases z))]; exact q,
     fun a u f q => by rw [upd_ne (ne_F f nF)]; exact q, ids, fun _ f => f, obs⟩
  refine ⟨⟨fun q q' a h2 h3 => ?_, fun a f z => ?_, fun a z => ?_, fun a f => ?_, fun i m q => ?_, fun q a hq => ?_, fun i c fs hi f m a hk => ?_, fun q u hq => ?_, fun i m kv hi l u hq => ?_⟩, x, me, fpA⟩
  · unfold Wd.addD at h2 h3
    simp only at h2 h3
    split at h2
    · split at h3
      · rename_i z1 z2; rw [z1, z2]
      · cases h2; exact (nf ⟨_, h3⟩).elim
    · split at h3
      · cases h3; exact (nf ⟨_, h2⟩).elim
      · exact w.inj q q' a h2 h3
  · rcases fpA a z with y | y
    · subst y; exact nF f
    · exact w.dis a f y
  · by_cases ea : a = p
    · subst ea; exact .inr (.inr ⟨_, upd_same⟩)
    · rcases fpA a z with y | y
      · exact (ea y).elim
      · rw [upd_ne ea]; exact w.cov a y
  · rw [upd_ne (ne_F f nF)]; exact w.frz a f
  · by_cases hi : i < h.length
    · rw [List.getElem?_append_left hi] at q
      exact MRel.exs x (fun f a hk => upd_ne (ne_fp ⟨_, hk⟩ nf)) (w.obj i m q)
    · rw [List.getElem?_append_right (by omega)] at q
      have ei : i = h.length := by
        have := (List.getElem?_eq_some_iff.mp q).1
        simp at this
        omega
      subst ei
      simp at q
      subst q
      exact ⟨p, o, xs, me, by simp [Wd.addD], upd_same, DP.map (fun _ _ z => Rep.exs x z) r⟩
  · rw [List.length_append, List.length_singleton]
    unfold Wd.addD at hq
    simp only at hq
    split at hq
    · rename_i z; rw [z]; exact Nat.lt_succ_self _
    · exact Nat.lt_succ_of_lt (w.bnd q a hq)
  · have hk' : W.k (i, some (f, m)) = some a := by
      unfold Wd.addD at hk
      simpa using hk
    have := w.bnd _ _ hk'
    rw [List.getElem?_append_left this] at hi
    exact w.nxt i c fs hi f m a hk'
  · rw [List.length_append, List.length_singleton]
    unfold Wd.addD at hq
    simp only at hq
    split at hq
    · rename_i z; rw [z]; exact Nat.lt_succ_self _
    · exact Nat.lt_succ_of_lt (w.dbd q u hq)
  · unfold Wd.addD at hq
    simp only at hq
    split at hq
    · rename_i z
      cases z
      exact Nat.zero_le _
    · have := w.dbd _ _ hq
      rw [List.getElem?_append_left this] at hi
      exact w.dnx i m kv hi l u hq
/-- what was before stands -/
theorem Ext.newDic {W0 : Wd} {H0 : Hp} {p : Addr} {o : Obj × List (NestedKey × Addr × Value)} {n : Nat} {u : HO} (x0 : Ext W0 H0 W H) (e0 : H0 p = none) (fpA : ∀ a, (W.addD n p o).fp a → a = p ∨ W.fp a) (ids : ∀ q a, W.k q = some a → (W.addD n p o).k q = some a) (obs : ∀ q a, W.ob q = some a → (W.addD n p o).ob q = some a) :
    Ext W0 H0 (W.addD n p o) (upd H p u) where
  keep := fun a o q n => by rw [upd_ne (ne_of_none q e0)]; exact x0.keep a o q n
  there := fun a q => by
    by_cases z : a = p
    · subst z; rw [upd_same]; exact Option.some_ne_none _
    · rw [upd_ne z]; exact x0.there a q
  fpn := fun a z => by
    rcases fpA a z with y | y
    · subst y; exact .inr e0
    · exact x0.fpn a y
  ids := fun q a z => ids q a (x0.ids q a z)
  fF := x0.fF
  fn := x0.fn
  ob := fun q a z => obs q a (x0.ob q a z)
end
/-! ### expressions -/
section
variable {A : Stat} {Wx : WX} {σ : L2.St} {H : Hp} {Q : VK} {W : Wd} {h : MH} {oA : Nat → Option Addr} {ss : SS} {j : Nat}
theorem notfp_none {p : Addr} (w : WOkA A W h H) (e : H p = none) : ¬ W.fp p := fun z => by
  rcases w.cov p z with ⟨ys, q⟩ | ⟨C, dx, fs, q⟩ | ⟨φ, q⟩ <;> rw [e] at q <;> cases q
theorem dicAt_at {i n : Nat} {kvs : List (D × D)} (e : dicAt ss h j = some (i, n, kvs)) : ss[j]? = some (some (.v (.obj i))) ∧ h[i]? = some (.dic n kvs) := by
  unfold dicAt at e
  split at e
  · rename_i i' e1
    split at e
    · rename_i n' kvs' e2
      cases e
      exact ⟨e1, e2⟩
    · cases e
  · cases e
/-- the dict that a name holds -/
theorem dic_at {i n : Nat} {kvs : List (D × D)} (w : WOkA A W h H) (s : SRel A.K W H oA ss σ) (e : dicAt ss h j = some (i, n, kvs)) :
    ∃ a o xs, σ[j]? = some (some (.ref a)) ∧ W.k (i, none) = some a ∧ W.ob (i, n) = some (o, xs) ∧ H a = some (DicO A.cl.w a o xs) ∧ Paired (DP A.K W H) kvs xs := by
  obtain ⟨e1, e2⟩ := dicAt_at e
  obtain ⟨v, k1, k2⟩ := s.vs j _ e1
  obtain ⟨a, o, xs, m1, m2, m3, m4⟩ := w.obj i _ e2
  cases k2 with
  | obj k3 =>
    rename_i a'
    have e : a' = a := by rw [m1] at k3; exact (Option.some.inj k3).symm
    subst e
    exact ⟨a', o, xs, k1, m1, m2, m3, m4⟩
theorem imp_dct0 (t : tE A Wx .dct0 σ H Q) : tDct0 A.cl.w σ H Q := by
  obtain ⟨W, h, oA, ss, w, s, p⟩ := t
  simp only [evE] at p
  intro q o hn
  have nf := notfp_none w hn
  obtain ⟨w2, x2, me, fpA⟩ := w.newDic (o := o) (kvs := []) (xs := []) (.inl hn) nf (fun z => w.frz q z hn) .nil
  exact p _ _ (Ext.newDic (Ext.refl W H) hn fpA x2.ids x2.ob) w2 _ (.obj me)
theorem imp_dct1 {k v : E} (t : tE A Wx (.dct1 k v) σ H Q) : tDct1 A.K A.cl.w (tE A Wx k) (tE A Wx v) σ H Q := by
  obtain ⟨W, h, oA, ss, w, s, p⟩ := t
  simp only [evE] at p
  intro q o hn
  have nf := notfp_none w hn
  have nF : ¬ W.F q := fun z => w.frz q z hn
  have x0 : Ext W H W (upd H q (DicO A.cl.w q o [])) := Ext.laid hn
  have w0 : WOkA A W h (upd H q (DicO A.cl.w q o [])) := w.laid hn
  cases ek : evE A.G k ss h with
  | no => rw [ek] at p; exact p.elim
  | ex c h' =>
    rw [ek] at p
    exact ⟨W, h, oA, ss, w0, s.ext w x0, by rw [ek]; exact fun W' H' x' w' => p W' H' (x0.trans x') w'⟩
  | ok r1 h1 =>
    rw [ek] at p
    simp only [O.bind_ok] at p
    refine ⟨W, h, oA, ss, w0, s.ext w x0, ?_⟩
    rw [ek]
    intro W1 H1 x1 w1 v1 q1
    have x01 := x0.trans x1
    have s1 := s.ext w x01
    have eq1 : H1 q = some (DicO A.cl.w q o []) := x1.keep _ _ upd_same nf
    have nf1 : ¬ W1.fp q := fun z => (x1.fpn q z).elim nf (by rw [upd_same]; exact Option.some_ne_none _)
    have nF1 : ¬ W1.F q := fun z => (x1.fn q z).elim nF (by rw [upd_same]; exact Option.some_ne_none _)
    cases ev : evE A.G v ss h1 with
    | no => rw [ev] at p; exact p.elim
    | ex c h' =>
      rw [ev] at p
      exact ⟨W1, h1, oA, ss, w1, s1, by rw [ev]; exact fun W' H' x' w' => p W' H' (x01.trans x') w'⟩
    | ok r2 h2 =>
      rw [ev] at p
      simp only [O.bind_ok] at p
      refine ⟨W1, h1, oA, ss, w1, s1, ?_⟩
      rw [ev]
      intro W2 H2 x2 w2 v2 q2
      have eq : H2 q = some (DicO A.cl.w q o []) := x2.keep _ _ eq1 nf1
      have nf2 : ¬ W2.fp q := fun z => (x2.fpn q z).elim nf1 (by rw [eq1]; exact Option.some_ne_none _)
      refine ⟨eq, ?_⟩
      split at p
      · rename_i d e he
        split at p
        · rename_i hk
          have r2' := q2.fz he
          have r1' : GV.Rep A.K (W2.fz H1 H2) H2 v1 d := Rep.fz (RRel.ext (r := .v d) w1 x2 q1)
          have w3 : WOkA A (W2.fz H1 H2) h2 H2 := fz_ok w2
          have x02 : Ext W H (W2.fz H1 H2) H2 := x01.trans (fz_ext x2)
          have nF2 : ¬ (W2.fz H1 H2).F q := fun z => by
            rcases z with z | ⟨z, _⟩
            · exact (x2.fn q z).elim nF1 (by rw [eq1]; exact Option.some_ne_none _)
            · rw [eq1] at z; cases z
          refine ⟨W2.fz H1 H2, d, e, r1', hk, r2', fun o' xs pr => ?_⟩
          obtain ⟨w4, x4, me, fpA⟩ := w3.newDic (o := o') (kvs := [(d, e)]) (xs := xs) (.inr ⟨_, eq⟩) nf2 nF2 pr
          exact p _ _ (Ext.newDic x02 hn fpA x4.ids x4.ob) w4 _ (.obj me)
        · exact p.elim
      · exact p.elim
theorem imp_dix {i : E} (t : tE A Wx (.dix j i) σ H Q) : tOp (rDix A.K A.cl.w) (tVar j) (tE A Wx i) σ H Q := by
  obtain ⟨W, h, oA, ss, w, s, p⟩ := t
  simp only [evE] at p
  cases e0 : dicAt ss h j with
  | none => rw [e0] at p; exact p.elim
  | some z0 =>
    obtain ⟨i0, n0, kv0⟩ := z0
    rw [e0] at p
    obtain ⟨a, o, xs, k1, k2, k3, k4, k5⟩ := dic_at w s e0
    refine ⟨_, k1, ?_⟩
    refine tE_bind w s p fun W1 H1 r h1 v x1 w1 s1 q1 p1 p0 => ?_
    cases e1 : dicAt ss h1 j with
    | none => rw [e1] at p1; exact p1.elim
    | some z1 =>
      obtain ⟨i1, n1, kv1⟩ := z1
      rw [e1] at p1
      obtain ⟨a1, o1, xs1, l1, l2, l3, l4, l5⟩ := dic_at w1 s1 e1
      have ea : a1 = a := by rw [k1] at l1; cases l1; rfl
      subst ea
      cases r with
      | v d =>
        simp only [dixR] at p1
        split at p1
        · rename_i hk
          cases eg : dget kv1 d with
          | none => rw [eg] at p1; exact p1.elim
          | some y =>
            rw [eg] at p1
            exact ⟨a1, W1, kv1, d, y, rfl, ⟨o1, xs1, l4, l5⟩, q1, hk, eg, fun v' rv => done_v w1 (p1.mono (Ext.refl _ _) (TR.back x1)) rv⟩
        · exact p1.elim
      | nl _ => exact p1.elim
      | bw _ => exact p1.elim
theorem imp_din {b : Bool} {i : E} (t : tE A Wx (.din b i j) σ H Q) : tOp (rDin A.K A.cl.w b) (tE A Wx i) (tVar j) σ H Q := by
  obtain ⟨W, h, oA, ss, w, s, p⟩ := t
  simp only [evE] at p
  refine tE_bind w s p fun W1 H1 r h1 v x1 w1 s1 q1 p1 p0 => ?_
  cases e1 : dicAt ss h1 j with
  | none => rw [e1] at p1; exact p1.elim
  | some z1 =>
    obtain ⟨i1, n1, kv1⟩ := z1
    rw [e1] at p1
    obtain ⟨a1, o1, xs1, l1, l2, l3, l4, l5⟩ := dic_at w1 s1 e1
    refine ⟨_, l1, ?_⟩
    cases r with
    | v d =>
      simp only [dinR] at p1
      split at p1
      · rename_i hk
        exact ⟨a1, W1, kv1, d, rfl, ⟨o1, xs1, l4, l5⟩, q1, hk, done_v w1 (p1.mono (Ext.refl _ _) (TR.back x1)) (.bl _)⟩
      · exact p1.elim
    | nl _ => exact p1.elim
    | bw _ => exact p1.elim
theorem sort_core {us : List V} {xs ys : List D} (w : WOkA A W h H) (r : RepL A.K W H us xs) (e : srtD xs = some ys) (p : PostR A W H Wx σ (TR A H Q) (.ok (.nl ys) h)) : ∃ bs : List (V × D), bs.map (·.1) = us ∧ (∀ b ∈ bs, Dp A.K H b.1 b.2.py ∧ b.2.py.depth ≤ 50) ∧
    PySem.W.AllAlike (bs.map fun b => b.2.py) ∧ SortableT (bs.map fun b => b.2.py) ∧ ∀ p, H p = none → Q (.ref p) (upd H p (.lst ((bs.mergeSort (PySem.W.dataLe false fun b => b.2.py)).map (·.1)))) := by
  unfold srtD at e
  split at e
  · rename_i hok
    cases e
    unfold srtOk at hok
    simp only [Bool.and_eq_true, Bool.or_eq_true, List.all_eq_true] at hok
    obtain ⟨⟨⟨h1, h2⟩, h3⟩, h4⟩ := hok
    obtain ⟨z1, z2⟩ := zip_fst r.length
    have mem : ∀ b ∈ us.zip xs, b.2 ∈ xs := fun b m => by
      have := List.mem_map_of_mem (f := (·.2)) m
      rw [z2] at this
      exact this
    refine ⟨us.zip xs, z1, fun b m => ⟨(zip_rep r b m).dp (h1 _ (mem b m)), (lay_py _ _ (h1 _ (mem b m))).2⟩, fun d hd d' hd' => ?_, ?_, ?_⟩
    · obtain ⟨b, m, rfl⟩ := List.mem_map.mp hd
      obtain ⟨b', m', rfl⟩ := List.mem_map.mp hd'
      exact h2 _ (mem b m) _ (mem b' m')
    · rcases h3 with h3 | h3
      · refine .inr fun d hd => ?_
        obtain ⟨b, m, rfl⟩ := List.mem_map.mp hd
        have := h3 _ (mem b m)
        revert this
        cases b.2 with
        | tup l => intro _; exact ⟨D.pyL l, by simp [D.py]⟩
        | _ => intro z; cases z
      · refine .inl (.inr fun d hd => ?_)
        obtain ⟨b, m, rfl⟩ := List.mem_map.mp hd
        have := h3 _ (mem b m)
        revert this
        cases b.2 with
        | bl _ => intro _; exact ⟨(by simp [D.py]), fun l => by simp [D.py]⟩
        | int _ => intro _; exact ⟨(by simp [D.py]), fun l => by simp [D.py]⟩
        | str _ => intro _; exact ⟨(by simp [D.py]), fun l => by simp [D.py]⟩
        | _ => intro z; cases z
    · have em : ((us.zip xs).mergeSort (PySem.W.dataLe false fun b => b.2.py)).map (·.2) = xs.mergeSort (PySem.W.dataLe false D.py) := by
        have := List.map_mergeSort (r := PySem.W.dataLe false fun b : V × D => b.2.py) (s := PySem.W.dataLe false D.py) (f := Prod.snd) (l := us.zip xs) (fun a _ b _ => rfl)
        rw [show ((us.zip xs).map Prod.snd) = xs from z2] at this
        exact this
      have rr := rep_zip (A := A) (W := W) (H := H) ((us.zip xs).mergeSort (PySem.W.dataLe false fun b => b.2.py)) fun b m => zip_rep r b (List.mem_mergeSort.mp m)
      rw [em] at rr
      exact done_nl w p rr
  · cases e
theorem keys_rep : ∀ {kvs : List (D × D)} {xs : List (NestedKey × Addr × Value)}, Paired (DP A.K W H) kvs xs → RepL A.K W H (xs.map fun x => V.ref x.2.1) (kvs.map (·.1))
  | _, _, .nil => .nil
  | _, _, .cons a b => .cons a.2.2.1 (keys_rep b)
theorem imp_dsrt (t : tE A Wx (.dsrt j) σ H Q) : tCB (rSortDic A.K A.cl.w) (tCons (tVar j) tNil) σ H Q := by
  obtain ⟨W, h, oA, ss, w, s, p⟩ := t
  simp only [evE] at p
  cases e1 : dicAt ss h j with
  | none => rw [e1] at p; exact p.elim
  | some z1 =>
    obtain ⟨i1, n1, kv1⟩ := z1
    rw [e1] at p
    obtain ⟨a1, o1, xs1, l1, l2, l3, l4, l5⟩ := dic_at w s e1
    simp only at p
    cases e2 : srtD (kv1.map (·.1)) with
    | none => rw [e2] at p; exact p.elim
    | some ys =>
      rw [e2] at p
      obtain ⟨bs, b1, b2, b3, b4, b5⟩ := sort_core w (keys_rep l5) e2 p
      exact ⟨_, l1, a1, o1, xs1, bs, rfl, l4, b1, b2, b3, b4, b5⟩
end
end GV
set_option Elab.async false
set_option linter.all false
set_option maxRecDepth 100000
set_option maxHeartbeats 4000000
/-! GV12: the program's expressions against the small language's. -/
namespace GV
open PySem L2
def visB (sc : Scope) (x : Str) : Bool := match sc.names.lookup x with
  | some .local => true
  | some .cell => true
  | some .free => true
  | _ => false
def locB (sc : Scope) (x : Str) : Bool := match sc.names.lookup x with
  | some .local => true
  | some .cell => true
  | _ => false
def glB (sc : Scope) (x : Str) : Bool := match sc.names.lookup x with
  | some .globalImplicit => true
  | _ => false
def nmOk (x : Str) : Bool := !(x == ("__debug__" : Str)) && !(x == ("__classdict__" : Str)) && !(x == ("__name__" : Str))
def notStar : Expr → Bool
  | .Starred _ _ => false
  | _ => true
def notSet : Expr → Bool
  | .Set _ _ _ => false
  | _ => true
def notSlice : Expr → Bool
  | .Slice _ _ _ _ => false
  | _ => true
def notIf : Expr → Bool
  | .IfExp _ _ _ _ => false
  | _ => true
def bopB : BOp → Operator → Bool
  | .add, .Add => true
  | .sub, .Sub => true
  | .mul, .Mult => true
  | .fdiv, .FloorDiv => true
  | .mod, .Mod => true
  | .pow, .Pow => true
  | _, _ => false
def copB : COp → CmpOp → Bool
  | .eq, .Eq => true
  | .ne, .NotEq => true
  | .lt, .Lt => true
  | .le, .LtE => true
  | .gt, .Gt => true
  | .ge, .GtE => true
  | .isin, .In => true
  | .notin, .NotIn => true
  | .is_, .Is => true
  | .isnot, .IsNot => true
  | _, _ => false
def Bi.nm : Bi → Str
  | .len => "len" | .sum => "sum" | .all => "all" | .any => "any" | .min => "min" | .max => "max" | .sorted => "sorted"
  | .tuple => "tuple" | .list => "list" | .str => "str" | .int => "int"
def relB (scope sc : Scope) : Scope :=
  { scope with names := scope.names.map fun (n, k) => if (k == .free && sc.kind == .function && sc.names.lookup n == some .cell) then (n, .cell) else (n, k) }
mutual
def chkG (N : List Str) (fnB : Str → Bool) (sc : Scope) : Tg → Expr → Bool
  | .n j, py => match py with
    | .Name x _ => N[j]? == some x && locB sc x && (fnB x || sc.names.lookup x == some .local)
    | _ => false
  | .t ts, py => match py with
    | .Tuple es _ _ => chkGs N fnB sc ts es
    | _ => false
def chkGs (N : List Str) (fnB : Str → Bool) (sc : Scope) : List Tg → List Expr → Bool
  | [], es => match es with
    | [] => true
    | _ => false
  | t :: ts, es => match es with
    | e :: es => chkG N fnB sc t e && notStar e && chkGs N fnB sc ts es
    | _ => false
end
def isNmE : Expr → Bool
  | .Name _ _ => true
  | _ => false
def isCN : Expr → Bool
  | .Name _ _ => true
  | .Constant _ _ _ => true
  | _ => false
def isTup : Expr → Bool
  | .Tuple _ _ _ => true
  | _ => false
mutual
def chkE (T : Tab) (N : List Str) : E → Scope → Expr → Bool
  | .non, _, py => match py with
    | .Constant .none _ _ => true
    | _ => false
  | .bl b, _, py => match py with
    | .Constant (.bool c) _ _ => b == c
    | _ => false
  | .int b, _, py => match py with
    | .Constant (.int c) _ _ => b == c
    | _ => false
  | .str b, _, py => match py with
    | .Constant (.str c) _ _ => b == c
    | _ => false
  | .v j, sc, py => match py with
    | .Name x _ => N[j]? == some x && visB sc x && nmOk x
    | _ => false
  | .g c, sc, py => match py with
    | .Name x _ => T.gn[c]? == some x && glB sc x && nmOk x
    | _ => false
  | .bin o a b, sc, py => match py with
    | .BinOp l op r _ => bopB o op && chkE T N a sc l && chkE T N b sc r
    | _ => false
  | .srep a b, sc, py => match py with
    | .BinOp l op r _ => bopB .mul op && chkE T N a sc l && chkE T N b sc r
    | _ => false
  | .neg a, sc, py => match py with
    | .UnaryOp .USub x _ => chkE T N a sc x
    | _ => false
  | .cmp o a b, sc, py => match py with
    | .Compare l [op] [r] _ => copB o op && notSet r && chkE T N a sc l && chkE T N b sc r
    | _ => false
  | .chn o o' a b c, sc, py => match py with
    | .Compare l [op, op'] [r, q] _ => copB o op && copB o' op' && notSet q && chkE T N a sc l && chkE T N b sc r && chkE T N c sc q
    | _ => false
  | .and a b, sc, py => match py with
    | .BoolOp .And [x, y] _ => notIf x && notIf y && chkE T N a sc x && chkE T N b sc y
    | .BoolOp .And (x :: y :: z :: r) p => notIf x && chkE T N a sc x && chkE T N b sc (.BoolOp .And (y :: z :: r) p)
    | _ => false
  | .or a b, sc, py => match py with
    | .BoolOp .Or [x, y] _ => notIf x && notIf y && chkE T N a sc x && chkE T N b sc y
    | .BoolOp .Or (x :: y :: z :: r) p => notIf x && chkE T N a sc x && chkE T N b sc (.BoolOp .Or (y :: z :: r) p)
    | _ => false
  | .not a, sc, py => match py with
    | .UnaryOp .Not x _ => notIf x && chkE T N a sc x
    | _ => false
  | .ite c a b, sc, py => match py with
    | .IfExp t x y _ => notIf t && chkE T N c sc t && chkE T N a sc x && chkE T N b sc y
    | _ => false
  | .tup es, sc, py => match py with
    | .Tuple xs _ _ => chkL T N es sc xs
    | _ => false
  | .lst es, sc, py => match py with
    | .List xs _ => chkL T N es sc xs
    | _ => false
  | .ix a i, sc, py => match py with
    | .Subscript x y _ => notSlice y && chkE T N a sc x && chkE T N i sc y
    | _ => false
  | .sl a lo hi, sc, py => match py with
    | .Subscript x (.Slice l u none _) _ => chkE T N a sc x && chkO T N lo sc l && chkO T N hi sc u
    | _ => false
  | .rgl b a, sc, py => match py with
    | .Call (.Name x _) [.Call (.Name y _) [z] [] _] [] _ => x == (if b then "tuple" else "list") && y == "range" && glB sc x && glB sc y && notStar z && chkE T N a sc z
    | _ => false
  | .rev a lo, sc, py => match py with
    | .Subscript x (.Slice l none (some (.UnaryOp .USub (.Constant (.int 1) _ _) _)) _) _ => (match lo, l with
      | none, none => true
      | some k, some (.Constant (.int m) _ _) => (k : Int) == m
      | _, _ => false) && chkE T N a sc x
    | _ => false
  | .call f es, sc, py => match py with
    | .Call (.Name x _) (y :: ys) [] _ => T.fn f == some x && glB sc x && nmOk x && chkL T N es sc (y :: ys)
    | _ => false
  | .make cc f es, sc, py => match py with
    | .Call (.Name x _) (y :: ys) [] _ => T.ct cc == some (x, f) && glB sc x && nmOk x && chkL T N es sc (y :: ys)
    | _ => false
  | .meth j cc m f es, sc, py => match py with
    | .Call (.Attribute (.Name x _) m' apos) ys [] cpos => T.mt f == some (cc, m) && m == m' && N[j]? == some x && visB sc x && nmOk x && (apos.endLine == cpos.line) && decide (ys.length < 20) && chkL T N es sc ys
    | _ => false
  | .fld j f, sc, py => match py with
    | .Attribute (.Name x _) f' _ => f == f' && decide (f ∈ T.fl) && N[j]? == some x && visB sc x && nmOk x
    | _ => false
  | .fix j f i, sc, py => match py with
    | .Subscript (.Attribute (.Name x _) f' _) y _ => f == f' && decide (f ∈ T.fl) && N[j]? == some x && visB sc x && nmOk x && notSlice y && chkE T N i sc y
    | _ => false
  | .flen j f, sc, py => match py with
    | .Call (.Name l _) [.Attribute (.Name x _) f' _] [] _ => l == "len" && glB sc l && f == f' && decide (f ∈ T.fl) && N[j]? == some x && visB sc x && nmOk x
    | _ => false
  | .mt mm a es, sc, py => match mm, py with
    | .join, .Call (.Attribute o m' apos) [y] [] cpos => isCN o && m' == "join" && (apos.endLine == cpos.line) && decide (es.length = 1) && chkE T N a sc o && chkL T N es sc [y]
    | .split, .Call (.Attribute o m' apos) [y] [] cpos => isCN o && m' == "split" && (apos.endLine == cpos.line) && decide (es.length = 1) && chkE T N a sc o && chkL T N es sc [y]
    | .upper, .Call (.Attribute o m' apos) [] [] cpos => isCN o && m' == "upper" && (apos.endLine == cpos.line) && decide (es.length = 0) && chkE T N a sc o
    | .index, .Call (.Attribute o m' apos) [y] [] cpos => isNmE o && m' == "index" && (apos.endLine == cpos.line) && decide (es.length = 1) && chkE T N a sc o && chkL T N es sc [y]
    | _, _ => false
  | .bi f es, sc, py => match py with
    | .Call (.Name x _) (y :: ys) [] _ => f.nm == x && glB sc x && chkL T N es sc (y :: ys)
    | _ => false
  | .dct0, _, py => match py with
    | .Dict [] [] _ => true
    | _ => false
  | .dct1 k v, sc, py => match py with
    | .Dict [some a] [b] _ => chkE T N k sc a && chkE T N v sc b
    | _ => false
  | .dix j i, sc, py => match py with
    | .Subscript (.Name x _) y _ => N[j]? == some x && visB sc x && nmOk x && notSlice y && chkE T N i sc y
    | _ => false
  | .din b i j, sc, py => match py with
    | .Compare l [op] [.Name x _] _ => copB (if b then .isin else .notin) op && N[j]? == some x && visB sc x && nmOk x && chkE T N i sc l
    | _ => false
  | .dsrt j, sc, py => match py with
    | .Call (.Name l _) [.Name x _] [] _ => l == "sorted" && glB sc l && N[j]? == some x && visB sc x && nmOk x
    | _ => false
  | .isi a t, sc, py => match py with
    | .Call (.Name x _) [y, .Name z _] [] _ => x == "isinstance" && glB sc x && z == (Str.ofString t.nm) && glB sc z && notStar y && chkE T N a sc y
    | _ => false
  | .comp k src t own ifs e, sc, py => match py with
    | .ListComp elt [⟨tg, iter, ifs', 0⟩] scope _ => blkC N sc scope (own.map fun i => (N.getD i "", i)) && (Tg.js t).all (fun j => own.contains j) && chkI T N k src sc tg iter
        && chkG N (fun x => scope.names.lookup x == some .cell) (relB scope sc) t tg && chkL T N ifs (relB scope sc) ifs' && decide (ifs.length ≤ 1) && ifs'.all notIf && chkE T N e (relB scope sc) elt
    | _ => false
  | _, _, _ => false
def chkL (T : Tab) (N : List Str) : List E → Scope → List Expr → Bool
  | [], _, xs => match xs with
    | [] => true
    | _ => false
  | e :: es, sc, xs => match xs with
    | x :: xs => notStar x && chkE T N e sc x && chkL T N es sc xs
    | _ => false
def chkO (T : Tab) (N : List Str) : Option E → Scope → Option Expr → Bool
  | none, _, x => match x with
    | none => true
    | _ => false
  | some e, sc, x => match x with
    | some x => chkE T N e sc x
    | _ => false
/-- what a loop or a comprehension walks -/
def chkI (T : Tab) (N : List Str) (k : IK) : List E → Scope → Expr → Expr → Bool
  | [], _, _, _ => false
  | e :: es, sc, tg, py => match k with
    | .seq => es.isEmpty && notSet py && chkE T N e sc py
    | .rng => match py with
      | .Call (.Name x _) (y :: ys) [] _ => x == "range" && glB sc x && decide (es.length ≤ 1) && notStar y && chkE T N e sc y && chkL T N es sc ys
      | _ => false
    | .enum => match py with
      | .Call (.Name x _) [y] [] _ => x == "enumerate" && glB sc x && es.isEmpty && isTup tg && notStar y && chkE T N e sc y
      | _ => false
    | .zip => match py with
      | .Call (.Name x _) [y, z] [] _ => x == "zip" && glB sc x && decide (es.length = 1) && isTup tg && notStar y && notStar z && chkE T N e sc y && chkL T N es sc [z]
      | .Call (.Name x _) [y, z, z2] [] _ => x == "zip" && glB sc x && decide (es.length = 2) && isTup tg && notStar y && notStar z && notStar z2 && chkE T N e sc y && chkL T N es sc [z, z2]
      | _ => false
end
end GV
set_option Elab.async false
set_option linter.all false
set_option maxRecDepth 100000
set_option maxHeartbeats 4000000
/-! GW1: a call within an except suite; which class an exception is of. -/
namespace GV
open PySem PySem.Spec PyProof.Rows L2 L2H
/-- isinstance(e, c), e pinned -/
theorem call_isP {X : Cx} {a D : Addr} {oe : Obj} (mem : (a, oe) ∈ X.pn) (C : ExcC X.K D) (hz : Zc (.ref D) none oe) (hf : ∃ vs, oe.data = .fields vs) : CallR X (.builtin "isinstance") (rIsE X.K D a) := by
  intro pins s σ H xs us Q I r h
  obtain ⟨c, cv, b, rfl, hcv, e, q⟩ := h
  cases r with
  | cons rx rr =>
    cases rr with
    | cons rt rr =>
      cases rr
      cases rx
      have ec := hcv _ rt
      subst ec
      obtain ⟨hget, _⟩ := I.pin (a, oe) (List.mem_append.mpr (.inl mem))
      obtain ⟨vs, hv⟩ := hf
      have J : PySem.W.InstAt s.heap a oe D none := by
        obtain ⟨oc, od, oda, osl⟩ := oe
        obtain ⟨h1, h2⟩ := hz
        dsimp only at h1 h2 hv
        subst h1 h2 hv
        exact ⟨hget, rfl, rfl, trivial⟩
      exact PySem.W.kia_one (PySem.W.handS_kitx_exc C.hg C.hk C.hs C.hd C.ha C.hn C.ht C.hm) I.kIn J e (fun z => nomatch z) fun tk => ⟨.bl b, H, I.kept (t' := tk) fun _ _ z => z, rfl, q⟩
/-- xs.count(True), xs bools -/
def rCntB (K : PySem.W.Frag) : V → List V → Hp → VK → Prop := fun x xs H Q => ∃ (p : Addr) (bs : List Bool), x = .ref p ∧ xs = [.bl true] ∧ SqL K H p (bs.map V.bl) ∧ Q (.int (bs.countP id : Nat)) H
theorem bls_count : ∀ {bs : List Bool} {us : List Value}, Vals (bs.map V.bl) us → us.countP (eqU (.bl true)) = bs.countP id
  | [], _, r => by cases r; rfl
  | b :: bs, _, r => by
    cases r with
    | @cons _ u _ _ a r2 =>
      have e : eqU (.bl true) u = b := by
        rw [eqU_of a rfl]
        cases b <;> rfl
      rw [List.countP_cons, List.countP_cons, bls_count r2, e]
      cases b <;> rfl
theorem mt_countB {X : Cx} : MtR X "list.count" (rCntB X.K) := by
  intro pins s σ H x xs v us Q I rx rxs h
  obtain ⟨p, bs, rfl, rfl, hs, q⟩ := h
  cases rx
  obtain ⟨u, rfl, ru⟩ := rxs.one
  obtain ⟨its, rv, ⟨⟨cls, dd, data, sl⟩, n, ho, hc, hdn, hd⟩, hlen⟩ := I.list hs
  simp only at hc hd
  subst hc hd
  have fys : (bs.map V.bl).all flatV = true := by simp [List.all_map, flatV]
  refine call_meets PySem.F.slot_list_count ⟨_, ho, rfl⟩ PySem.F.entry_list_count (PySem.F.args_list_count_2 _ _)
    (SeqAt.list_countAt p its.toArray n dd sl u (eqU (.bl true))) ⟨ho, fun u' hu' => mem_eqAt ru rfl rv fys u' (by simpa using hu'), ?_⟩
  have ec : its.toArray.toList.countP (eqU (.bl true)) = bs.countP id := bls_count rv
  refine ⟨.int (bs.countP id : Nat), H, I.tok _, ⟨s.toks, ?_⟩, q⟩
  show Value.int ((its.toArray.toList.countP (eqU (.bl true)) : Nat) : Int) s.toks = Value.int ((bs.countP id : Nat) : Int) s.toks
  rw [ec]
/-! ### a def that takes the handled exception -/
structure FnW (P : Program) (w : World) (K : PySem.W.Frag) (mg : Str → Option Value) (base : Heap) (CX : CXT) (k : Nat) (f : Addr) (fd : FuncData) (D : Addr) (R : Hp → VK → Prop) : Prop where
  run : ∀ (A : Around) (outer : List Env) (s : Shared) (H : Hp) (args : Args) (us : List Value) (Q : VK) (E : XK) (p : Addr × Obj), RoomH k A → PinOk outer H s p → Zc (.ref D) none p.2 → (∃ vs, p.2.data = .fields vs) → Env0 P w K mg base A outer s H → BindsTo s fd args ((["e"] : List Str).zip us) → Vals [.ref p.1] us → R H Q →
    codeAny (model P w) A (.call (.ref f) args) (CR CX outer P w H s Q E) s
theorem fn_ofW {CX : CXT} {P : Program} {w : World} {K : PySem.W.Frag} {mg : Str → Option Value} {base : Heap} {k : Nat} {f D : Addr} {name qual : Str} {params : Arguments} {body : List Stmt} {scope : Scope} {dV kV doc pm cdv ct oc : Value} {an od : Option Addr}
    {osl : Array (Option Value)} {N : List Str} {R : Hp → VK → Prop} (lk : K.lookup f = some ⟨oc, od, .func (PySem.W.fnOf name qual params body scope dV kV doc pm an cdv ct), osl⟩) (hcd : PySem.W.codeIn K cdv qual = true) (S : FnScope N ["e"] scope)
    (hbody : ∀ (A : Around) (outer : List Env) (s : Shared) (H : Hp) (Q : VK) (E : XK) (p : Addr × Obj), RoomH k (A.deeper (envOfC qual scope s.heap.objs.size f cdv)) → Zc (.ref D) none p.2 → (∃ vs, p.2.data = .fields vs) → R H Q →
      ∃ t, PSs (cxH CX P w K mg base N qual scope f cdv A outer s H E p) body t ∧ t { nx := fun _ H' => Q .non H', rt := Q } (L2.start N [.ref p.1]) H) :
    FnW P w K mg base CX (k + 1) f (PySem.W.fnOf name qual params body scope dV kV doc pm an cdv ct) D R := by
  refine ⟨fun A outer s H args us Q E p hr hpin hz hf e0 hb r hsp => ?_⟩
  have hl : ([.ref p.1] : List V).length = (["e"] : List Str).length := rfl
  have KX : K.In s.heap := e0.mod.kin.keeps fun b o e => (e0.bs b o e).1
  have lim : s.heap.NoLimit := e0.mod.nolimit.keeps fun b o e => (e0.bs b o e).1
  have hkind : ∀ y ∈ (["e"] : List Str).zip us, scope.names.lookup y.1 = some .local ∨ (scope.names.lookup y.1 = some .cell ∧ ((cellsFrom (s.heap.objs.size + 1) scope.names []).lookup y.1).isSome = true) := fun ⟨n, v⟩ hy => by
    rcases S.par n (List.of_mem_zip hy).1 with q | q
    · exact .inl q
    · exact .inr ⟨q, PySem.W.cellsFrom_some _ _ _ (.inl q)⟩
  refine codeAny_call_function hr.depth (KX _ _ lk) rfl S.co S.gen rfl (PySem.W.codeRec_of KX hcd) (hb _ _ _ _ ?_)
  refine wpAny_newFunctionEnv_cells S.kind hkind fun env he s1 x => ?_
  subst he
  refine ⟨lim.keeps x.toInCall.keep, codeAny_func ?_⟩
  obtain ⟨t, ht, hq⟩ := hbody A outer s H Q E p (hr.deeper _) hz hf hsp
  have I : Inv (cxH CX P w K mg base N qual scope f cdv A outer s H E p) [] (L2.start N [.ref p.1]) H s1 := inv_startH S hpin e0 hl r x
  refine wpAny_mono (ht.run [] s1 (L2.start N [.ref p.1]) H _ I hq) (fun fl s' hs => ?_) fun e s' hs => hs
  have fin : ∀ {σ' : L2.St} {H' : Hp} {v : V} {u : Value}, Inv (cxH CX P w K mg base N qual scope f cdv A outer s H E p) [] σ' H' s' → RelV v u → Q v H' → CE outer P w H s Q u s' :=
    fun {σ' H' v u} J rv q => ⟨v, H', J.os, J.bare, J.base, J.hok, rv, q⟩
  cases fl with
  | ret u =>
    obtain ⟨v, σ', H', J, rv, q⟩ := hs
    exact fin J rv q
  | next =>
    obtain ⟨σ', H', J, q⟩ := hs
    exact fin (v := V.non) (u := Value.none) J rfl q
  | brk =>
    obtain ⟨_, _, _, q⟩ := hs
    exact False.elim q
  | cont =>
    obtain ⟨_, _, _, q⟩ := hs
    exact False.elim q
/-- such a call in the suite -/
def tW (i : Nat) (a : Addr) (R : Hp → VK → Prop) : TE := fun σ H Q => σ[i]? = some (some (.ref a)) ∧ R H Q
theorem pe_callW {X : Cx} {a D f : Addr} {oe : Obj} {pn : List (Addr × Obj)} {fd : FuncData} {k i : Nat} {x n : Str} {q np pos : Pos} {R : Hp → VK → Prop} (F : FnW X.prog X.w X.K X.mg X.base (L2.CX X.prog X.w) k f fd D R) (hr : Room k X.A) (hz : Zc (.ref D) none oe) (hf : ∃ vs, oe.data = .fields vs)
    (hg : Gl X x) (hm : X.mg x = some (.ref f)) (hk : PySem.W.keepIn X.K (.ref f) = true) (hb : Binds X.K fd ["e"] []) (hdb : (x == ("__debug__" : Str)) = false) (hi : X.N[i]? = some n) (hv : Vis X.env.scope n) (n1 : (n == ("__debug__" : Str)) = false) (n2 : (n == ("__classdict__" : Str)) = false) :
    PE (X.suite a ((a, oe) :: pn)) (.Call (.Name x q) [.Name n np] [] pos) (tW i a R) := by
  refine ⟨fun pins s σ H Q I h => ?_⟩
  obtain ⟨hσ, hR⟩ := h
  have ha : PA (X.suite a ((a, oe) :: pn)) [.Name n np] (tCons (tVar i) tNil) := pa_cons (pe_var hi hv n1 n2) pa_nil rfl
  refine wpAny_Call_Name_kw (ld_glob (X := X.suite a ((a, oe) :: pn)) I hg hm ?_ hdb)
  refine PySem.W.callWith_K (h₀ := X.base) I.ok.mod.kin hk (thn (ha.run pos pins s σ H (fun vs H1 => vs = [.ref a] ∧ H1 = H) I ⟨_, hσ, rfl, rfl⟩) fun us s1 ⟨vs, H1, I1, r, ev, eH⟩ => ⟨I1.kIn, ?_⟩) rfl rfl
  subst ev eH
  have hl : us.length = (["e"] : List Str).length := by rw [← r.length]; rfl
  have b := hb s1 us I1.kIn (by rw [List.append_nil]; exact hl)
  rw [List.append_nil] at b
  have P1 := I1.pin (a, oe) (List.mem_append_left _ List.mem_cons_self)
  have hpin : PinOk X.stack H1 s1 (a, oe) := ⟨P1.1, P1.2.1, fun hm => (List.mem_cons.mp (I1.stkSub a hm)).elim P1.2.2.1 P1.2.2.2.1, P1.2.2.2.2⟩
  refine wpAny_call (codeAny_mono (F.run (X.A.mark (some (.ref a))) X.stack s1 H1 ⟨us, []⟩ us Q E0 (a, oe) ⟨hr.dp, hr.un⟩ hpin hz hf I1.env0 b r hR) fun r s' hq => ?_)
  cases r with
  | error e => exact (passL (X := X.suite a ((a, oe) :: pn)) pins σ H1 s1 e s' I1 hq)
  | ok fl =>
    cases fl with
    | ret u => exact I1.after hq
    | next => exact False.elim hq
    | brk => exact False.elim hq
    | cont => exact False.elim hq
end GV
set_option Elab.async false
set_option linter.all false
set_option maxRecDepth 100000
set_option maxHeartbeats 4000000
/-! GW2: the def that says which class an exception is of. -/
namespace GV
open PySem PySem.Spec PyProof.Rows L2 L2H
def isB (sc : Scope) (x : Str) : Expr → Bool
  | .Call (.Name f _) [.Name v _, .Name y _] [] _ => f == "isinstance" && (glB sc f && (v == "e" && (visB sc v && (y == x && (glB sc y && nmOk y)))))
  | _ => false
def isL (sc : Scope) : List Str → List Expr → Bool
  | [], [] => true
  | x :: xs, e :: es => isB sc x e && isL sc xs es
  | _, _ => false
def asgB (sc : Scope) (xs : List Str) : Stmt → Bool
  | .Assign [.Name v _] (.List es _) _ => v == "own" && (decide (sc.names.lookup v = some .local) && isL sc xs es)
  | _ => false
def extB (sc : Scope) (xs : List Str) : Stmt → Bool
  | .Expr (.Call (.Attribute (.Name v _) m ap) [.List es _] [] cp) _ => v == "own" && (visB sc v && (m == "extend" && ((ap.endLine == cp.line) && isL sc xs es)))
  | _ => false
def appB (sc : Scope) (x : Str) : Stmt → Bool
  | .Expr (.Call (.Attribute (.Name v _) m ap) [e] [] cp) _ => v == "own" && (visB sc v && (m == "append" && ((ap.endLine == cp.line) && isB sc x e)))
  | _ => false
def ifB (sc : Scope) : Stmt → Bool
  | .If (.BoolOp .Or [.Compare (.Call (.Attribute (.Name v _) m ap) [.Constant (.bool true) _ _] [] cp) [.NotEq] [.Constant (.int 1) _ _] _, .UnaryOp .Not e _] _) _ [] _ => v == "own" && (visB sc v && (m == "count" && ((ap.endLine == cp.line) && isB sc "ValueError" e)))
  | _ => false
def retB (sc : Scope) : Stmt → Bool
  | .Return (some (.Tuple [.Constant (.str r) _ _, .Call (.Attribute (.Name v _) m ap) [.Constant (.bool true) _ _] [] cp] _ _)) _ => r == "raised" && (v == "own" && (visB sc v && (m == "index" && (ap.endLine == cp.line))))
  | _ => false
/-- the classes, in the def's sequence -/
def wNames : List Str := ["InvalidBoard", "InvalidBag", "InvalidRow", "InvalidCounts", "InvalidThing", "InvalidExchange", "InvalidActs", "InvalidAct", "InvalidOffers", "InvalidNumber", "Blocked", "HasGain", "NoGain", "Endless", "NotEndless", "Different", "TooMany", "NotOffered", "Bought", "NothingToUndo", "ParseError"]
def whB (sc : Scope) : List Stmt → Bool
  | [a, b, c, d, e, f, g, h, i] => asgB sc (wNames.take 3) a && (extB sc ((wNames.drop 3).take 3) b && (extB sc ((wNames.drop 6).take 3) c && (extB sc ((wNames.drop 9).take 4) d && (extB sc ((wNames.drop 13).take 4) e && (extB sc ((wNames.drop 17).take 3) f && (appB sc "ParseError" g && (ifB sc h && retB sc i)))))))
  | _ => false
section
variable {X : Cx} {a D : Addr} {oe : Obj} {sc : Scope} {bv : Str → Bool}
structure WCx (X : Cx) (sc : Scope) (a D : Addr) (oe : Obj) (bv : Str → Bool) : Prop where
  mem : (a, oe) ∈ X.pn
  C : ExcC X.K D
  hz : Zc (.ref D) none oe
  hf : ∃ vs, oe.data = .fields vs
  nN : X.N = (["e", "own"] : List Str)
  sc : X.env.scope = sc
  fi : X.mg "isinstance" = none
  un : X.A.units + 65 < cLine
  fn : ∀ x, X.fn x = true
  cls : ∀ x ∈ wNames, ∃ C, X.mg x = some (.ref C) ∧ PySem.W.kitOne X.K (.ref D) (.ref C) = some (bv x)
  vm : X.mg "ValueError" = none
  ve : PySem.W.kitOne X.K (.ref D) (.type "ValueError") = some true
def tIs (a : Addr) (b : Bool) : TE := fun σ H Q => σ[0]? = some (some (.ref a)) ∧ Q (.bl b) H
theorem glW {x : Str} (w : WCx X sc a D oe bv) (h : glB sc x = true) : Gl X x := by
  unfold glB at h
  split at h
  · rename_i e
    show X.env.scope.names.lookup x = _
    rw [w.sc]
    exact e
  · cases h
theorem visW {x : Str} (w : WCx X sc a D oe bv) (h : visB sc x = true) : Vis X.env.scope x := by
  rw [w.sc]
  unfold visB at h
  split at h
  · rename_i e; exact .inl e
  · rename_i e; exact .inr (.inl e)
  · rename_i e; exact .inr (.inr e)
  · cases h
theorem nmW {x : Str} (h : nmOk x = true) : (x == ("__debug__" : Str)) = false := by
  unfold nmOk at h
  simp only [Bool.and_eq_true, Bool.not_eq_true'] at h
  exact h.1.1
theorem pe_is {x : Str} {e : Expr} (w : WCx X sc a D oe bv) (hx : x ∈ wNames) (h : isB sc x e = true) : PE X e (tIs a (bv x)) := by
  unfold isB at h
  split at h
  · rename_i f _ v _ y _ _
    simp only [Bool.and_eq_true, beq_iff_eq] at h
    obtain ⟨rfl, h2, rfl, h4, rfl, h6, h7⟩ := h
    obtain ⟨C, e1, e2⟩ := w.cls y hx
    exact PE.mono (pe_callB (call_isP w.mem w.C w.hz w.hf) (glW w h2) w.fi PyProof.Rows.boot_isinstance (pa_cons (pe_var (X := X) (i := 0) (by rw [w.nN]; rfl) (visW w h4) (by decide +kernel) (by decide +kernel)) (pa_cons (pe_glob (v := .ref C) (glW w h6) e1 rfl (nmW h7)) pa_nil rfl) rfl) (by decide +kernel) (by decide +kernel) rfl rfl) fun σ H Q z => ⟨_, z.1, .ref C, .ref C, bv y, rfl, fun u r => r, e2, z.2⟩
  · cases h
theorem pe_isV {e : Expr} (w : WCx X sc a D oe bv) (h : isB sc "ValueError" e = true) : PE X e (tIs a true) := by
  unfold isB at h
  split at h
  · rename_i f _ v _ y _ _
    simp only [Bool.and_eq_true, beq_iff_eq] at h
    obtain ⟨rfl, h2, rfl, h4, rfl, h6, h7⟩ := h
    exact PE.mono (pe_callB (call_isP w.mem w.C w.hz w.hf) (glW w h2) w.fi PyProof.Rows.boot_isinstance (pa_cons (pe_var (X := X) (i := 0) (by rw [w.nN]; rfl) (visW w h4) (by decide +kernel) (by decide +kernel)) (pa_cons (pe_bltn (v := .ty "ValueError") (u := .type "ValueError") (glW w h6) w.vm (by decide +kernel) rfl (by decide +kernel) (nmW h7)) pa_nil rfl) rfl) (by decide +kernel) (by decide +kernel) rfl rfl) fun σ H Q z => ⟨_, z.1, .ty "ValueError", .type "ValueError", true, rfl, fun u r => r, w.ve, z.2⟩
  · cases h
def tIsL (a : Addr) (bs : List Bool) : TA := fun σ H Q => σ[0]? = some (some (.ref a)) ∧ Q (bs.map V.bl) H
theorem star_is {x : Str} {e : Expr} {es : List Expr} {env : Env} (h : isB sc x e = true) : starEach (e :: es) env = (false, eval e env) :: starEach es env := by
  cases e <;> first | rfl | cases h
theorem pa_is (w : WCx X sc a D oe bv) : ∀ {xs : List Str} {es : List Expr}, (∀ x ∈ xs, x ∈ wNames) → isL sc xs es = true → PA X es (tIsL a (xs.map bv))
  | [], [], _, _ => PA.mono pa_nil fun σ H Q z => z.2
  | [], _ :: _, _, h => by simp [isL] at h
  | _ :: _, [], _, h => by simp [isL] at h
  | x :: xs, e :: es, hm, h => by
    simp only [isL, Bool.and_eq_true] at h
    exact PA.mono (pa_cons (pe_is w (hm x (by simp)) h.1) (pa_is w (fun y hy => hm y (by simp [hy])) h.2) (star_is h.1)) fun σ H Q z => ⟨z.1, z.1, z.2⟩
/-- the list so far -/
def Own (a l : Addr) (bs : List Bool) (σ : L2.St) (H : Hp) : Prop := σ[0]? = some (some (.ref a)) ∧ σ[1]? = some (some (.ref l)) ∧ H l = some (.lst (bs.map V.bl))
theorem ps_wasg {xs : List Str} {st : Stmt} (w : WCx X sc a D oe bv) (hm : ∀ x ∈ xs, x ∈ wNames) (hl : xs.length ≤ 100) (h : asgB sc xs st = true) : PS X st (fun Dn σ H => σ[0]? = some (some (.ref a)) ∧ σ.length = 2 ∧ ∀ l, H l = none → Dn.nx (σ.set 1 (some (.ref l))) (upd H l (.lst ((xs.map bv).map V.bl)))) := by
  unfold asgB at h
  split at h
  · rename_i v _ es _ _
    simp only [Bool.and_eq_true, beq_iff_eq, decide_eq_true_eq] at h
    obtain ⟨rfl, h2, h3⟩ := h
    refine PS.mono (ps_set (i := 1) (by rw [w.nN]; decide +kernel) (by rw [w.nN]; rfl) (by rw [w.sc]; exact .inl h2) (pe_lst (pa_is w hm h3)) rfl (.inl (w.fn _))) fun Dn σ H z => ?_
    refine ⟨z.1, ?_, fun l hl => z.2.2 l hl⟩
    rw [List.length_map, List.length_map]
    exact Nat.le_trans hl (by decide)
  · cases h
theorem pe_own {p : Pos} (w : WCx X sc a D oe bv) (h : visB sc "own" = true) : PE X (.Name "own" p) (tVar 1) := pe_var (X := X) (i := 1) (by rw [w.nN]; rfl) (visW w h) (by decide +kernel) (by decide +kernel)
theorem tyL {K : PySem.W.Frag} {H : Hp} {l : Addr} {vs : List V} (e : H l = some (.lst vs)) : tyV K "list" (.ref l) H := Or.inl ⟨rfl, _, Or.inl (Or.inl e)⟩
theorem ps_wext {xs : List Str} {st : Stmt} (w : WCx X sc a D oe bv) (hm : ∀ x ∈ xs, x ∈ wNames) (hl : xs.length ≤ 100) (h : extB sc xs st = true) : PS X st (fun Dn σ H => ∃ l bs, Own a l bs σ H ∧ bs.length ≤ 100 ∧ ∀ p, H p = none → Dn.nx σ (upd (upd H p (.lst ((xs.map bv).map V.bl))) l (.lst ((bs ++ xs.map bv).map V.bl)))) := by
  unfold extB at h
  split at h
  · rename_i v _ m ap es _ cp _
    simp only [Bool.and_eq_true, beq_iff_eq] at h
    obtain ⟨rfl, h2, rfl, h4, h5⟩ := h
    refine PS.mono (ps_expr (pe_bm PySem.F.plainAttrs_list PySem.F.slot_list_extend PySem.F.type_list_extend mt_extend (pe_own w h2) (pa_cons (pe_lst (pa_is w hm h5)) pa_nil rfl) rfl rfl (by simpa using h4) rfl rfl) rfl) fun Dn σ H z => ?_
    obtain ⟨l, bs, ⟨o1, o2, o3⟩, hb, z⟩ := z
    refine ⟨.ref l, o2, tyL o3, o1, ?_, fun p hp => ?_⟩
    · rw [List.length_map, List.length_map]
      exact Nat.le_trans hl (by decide)
    · have ne : l ≠ p := fun e => by rw [e, hp] at o3; cases o3
      refine ⟨l, p, bs.map V.bl, (xs.map bv).map V.bl, rfl, rfl, by rw [upd_ne ne]; exact o3, upd_same, ?_, ?_⟩
      · simp only [List.length_map]
        exact Nat.le_trans (show bs.length + xs.length ≤ 200 by omega) (by decide)
      · have := z p hp
        rw [List.map_append] at this
        exact this
  · cases h
theorem ps_wapp {x : Str} {st : Stmt} (w : WCx X sc a D oe bv) (hm : x ∈ wNames) (h : appB sc x st = true) : PS X st (fun Dn σ H => ∃ l bs, Own a l bs σ H ∧ bs.length ≤ 100 ∧ Dn.nx σ (upd H l (.lst ((bs ++ [bv x]).map V.bl)))) := by
  unfold appB at h
  split at h
  · rename_i v _ m ap e cp _
    simp only [Bool.and_eq_true, beq_iff_eq] at h
    obtain ⟨rfl, h2, rfl, h4, h5⟩ := h
    refine PS.mono (ps_expr (pe_bm PySem.F.plainAttrs_list PySem.F.slot_list_append PySem.F.type_list_append mt_append (pe_own w h2) (pa_cons (pe_is w hm h5) pa_nil (star_is h5)) rfl (by rw [star_is h5]; rfl) (by simpa using h4) (star_is h5) rfl) rfl) fun Dn σ H z => ?_
    obtain ⟨l, bs, ⟨o1, o2, o3⟩, hb, z⟩ := z
    refine ⟨.ref l, o2, tyL o3, o1, l, bs.map V.bl, .bl (bv x), rfl, rfl, o3, ?_, ?_⟩
    · rw [List.length_map]
      exact Nat.lt_of_le_of_lt hb (by decide)
    · rw [List.map_append] at z
      exact z
  · cases h
theorem ps_wif {st : Stmt} (w : WCx X sc a D oe bv) (h : ifB sc st = true) : PS X st (fun Dn σ H => ∃ l bs, Own a l bs σ H ∧ bs.countP id = 1 ∧ Dn.nx σ H) := by
  unfold ifB at h
  split at h
  · rename_i v _ m ap _ _ cp _ _ _ e _ _ body _
    simp only [Bool.and_eq_true, beq_iff_eq] at h
    obtain ⟨rfl, h2, rfl, h4, h5⟩ := h
    have pv : PT X e (tB (tIs a true)) := pt_val (pe_isV w h5) (by intro _; cases e <;> first | rfl | cases h5)
    have nev : PSs X body (fun _ _ _ => False) := ⟨fun _ _ _ _ _ _ z => z.elim⟩
    refine PS.mono (ps_if (PW.pt (pw_or (pt_cmpR (op_neD (by have := w.un; omega)) (pe_bm (X := X) (apos := ap) (cpos := cp) PySem.F.plainAttrs_list PySem.F.slot_list_count PySem.F.type_list_count mt_countB (pe_own w h2) (pa_cons (pe_bl (b := true)) pa_nil rfl) rfl rfl (by simpa using h4) rfl rfl) pe_int (by rfl)) (pw_or1 (pt_not pv)))) nev (pss_nil (X := X))) fun Dn σ H z => ?_
    obtain ⟨l, bs, ⟨o1, o2, o3⟩, hc, z⟩ := z
    refine ⟨.ref l, o2, tyL o3, l, bs, rfl, rfl, .inl (.inl o3), ?_⟩
    rw [hc]
    refine ⟨.int 1, .int 1, .int 1, .int 1, rfl, rfl, ⟨false, by rfl, iteF ⟨o1, true, rfl, iteF z⟩⟩⟩
  · cases h
theorem ps_wret {st : Stmt} (w : WCx X sc a D oe bv) (h : retB sc st = true) : PS X st (fun Dn σ H => ∃ l bs, ∃ c : Nat, Own a l bs σ H ∧ bs[c]? = some true ∧ (∀ m, m < c → bs[m]? = some false) ∧ ∀ p, H p = none → Dn.rt (.ref p) (upd H p (.tup [.str "raised", .int (c : Nat)]))) := by
  unfold retB at h
  split at h
  · rename_i r _ _ v _ m ap _ _ cp _ _ _
    simp only [Bool.and_eq_true, beq_iff_eq] at h
    obtain ⟨rfl, rfl, h2, rfl, h4⟩ := h
    refine PS.mono (ps_ret (pe_tup (pa_cons pe_str (pa_cons (pe_bm (X := X) (apos := ap) (cpos := cp) PySem.F.plainAttrs_list PySem.F.slot_list_index PySem.F.type_list_index mt_index (pe_own w h2) (pa_cons (pe_bl (b := true)) pa_nil rfl) rfl rfl (by simpa using h4) rfl rfl) pa_nil rfl) rfl))) fun Dn σ H z => ?_
    obtain ⟨l, bs, c, ⟨o1, o2, o3⟩, hc, hn, z⟩ := z
    refine ⟨.ref l, o2, tyL o3, l, bs.map V.bl, .bl true, c, .bl true, rfl, rfl, .inl (.inl o3), rfl, by simp [List.all_map, flatV], by simp [hc], rfl, fun m z' hm hz => ?_, by show 2 ≤ sizeLine; decide, z⟩
    rw [List.getElem?_map, hn m hm] at hz
    cases hz
    rfl
  · cases h
end
end GV
set_option Elab.async false
set_option linter.all false
set_option maxRecDepth 100000
set_option maxHeartbeats 4000000
/-! GW3: the def that says which class an exception is of, as a whole. -/
namespace GV
open PySem PySem.Spec PyProof.Rows L2 L2H
def Grow (H H' : Hp) : Prop := ∀ b o, H b = some o → H' b = some o
theorem Grow.refl (H : Hp) : Grow H H := fun _ _ e => e
theorem Grow.new {H H' : Hp} {p : Addr} {o : HO} (g : Grow H H') (n : H p = none) : Grow H (upd H' p o) := fun b u e => by
  rw [upd_ne (ne_of_none e n)]
  exact g b u e
theorem Grow.none {H H' : Hp} {p : Addr} (g : Grow H H') (n : H' p = none) : H p = none := by
  cases e : H p with
  | none => rfl
  | some o => rw [g p o e] at n; cases n
def raisedV (c : Nat) : HO := .tup [.str "raised", .int (c : Nat)]
/-- what is promised of it -/
def rWh (c : Nat) : Hp → VK → Prop := fun H Q => ∀ H' q, Grow H H' → H q = none → H' q = some (raisedV c) → Q (.ref q) H'
def bvOf (c : Nat) (x : Str) : Bool := wNames[c]? == some x
theorem wh_facts : ∀ c, c < 21 → (wNames.map (bvOf c)).countP id = 1 ∧ (wNames.map (bvOf c))[c]? = some true ∧ ∀ m, m < c → (wNames.map (bvOf c))[m]? = some false := by decide +kernel
section
variable {X : Cx} {a D : Addr} {oe : Obj} {sc : Scope}
theorem sub3 {l : List Str} {i j : Nat} {x : Str} (h : x ∈ (l.drop i).take j) : x ∈ l := List.mem_of_mem_drop (List.mem_of_mem_take h)
theorem pss_wh {c : Nat} {body : List Stmt} (hc : c < 21) (w : WCx X sc a D oe (bvOf c)) (h : whB sc body = true) : PSs X body (fun Dn σ H => σ = [some (.ref a), none] ∧ rWh c H Dn.rt) := by
  unfold whB at h
  split at h
  · rename_i s1 s2 s3 s4 s5 s6 s7 s8 s9
    simp only [Bool.and_eq_true] at h
    obtain ⟨g1, g2, g3, g4, g5, g6, g7, g8, g9⟩ := h
    obtain ⟨f1, f2, f3⟩ := wh_facts c hc
    have p1 := ps_wasg w (fun x hx => List.mem_of_mem_take hx) (by decide) g1
    have p2 := ps_wext w (fun x hx => sub3 hx) (by decide) g2
    have p3 := ps_wext w (fun x hx => sub3 hx) (by decide) g3
    have p4 := ps_wext w (fun x hx => sub3 hx) (by decide) g4
    have p5 := ps_wext w (fun x hx => sub3 hx) (by decide) g5
    have p6 := ps_wext w (fun x hx => sub3 hx) (by decide) g6
    have p7 := ps_wapp w (by decide +kernel) g7
    refine PSs.mono (pss_cons p1 (pss_cons p2 (pss_cons p3 (pss_cons p4 (pss_cons p5 (pss_cons p6 (pss_cons p7 (pss_cons (ps_wif w g8) (pss_cons (ps_wret w g9) pss_nil))))))))) fun Dn σ H z => ?_
    obtain ⟨rfl, z⟩ := z
    refine ⟨rfl, rfl, fun l hl => ?_⟩
    have G0 : Grow H (upd H l (.lst (((wNames.take 3).map (bvOf c)).map V.bl))) := (Grow.refl H).new hl
    generalize hb0 : (wNames.take 3).map (bvOf c) = b0 at G0 ⊢
    have L0 : b0.length = 3 := by rw [← hb0]; simp [wNames]
    refine ⟨l, b0, ⟨rfl, rfl, upd_same⟩, by omega, fun q1 hq1 => ?_⟩
    have N1 := G0.none hq1
    refine ⟨l, _, ⟨rfl, rfl, upd_same⟩, by simp only [List.length_append, List.length_map, List.length_take, List.length_drop]; omega, fun q2 hq2 => ?_⟩
    have G1 : Grow H (upd (upd (upd H l (.lst (b0.map V.bl))) q1 (.lst ((((wNames.drop 3).take 3).map (bvOf c)).map V.bl))) l (.lst ((b0 ++ ((wNames.drop 3).take 3).map (bvOf c)).map V.bl))) := (G0.new N1).new hl
    have N2 := G1.none hq2
    have G2 := (G1.new (o := .lst ((((wNames.drop 6).take 3).map (bvOf c)).map V.bl)) N2).new (o := .lst ((b0 ++ ((wNames.drop 3).take 3).map (bvOf c) ++ ((wNames.drop 6).take 3).map (bvOf c)).map V.bl)) hl
    refine ⟨l, _, ⟨rfl, rfl, upd_same⟩, by simp only [List.length_append, List.length_map, List.length_take, List.length_drop]; omega, fun q3 hq3 => ?_⟩
    have N3 := G2.none hq3
    have G3 := (G2.new (o := .lst ((((wNames.drop 9).take 4).map (bvOf c)).map V.bl)) N3).new (o := .lst ((b0 ++ ((wNames.drop 3).take 3).map (bvOf c) ++ ((wNames.drop 6).take 3).map (bvOf c) ++ ((wNames.drop 9).take 4).map (bvOf c)).map V.bl)) hl
    refine ⟨l, _, ⟨rfl, rfl, upd_same⟩, by simp only [List.length_append, List.length_map, List.length_take, List.length_drop]; omega, fun q4 hq4 => ?_⟩
    have N4 := G3.none hq4
    have G4 := (G3.new (o := .lst ((((wNames.drop 13).take 4).map (bvOf c)).map V.bl)) N4).new (o := .lst ((b0 ++ ((wNames.drop 3).take 3).map (bvOf c) ++ ((wNames.drop 6).take 3).map (bvOf c) ++ ((wNames.drop 9).take 4).map (bvOf c) ++ ((wNames.drop 13).take 4).map (bvOf c)).map V.bl)) hl
    refine ⟨l, _, ⟨rfl, rfl, upd_same⟩, by simp only [List.length_append, List.length_map, List.length_take, List.length_drop]; omega, fun q5 hq5 => ?_⟩
    have N5 := G4.none hq5
    have G5 := (G4.new (o := .lst ((((wNames.drop 17).take 3).map (bvOf c)).map V.bl)) N5).new (o := .lst ((b0 ++ ((wNames.drop 3).take 3).map (bvOf c) ++ ((wNames.drop 6).take 3).map (bvOf c) ++ ((wNames.drop 9).take 4).map (bvOf c) ++ ((wNames.drop 13).take 4).map (bvOf c) ++ ((wNames.drop 17).take 3).map (bvOf c)).map V.bl)) hl
    refine ⟨l, _, ⟨rfl, rfl, upd_same⟩, by simp only [List.length_append, List.length_map, List.length_take, List.length_drop]; omega, ?_⟩
    have eb : b0 ++ ((wNames.drop 3).take 3).map (bvOf c) ++ ((wNames.drop 6).take 3).map (bvOf c) ++ ((wNames.drop 9).take 4).map (bvOf c) ++ ((wNames.drop 13).take 4).map (bvOf c) ++ ((wNames.drop 17).take 3).map (bvOf c) ++ [bvOf c "ParseError"] = wNames.map (bvOf c) := by
      rw [← hb0]
      rfl
    rw [eb]
    have G6 := G5.new (o := .lst ((wNames.map (bvOf c)).map V.bl)) hl
    refine ⟨l, _, ⟨rfl, rfl, upd_same⟩, f1, ?_⟩
    refine ⟨l, _, c, ⟨rfl, rfl, upd_same⟩, f2, f3, fun q hq => ?_⟩
    exact z _ q (G6.new (G6.none hq)) (G6.none hq) upd_same
  · cases h
end
/-- what the classes of a program must say -/
structure ClsOk (K : PySem.W.Frag) (mg : Str → Option Value) (D : Addr) (c : Nat) : Prop where
  C : ExcC K D
  cls : ∀ x ∈ wNames, ∃ C, mg x = some (.ref C) ∧ PySem.W.kitOne K (.ref D) (.ref C) = some (bvOf c x)
  ve : PySem.W.kitOne K (.ref D) (.type "ValueError") = some true
theorem fn_wh {P : Program} {w : World} {K : PySem.W.Frag} {mg : Str → Option Value} {base : Heap} {k c : Nat} {ad D : Addr} {x : Str} {fd : FuncData} {params : Arguments} {body : List Stmt} {scope : Scope} (hc : c < 21) (F : FunD K x x params body scope [] [] ad fd) (S : FnScope ["e", "own"] ["e"] scope)
    (h : whB scope body = true) (O : ClsOk K mg D c) (fi : mg "isinstance" = none) (vm : mg "ValueError" = none) : FnW P w K mg base (L2.CX P w) (k + 1) ad fd D (rWh c) := by
  obtain ⟨oc, od, dV, kV, doc, pm, an, cdv, ct, osl, rfl, lk, hcd, _, _⟩ := F.ex
  refine fn_ofW lk hcd S fun A outer s H Q E p hr hz hf hR => ?_
  have wc : WCx (cxH (L2.CX P w) P w K mg base ["e", "own"] x scope ad cdv A outer s H E p) scope p.1 D p.2 (bvOf c) :=
    ⟨by show (p.1, p.2) ∈ [p]; simp, O.C, hz, hf, rfl, rfl, fi, by have := hr.un; show (A.deeper _).units + 65 < cLine; omega, fun _ => rfl, O.cls, vm, O.ve⟩
  exact ⟨_, pss_wh hc wc h, rfl, hR⟩
end GV
set_option Elab.async false
set_option linter.all false
set_option maxRecDepth 100000
set_option maxHeartbeats 4000000
/-! GV13: the expressions run as the evaluator says. -/
namespace GV
open PySem L2
def bnames : List Str := ["len", "sum", "all", "any", "min", "max", "sorted", "tuple", "list", "str", "int", "bool", "isinstance", "range", "enumerate", "zip"]
structure CtxG (A : Stat) (k : Nat) (Wx : WX) (fnB : Str → Bool) (sc : Scope) (N : List Str) (X : Cx) : Prop where
  prog : X.prog = A.P
  w : X.w = A.w
  K : X.K = A.K
  mg : X.mg = A.mg
  base : X.base = A.base
  sc : X.env.scope = sc
  fn : X.fn = fnB
  nN : X.N = N
  nd : N.Nodup
  calm : X.calm = true
  room : Room (k + 1) X.A
  tk : Takes X Wx
structure StatOk (A : Stat) (k : Nat) : Prop where
  wd : A.cl.w = A.w
  free : ∀ x ∈ bnames, A.mg x = none
  cst : ∀ (c : Nat) x, A.T.gn[c]? = some x → ∃ v u, A.mg x = some u ∧ RelV v u ∧ ∀ d W H, A.G.gc c = some d → Rep A.K W H v d
  fns : ∀ (f : Nat) x, A.T.fn f = some x → ∃ ad fd ps, A.mg x = some (.ref ad) ∧ PySem.W.keepIn A.K (.ref ad) = true ∧ Binds A.K fd ps [] ∧ FnOk A.P A.w A.K A.mg A.base (L2.CX A.P A.w) k ad fd ps (spF A f)
  cls : ∀ f, f ∈ A.T.fl → ClF A f
  mts : ∀ (f c : Nat) m, A.T.mt f = some (c, m) → ∃ C ad fd ps, A.cl c = some C ∧ Cls A.K C ∧ Meth A.K C m ad ∧ Binds A.K fd ps [] ∧ FnOk A.P A.w A.K A.mg A.base (L2.CX A.P A.w) k ad fd ps (spF A f)
  mkr : ∀ (c f : Nat) x, A.T.ct c = some (x, f) → ∃ C ad fd ps, A.mg x = some (.ref C) ∧ A.cl c = some C ∧ Mk A.K C ad ∧ Binds A.K fd ps [] ∧ FnOk A.P A.w A.K A.mg A.base (L2.CX A.P A.w) k ad fd ps (spF A f)
  exc : ∀ (c : Nat) x, A.T.cn.lookup c = some x → ∃ C, A.mg x = some (.ref C) ∧ A.xc c = .ref C ∧ PySem.W.excIn A.K C He.veBase "ValueError.__new__" = true ∧ PySem.W.keepIn A.K (.ref C) = true ∧ PySem.W.subIn A.K (.ref C) (.type "BaseException") = some true ∧ PySem.W.typeIn A.K (.ref C) = some (.type "type")
  tr : ∀ x, A.T.wh = some x → ∃ B ad fd, A.mg A.T.be = some (.ref B) ∧ A.mg x = some (.ref ad) ∧ PySem.W.keepIn A.K (.ref ad) = true ∧ Binds A.K fd ["e"] [] ∧
    ∀ c d, A.G.wh c = some d → d = .tup [.str "raised", .int (c : Nat)] ∧ ∃ C, A.xc c = .ref C ∧ PySem.W.exmOne A.K (.ref C) (.ref B) = some true ∧ FnW A.P A.w A.K A.mg A.base (L2.CX A.P A.w) k ad fd C (rWh c)
def isBool : Expr → Bool
  | .BoolOp _ _ _ => true
  | _ => false
structure Snd (A : Stat) (Wx : WX) (X : Cx) (py : Expr) (e : E) : Prop where
  pe : PE X py (tE A Wx e)
  pw : isBool py = true → PW X py (tT A Wx e)
  pt : notIf py = true → PT X py (tT A Wx e)
section
variable {A : Stat} {k : Nat} {Wx : WX} {fnB : Str → Bool} {sc : Scope} {N : List Str} {X : Cx} {σ : L2.St} {H : Hp}
theorem vis_of {x : Str} (h : visB sc x = true) : Vis sc x := by
  unfold visB at h
  split at h
  · rename_i e; exact .inl e
  · rename_i e; exact .inr (.inl e)
  · rename_i e; exact .inr (.inr e)
  · cases h
theorem loc_of {x : Str} (h : locB sc x = true) : Loc sc x := by
  unfold locB at h
  split at h
  · rename_i e; exact .inl e
  · rename_i e; exact .inr e
  · cases h
theorem gl_of {x : Str} (c : CtxG A k Wx fnB sc N X) (h : glB sc x = true) : Gl X x := by
  unfold glB at h
  split at h
  · rename_i e
    show X.env.scope.names.lookup x = _
    rw [c.sc]
    exact e
  · cases h
theorem nm_of {x : Str} (h : nmOk x = true) : (x == ("__debug__" : Str)) = false ∧ (x == ("__classdict__" : Str)) = false ∧ x ≠ "__name__" := by
  unfold nmOk at h
  simp only [Bool.and_eq_true, Bool.not_eq_true'] at h
  exact ⟨h.1.1, h.1.2, fun e => by rw [e] at h; simp at h⟩
theorem star_of {e : Expr} {es : List Expr} {env : Env} (h : notStar e = true) : starEach (e :: es) env = (false, eval e env) :: starEach es env := by
  cases e <;> first | rfl | cases h
theorem stars_of {env : Env} {pos : Pos} : ∀ {es : List Expr}, es.all notStar = true → (backTo pos (starEach es env)).any (·.1) = false
  | [], _ => rfl
  | e :: es, h => by
    simp only [List.all_cons, Bool.and_eq_true] at h
    rw [star_of h.1]
    show (false || (backTo pos (starEach es env)).any (·.1)) = false
    rw [stars_of h.2]
    rfl
theorem chkL_star {T : Tab} : ∀ {es : List E} {sc : Scope} {xs : List Expr}, chkL T N es sc xs = true → xs.all notStar = true
  | [], _, [], _ => rfl
  | [], _, _ :: _, h => by simp [chkL] at h
  | _ :: _, _, [], h => by simp [chkL] at h
  | e :: es, sc, x :: xs, h => by
    simp only [chkL, Bool.and_eq_true] at h
    simp [h.1.1, chkL_star h.2]
theorem imp_tB {e : E} {Q : Bool → Hp → Prop} (t : tT A Wx e σ H Q) : tB (tE A Wx e) σ H Q := by
  obtain ⟨W, h, oA, ss, w, s, p⟩ := t
  refine tE_bind w s p fun W1 H1 r1 h1 v x1 w1 s1 q1 p1 p0 => ?_
  unfold blE at p1
  split at p1
  · cases q1
    exact ⟨_, rfl, p1.here w1⟩
  · exact False.elim p1
theorem imp_tTest {e : E} {Q : Bool → Hp → Prop} (t : tT A Wx e σ H Q) : tTest (tE A Wx e) σ H Q := imp_tB t
theorem imp_tand {a b : E} {Q : Bool → Hp → Prop} (t : tT A Wx (.and a b) σ H Q) : tAnd (tT A Wx a) (tT A Wx b) σ H Q := by
  obtain ⟨W, h, oA, ss, w, s, p⟩ := t
  simp only [evE] at p
  rw [← O.bind_assoc, O.bind_assoc] at p
  refine tT_bind w s p fun W1 H1 t h1 x1 w1 s1 p1 => ?_
  cases t with
  | true => exact iteT ⟨W1, h1, oA, ss, w1, s1, p1⟩
  | false => exact iteF (PostR.here w1 p1)
theorem imp_tor {a b : E} {Q : Bool → Hp → Prop} (t : tT A Wx (.or a b) σ H Q) : tOr (tT A Wx a) (tT A Wx b) σ H Q := by
  obtain ⟨W, h, oA, ss, w, s, p⟩ := t
  simp only [evE] at p
  rw [← O.bind_assoc, O.bind_assoc] at p
  refine tT_bind w s p fun W1 H1 t h1 x1 w1 s1 p1 => ?_
  cases t with
  | true => exact iteT (PostR.here w1 p1)
  | false => exact iteF ⟨W1, h1, oA, ss, w1, s1, p1⟩
theorem imp_tnot {a : E} {Q : Bool → Hp → Prop} (t : tT A Wx (.not a) σ H Q) : tNot (tT A Wx a) σ H Q := by
  obtain ⟨W, h, oA, ss, w, s, p⟩ := t
  simp only [evE] at p
  refine ⟨W, h, oA, ss, w, s, ?_⟩
  cases q : evE A.G a ss h with
  | ok r h1 =>
    rw [q] at p
    simp only [O.bind_ok] at p ⊢
    unfold blE at p ⊢
    split at p
    · exact fun W' H' x w' => p W' H' x w'
    · exact False.elim p
  | ex c h1 => rw [q] at p; exact p
  | no => rw [q] at p; exact p
theorem imp_ttest {e : E} {t' : TE} {Q : Bool → Hp → Prop} (i : ∀ σ H Q, tE A Wx e σ H Q → t' σ H Q) (t : tT A Wx e σ H Q) : tTest t' σ H Q := i σ H _ (imp_tB t)
theorem snd_plain {py : Expr} {e : E} (p : PE X py (tE A Wx e)) (hb : isBool py = false) (he : ∀ whole, isTrue py X.env whole = (do let v ← whole; standAt py.pos; holding [v] (truthy v))) : Snd A Wx X py e :=
  ⟨p, fun z => (by rw [hb] at z; cases z), fun _ => PT.mono (pt_val p he) fun _ _ _ t => imp_tB t⟩
theorem CtxG.rm (c : CtxG A k Wx fnB sc N X) : Room k X.A := c.room.mono (Nat.le_succ _)
theorem units_of (c : CtxG A k Wx fnB sc N X) : X.A.units + 65 < cLine := by have := c.room.un; omega
theorem free_of (S : StatOk A k) (c : CtxG A k Wx fnB sc N X) {x : Str} (h : x ∈ bnames) : X.mg x = none := by rw [c.mg]; exact S.free x h
theorem rel_scope {scope : Scope} (c : CtxG A k Wx fnB sc N X) : relabel scope X.env = relB scope sc := by
  unfold relabel relB Env.kindOf
  rw [c.sc]
theorem ctx_blk {scope : Scope} {s : Shared} {H : Hp} {C : Addr} {cl : List (Str × Addr)} {fp : List Addr} (c : CtxG A k Wx fnB sc N X) : CtxG A k W0 (fun x => scope.names.lookup x == some .cell) (relB scope sc) N (X.blk s H scope (compEnvC scope cl C X.env) fp) where
  prog := c.prog
  w := c.w
  K := c.K
  mg := c.mg
  base := c.base
  sc := rel_scope c
  fn := rfl
  nN := c.nN
  nd := c.nd
  calm := c.calm
  room := c.room
  tk := takes0
/-! ### targets -/
theorem assignEach_star {env : Env} : ∀ {es : List Expr}, es.all notStar = true → (assignEach es env).findIdx? (·.1) = none ∧ (assignEach es env).length = es.length
  | [], _ => ⟨rfl, rfl⟩
  | e :: es, h => by
    simp only [List.all_cons, Bool.and_eq_true] at h
    obtain ⟨h1, h2⟩ := assignEach_star (env := env) h.2
    have e1 : assignEach (e :: es) env = (false, assign e env) :: assignEach es env := by
      have := h.1
      cases e <;> first | rfl | cases this
    rw [e1]
    refine ⟨?_, by simp [h2]⟩
    rw [List.findIdx?_cons]
    simp [h1]
theorem chkGs_star : ∀ {ts : List Tg} {es : List Expr}, chkGs N fnB sc ts es = true → es.all notStar = true ∧ es.length = ts.length
  | [], [], _ => ⟨rfl, rfl⟩
  | [], _ :: _, h => by simp [chkGs] at h
  | _ :: _, [], h => by simp [chkGs] at h
  | t :: ts, e :: es, h => by
    simp only [chkGs, Bool.and_eq_true] at h
    obtain ⟨h1, h2⟩ := chkGs_star h.2
    exact ⟨by simp [h.1.2, h1], by simp [h2]⟩
mutual
theorem snG (c : CtxG A k Wx fnB sc N X) : ∀ (t : Tg) (py : Expr), chkG N fnB sc t py = true → PG X py (gTg A.K t)
  | .n j, py, h => by
    unfold chkG at h
    split at h
    · rename_i x _
      simp only [Bool.and_eq_true, Bool.or_eq_true, beq_iff_eq] at h
      rw [gTg]
      refine pg_name (i := j) (by rw [c.nN]; exact c.nd) (by rw [c.nN]; exact h.1.1) (by rw [c.sc]; exact loc_of h.1.2) ?_
      rw [c.fn, c.sc]
      exact h.2
    · cases h
  | .t ts, py, h => by
    unfold chkG at h
    split at h
    · rename_i es _ _
      obtain ⟨h1, h2⟩ := chkGs_star h
      obtain ⟨h3, h4⟩ := assignEach_star (env := X.env) h1
      rw [gTg, ← c.K]
      refine pg_tup c.calm ?_ (by rw [h4, h2]) h3
      rw [c.K]
      exact snGs c ts es h
    · cases h
theorem snGs (c : CtxG A k Wx fnB sc N X) : ∀ (ts : List Tg) (es : List Expr), chkGs N fnB sc ts es = true → PGs X es (gTgs A.K ts)
  | [], [], _ => by rw [gTgs]; exact pgs_nil
  | [], _ :: _, h => by simp [chkGs] at h
  | _ :: _, [], h => by simp [chkGs] at h
  | t :: ts, e :: es, h => by
    simp only [chkGs, Bool.and_eq_true] at h
    rw [gTgs]
    refine pgs_cons (snG c t e h.1.1) (snGs c ts es h.2) ?_
    have := h.1.2
    cases e <;> first | rfl | cases this
end
end
end GV
set_option Elab.async false
set_option linter.all false
set_option maxRecDepth 100000
set_option maxHeartbeats 4000000
/-! GV14: the expressions run as the evaluator says: the theorem. -/
namespace GV
open PySem L2
section
variable {A : Stat} {k : Nat}
theorem bop_of {o : BOp} {op : Operator} (h : bopB o op = true) : op = o.py := by
  cases o <;> cases op <;> first | rfl | cases h
theorem cop_of {o : COp} {op : CmpOp} (h : copB o op = true) : op = o.py := by
  cases o <;> cases op <;> first | rfl | cases h
theorem marks_of {e : Expr} {op : CmpOp} (h : notSet e = true) : behindInMarks op e = false := by
  cases e <;> first | rfl | cases h
theorem folded_of {e : Expr} {env : Env} (h : notSet e = true) : ∀ x, foldedSetIterable e env x = pure x := by
  intro x
  cases e <;> first | rfl | cases h
theorem plainIx_of {e : Expr} (h : notSlice e = true) : PlainIx e := by
  intro o i
  cases e <;> first | rfl | cases h
theorem bi_boot (f : Bi) : (∃ id, f.val = .builtin id ∧ bootBuiltins f.nm = some (.builtin id)) ∨ ∃ T, f.val = .type T ∧ bootBuiltins f.nm = some (.type T) := by
  cases f with
  | len => exact .inl ⟨_, rfl, by decide +kernel⟩
  | sum => exact .inl ⟨_, rfl, by decide +kernel⟩
  | all => exact .inl ⟨_, rfl, by decide +kernel⟩
  | any => exact .inl ⟨_, rfl, by decide +kernel⟩
  | min => exact .inl ⟨_, rfl, by decide +kernel⟩
  | max => exact .inl ⟨_, rfl, by decide +kernel⟩
  | sorted => exact .inl ⟨_, rfl, by decide +kernel⟩
  | tuple => exact .inr ⟨_, rfl, by decide +kernel⟩
  | list => exact .inr ⟨_, rfl, by decide +kernel⟩
  | str => exact .inr ⟨_, rfl, by decide +kernel⟩
  | int => exact .inr ⟨_, rfl, by decide +kernel⟩
theorem bi_nm (f : Bi) : f.nm ∈ bnames ∧ f.nm ≠ "__name__" ∧ (f.nm == ("__debug__" : Str)) = false := by
  cases f <;> exact ⟨by decide +kernel, by decide +kernel, by decide +kernel⟩
theorem ty_boot (t : Ty) : bootBuiltins (Str.ofString t.nm) = some (.type t.nm) ∧ (Str.ofString t.nm) ∈ bnames ∧ (Str.ofString t.nm) ≠ "__name__" ∧ ((Str.ofString t.nm) == ("__debug__" : Str)) = false := by
  cases t <;> exact ⟨by decide +kernel, by decide +kernel, by decide +kernel, by decide +kernel⟩
theorem own_map (N : List Str) (own : List Nat) : (own.map fun i => (N.getD i "", i)).map (·.2) = own := by
  induction own with
  | nil => rfl
  | cons a l ih => exact congrArg (a :: ·) ih
theorem pts_of {Wx : WX} {X : Cx} {ifs : List E} {xs : List Expr} (h1 : ifs.length ≤ 1) (h0 : ifs = [] → xs = []) (h2 : ∀ e, ifs = [e] → ∃ x, xs = [x] ∧ PT X x (tT A Wx e)) : PTs X xs (tTs A Wx ifs) := by
  cases ifs with
  | nil =>
    rw [h0 rfl]
    refine ⟨fun pins s σ H Q I z => pts_nil.run pins s σ H Q I ?_⟩
    obtain ⟨W, h, oA, ss, w, s', p⟩ := z
    exact PostR.here (a := true) w p
  | cons e r =>
    cases r with
    | nil =>
      obtain ⟨x, rfl, p⟩ := h2 e rfl
      refine ⟨fun pins s σ H Q I z => (pts_one p).run pins s σ H Q I ?_⟩
      obtain ⟨W, h, oA, ss, w, s', p⟩ := z
      exact ⟨W, h, oA, ss, w, s', p⟩
    | cons _ _ => simp at h1
end
end GV
set_option Elab.async false
set_option linter.all false
set_option maxRecDepth 100000
set_option maxHeartbeats 4000000
/-! GV14: the theorem. -/
namespace GV
open PySem L2
section
variable {A : Stat} {k : Nat}
mutual
theorem snE (S : StatOk A k) : ∀ (e : E) {Wx : WX} {fnB : Str → Bool} {sc : Scope} {N : List Str} {X : Cx} (py : Expr), CtxG A k Wx fnB sc N X → chkE A.T N e sc py = true → Snd A Wx X py e
  | .non, Wx, fnB, sc, N, X, py, c, h => by
    unfold chkE at h
    split at h
    · exact snd_plain (PE.mono pe_non fun _ _ _ t => imp_non t) rfl fun _ => rfl
    · cases h
  | .bl b, Wx, fnB, sc, N, X, py, c, h => by
    unfold chkE at h
    split at h
    · have e := eq_of_beq h
      subst e
      exact snd_plain (PE.mono pe_bl fun _ _ _ t => imp_bl t) rfl fun _ => rfl
    · cases h
  | .int b, Wx, fnB, sc, N, X, py, c, h => by
    unfold chkE at h
    split at h
    · have e := eq_of_beq h
      subst e
      exact snd_plain (PE.mono pe_int fun _ _ _ t => imp_int t) rfl fun _ => rfl
    · cases h
  | .str b, Wx, fnB, sc, N, X, py, c, h => by
    unfold chkE at h
    split at h
    · have e := eq_of_beq h
      subst e
      exact snd_plain (PE.mono pe_str fun _ _ _ t => imp_str t) rfl fun _ => rfl
    · cases h
  | .v j, Wx, fnB, sc, N, X, py, c, h => by
    unfold chkE at h
    split at h
    · simp only [Bool.and_eq_true, beq_iff_eq] at h
      obtain ⟨n1, n2, n3⟩ := nm_of h.2
      exact snd_plain (PE.mono (pe_var (i := j) (by rw [c.nN]; exact h.1.1) (by rw [c.sc]; exact vis_of h.1.2) n1 n2) fun _ _ _ t => imp_var t) rfl fun _ => rfl
    · cases h
  | .g j, Wx, fnB, sc, N, X, py, c, h => by
    unfold chkE at h
    split at h
    · simp only [Bool.and_eq_true, beq_iff_eq] at h
      obtain ⟨n1, n2, n3⟩ := nm_of h.2
      obtain ⟨v, u, e1, e2, e3⟩ := S.cst j _ h.1.1
      exact snd_plain (PE.mono (pe_glob (gl_of c h.1.2) (by rw [c.mg]; exact e1) e2 n1) fun _ _ _ t => imp_glob (fun d W H z => e3 d W H z) t) rfl fun _ => rfl
    · cases h
  | .bin o a b, Wx, fnB, sc, N, X, py, c, h => by
    unfold chkE at h
    split at h
    · simp only [Bool.and_eq_true] at h
      have e := bop_of h.1.1
      subst e
      have ho := op_bin (X := X) o
      rw [c.K] at ho
      exact snd_plain (PE.mono (pe_op ho (snE S a _ c h.1.2).pe (snE S b _ c h.2).pe) fun _ _ _ t => imp_bin t) rfl fun _ => rfl
    · cases h
  | .srep a b, Wx, fnB, sc, N, X, py, c, h => by
    unfold chkE at h
    split at h
    · simp only [Bool.and_eq_true] at h
      have e := bop_of h.1.1
      subst e
      exact snd_plain (PE.mono (pe_op (op_mulS (X := X)) (snE S a _ c h.1.2).pe (snE S b _ c h.2).pe) fun _ _ _ t => imp_srep t) rfl fun _ => rfl
    · cases h
  | .neg a, Wx, fnB, sc, N, X, py, c, h => by
    unfold chkE at h
    split at h
    · exact snd_plain (PE.mono (pe_un un_neg (snE S a _ c h).pe) fun _ _ _ t => imp_neg t) rfl fun _ => rfl
    · cases h
  | .cmp o a b, Wx, fnB, sc, N, X, py, c, h => by
    unfold chkE at h
    split at h
    · simp only [Bool.and_eq_true] at h
      have e := cop_of h.1.1.1
      subst e
      have ho := op_cmp (X := X) (units_of c) o
      rw [c.K] at ho
      refine ⟨PE.mono (pe_cmpR ho (snE S a _ c h.1.2).pe (snE S b _ c h.2).pe (marks_of h.1.1.2)) fun _ _ _ t => imp_cmp t, fun z => (by cases z), fun _ => ?_⟩
      exact PT.mono (pt_cmpR ho (snE S a _ c h.1.2).pe (snE S b _ c h.2).pe (marks_of h.1.1.2)) fun _ _ _ t => imp_ttest (fun _ _ _ z => imp_cmp z) t
    · cases h
  | .chn o o' a b d, Wx, fnB, sc, N, X, py, c, h => by
    unfold chkE at h
    split at h
    · simp only [Bool.and_eq_true] at h
      obtain ⟨⟨⟨⟨⟨h1, h2⟩, h3⟩, h4⟩, h5⟩, h6⟩ := h
      have e := cop_of h1
      subst e
      have e := cop_of h2
      subst e
      have ho := op_cmp (X := X) (units_of c) o
      have ho' := op_cmp (X := X) (units_of c) o'
      rw [c.K] at ho ho'
      refine ⟨PE.mono (pe_chain ho ho' (snE S a _ c h4).pe (snE S b _ c h5).pe (snE S d _ c h6).pe (marks_of h3)) fun _ _ _ t => imp_chn t, fun z => (by cases z), fun _ => ?_⟩
      exact PT.mono (pt_chain ho ho' (snE S a _ c h4).pe (snE S b _ c h5).pe (snE S d _ c h6).pe (marks_of h3)) fun _ _ _ t => imp_ttest (fun _ _ _ z => imp_chn z) t
    · cases h
  | .and a b, Wx, fnB, sc, N, X, py, c, h => by
    unfold chkE at h
    split at h
    · simp only [Bool.and_eq_true] at h
      obtain ⟨⟨⟨h1, h2⟩, h3⟩, h4⟩ := h
      have sa := snE S a _ c h3
      have sb := snE S b _ c h4
      rename_i x y pos
      have pw : PW X (.BoolOp .And [x, y] pos) (tAnd (tT A Wx a) (tT A Wx b)) := pw_and (sa.pt h1) (pw_and1 (sb.pt h2))
      refine ⟨PE.mono (pe_and sa.pe (pe_one sb.pe)) fun _ _ _ t => imp_and t, fun _ => ?_, fun _ => ?_⟩
      · exact ⟨fun wh pins s σ H Q I z => pw.run wh pins s σ H Q I (imp_tand z)⟩
      · exact PT.mono pw.pt fun _ _ _ t => imp_tand t
    · simp only [Bool.and_eq_true] at h
      obtain ⟨⟨h1, h3⟩, h4⟩ := h
      have sa := snE S a _ c h3
      have sb := snE S b _ c h4
      have pw : PW X _ (tAnd (tT A Wx a) (tT A Wx b)) := pw_and (sa.pt h1) (sb.pw rfl)
      refine ⟨PE.mono (pe_and sa.pe sb.pe) fun _ _ _ t => imp_and t, fun _ => ?_, fun _ => ?_⟩
      · exact ⟨fun wh pins s σ H Q I z => pw.run wh pins s σ H Q I (imp_tand z)⟩
      · exact PT.mono pw.pt fun _ _ _ t => imp_tand t
    · cases h
  | .or a b, Wx, fnB, sc, N, X, py, c, h => by
    unfold chkE at h
    split at h
    · simp only [Bool.and_eq_true] at h
      obtain ⟨⟨⟨h1, h2⟩, h3⟩, h4⟩ := h
      have sa := snE S a _ c h3
      have sb := snE S b _ c h4
      rename_i x y pos
      have pw : PW X (.BoolOp .Or [x, y] pos) (tOr (tT A Wx a) (tT A Wx b)) := pw_or (sa.pt h1) (pw_or1 (sb.pt h2))
      refine ⟨PE.mono (pe_or sa.pe (pe_one sb.pe)) fun _ _ _ t => imp_or t, fun _ => ?_, fun _ => ?_⟩
      · exact ⟨fun wh pins s σ H Q I z => pw.run wh pins s σ H Q I (imp_tor z)⟩
      · exact PT.mono pw.pt fun _ _ _ t => imp_tor t
    · simp only [Bool.and_eq_true] at h
      obtain ⟨⟨h1, h3⟩, h4⟩ := h
      have sa := snE S a _ c h3
      have sb := snE S b _ c h4
      have pw : PW X _ (tOr (tT A Wx a) (tT A Wx b)) := pw_or (sa.pt h1) (sb.pw rfl)
      refine ⟨PE.mono (pe_or sa.pe sb.pe) fun _ _ _ t => imp_or t, fun _ => ?_, fun _ => ?_⟩
      · exact ⟨fun wh pins s σ H Q I z => pw.run wh pins s σ H Q I (imp_tor z)⟩
      · exact PT.mono pw.pt fun _ _ _ t => imp_tor t
    · cases h
  | .not a, Wx, fnB, sc, N, X, py, c, h => by
    unfold chkE at h
    split at h
    · simp only [Bool.and_eq_true] at h
      have sa := snE S a _ c h.2
      exact ⟨PE.mono (pe_not sa.pe) fun _ _ _ t => imp_not t, fun z => (by cases z), fun _ => PT.mono (pt_not (sa.pt h.1)) fun _ _ _ t => imp_tnot t⟩
    · cases h
  | .ite t a b, Wx, fnB, sc, N, X, py, c, h => by
    unfold chkE at h
    split at h
    · simp only [Bool.and_eq_true] at h
      obtain ⟨⟨⟨h1, h2⟩, h3⟩, h4⟩ := h
      exact ⟨PE.mono (pe_ifExp ((snE S t _ c h2).pt h1) (snE S a _ c h3).pe (snE S b _ c h4).pe) fun _ _ _ t => imp_ite t, fun z => (by cases z), fun z => (by cases z)⟩
    · cases h
  | .tup es, Wx, fnB, sc, N, X, py, c, h => by
    unfold chkE at h
    split at h
    · exact snd_plain (PE.mono (pe_tup (snL S es _ c h)) fun _ _ _ t => imp_tup t) rfl fun _ => rfl
    · cases h
  | .lst es, Wx, fnB, sc, N, X, py, c, h => by
    unfold chkE at h
    split at h
    · exact snd_plain (PE.mono (pe_lst (snL S es _ c h)) fun _ _ _ t => imp_lst t) rfl fun _ => rfl
    · cases h
  | .ix a i, Wx, fnB, sc, N, X, py, c, h => by
    unfold chkE at h
    split at h
    · simp only [Bool.and_eq_true] at h
      have hr := ix_seq (X := X)
      rw [c.K] at hr
      exact snd_plain (PE.mono (pe_ix hr (snE S a _ c h.1.2).pe (snE S i _ c h.2).pe (plainIx_of h.1.1)) fun _ _ _ t => imp_ix t) rfl fun _ => rfl
    · cases h
  | .sl a lo hi, Wx, fnB, sc, N, X, py, c, h => by
    unfold chkE at h
    split at h
    · simp only [Bool.and_eq_true] at h
      have hr : SlR X (rSlAll X.K) := sl_list.or (sl_tupA.or C8.sl_txt)
      rw [c.K] at hr
      exact snd_plain (PE.mono (pe_slice hr (snE S a _ c h.1.1).pe (snO S lo _ c h.1.2) (snO S hi _ c h.2)) fun _ _ _ t => imp_sl t) rfl fun _ => rfl
    · cases h
  | .rgl b a, Wx, fnB, sc, N, X, py, c, h => by
    unfold chkE at h
    split at h
    · simp only [Bool.and_eq_true, beq_iff_eq] at h
      obtain ⟨⟨⟨⟨⟨h1, h2⟩, h3⟩, h4⟩, h5⟩, h6⟩ := h
      subst h1
      subst h2
      have fr := free_of S c (x := "range") (by decide +kernel)
      cases b with
      | true => exact snd_plain (PE.mono (pe_tupRg c.calm (gl_of c h3) (free_of S c (x := "tuple") (by decide +kernel)) (prg_1 (gl_of c h4) fr (snE S a _ c h6).pe (star_of h5))) fun _ _ _ t => imp_rgl t) rfl fun _ => rfl
      | false => exact snd_plain (PE.mono (pe_listRg c.calm (gl_of c h3) (free_of S c (x := "list") (by decide +kernel)) (prg_1 (gl_of c h4) fr (snE S a _ c h6).pe (star_of h5))) fun _ _ _ t => imp_rgl t) rfl fun _ => rfl
    · cases h
  | .rev a lo, Wx, fnB, sc, N, X, py, c, h => by
    unfold chkE at h
    split at h
    · rename_i x l _ _ _ _ _
      simp only [Bool.and_eq_true] at h
      have hlo : PO X l (tLo lo) := by
        have h1 := h.1
        cases lo with
        | none =>
          cases l with
          | none => exact po_none
          | some _ => cases h1
        | some k =>
          cases l with
          | none => cases h1
          | some z =>
            split at h1
            · rename_i heq1 heq2
              cases heq1
            · rename_i heq1 heq2
              cases heq1
              cases heq2
              have e := eq_of_beq h1
              subst e
              exact po_some pe_int
            · cases h1
      have hp := (snE S a _ c h.2).pe
      refine snd_plain (PE.mono (t := tRevA A.K lo (tE A Wx a)) ?_ fun _ _ _ t => imp_rev t) rfl fun _ => rfl
      rw [← c.K]
      exact pe_revA lo hlo hp
    · cases h
  | .call f es, Wx, fnB, sc, N, X, py, c, h => by
    unfold chkE at h
    split at h
    · simp only [Bool.and_eq_true, beq_iff_eq] at h
      obtain ⟨⟨⟨h1, h2⟩, h3⟩, h4⟩ := h
      obtain ⟨n1, n2, n3⟩ := nm_of h3
      obtain ⟨ad, fd, ps, e1, e2, e3, F⟩ := S.fns f _ h1
      have st := chkL_star h4
      simp only [List.all_cons, Bool.and_eq_true] at st
      have F' : FnOk X.prog X.w X.K X.mg X.base (L2.CX X.prog X.w) k ad fd ps (spF A f) := by rw [c.prog, c.w, c.K, c.mg, c.base]; exact F
      exact snd_plain (PE.mono (pe_callS F' c.rm (gl_of c h2) (by rw [c.mg]; exact e1) (by rw [c.K]; exact e2) (by rw [c.K]; exact e3) (fun σ => passAt c.tk σ) (snL S es _ c h4) n1 (star_of st.1) (stars_of st.2)) fun _ _ _ t => imp_call t) rfl fun _ => rfl
    · cases h
  | .bi f es, Wx, fnB, sc, N, X, py, c, h => by
    unfold chkE at h
    split at h
    · simp only [Bool.and_eq_true, beq_iff_eq] at h
      obtain ⟨⟨h1, h2⟩, h4⟩ := h
      subst h1
      obtain ⟨n1, n2, n3⟩ := bi_nm f
      have st := chkL_star h4
      simp only [List.all_cons, Bool.and_eq_true] at st
      have hc := call_bi (X := X) c.calm (units_of c) f
      rw [c.K] at hc
      rcases bi_boot f with ⟨id, e1, e2⟩ | ⟨T, e1, e2⟩
      · rw [e1] at hc
        exact snd_plain (PE.mono (pe_callB hc (gl_of c h2) (free_of S c n1) e2 (snL S es _ c h4) n2 n3 (star_of st.1) (stars_of st.2)) fun _ _ _ t => imp_bi t) rfl fun _ => rfl
      · rw [e1] at hc
        exact snd_plain (PE.mono (pe_callTy hc (gl_of c h2) (free_of S c n1) e2 (snL S es _ c h4) n2 n3 (star_of st.1) (stars_of st.2)) fun _ _ _ t => imp_bi t) rfl fun _ => rfl
    · cases h
  | .isi a ty, Wx, fnB, sc, N, X, py, c, h => by
    unfold chkE at h
    split at h
    · simp only [Bool.and_eq_true, beq_iff_eq] at h
      obtain ⟨⟨⟨⟨⟨h1, h2⟩, h3⟩, h4⟩, h5⟩, h6⟩ := h
      subst h1
      subst h3
      obtain ⟨b1, b2, b3, b4⟩ := ty_boot ty
      have hc := call_isi (X := X)
      rw [c.K] at hc
      have pc : ∀ p, PE X (.Name (Str.ofString ty.nm) p) (tC (.ty ty.nm)) := fun p => pe_bltn (gl_of c h4) (free_of S c b2) b1 rfl b3 b4
      exact snd_plain (PE.mono (pe_callB hc (gl_of c h2) (free_of S c (by decide +kernel)) PyProof.Rows.boot_isinstance (pa_cons (snE S a _ c h6).pe (pa_cons (pc _) pa_nil) (star_of h5)) (by decide +kernel) (by decide +kernel) (star_of h5) rfl) fun _ _ _ t => imp_isi t) rfl fun _ => rfl
    · cases h
  | .comp kk src t own ifs e, Wx, fnB, sc, N, X, py, c, h => by
    unfold chkE at h
    split at h
    · rename_i elt tg iter ifs' scope pos
      simp only [Bool.and_eq_true, decide_eq_true_eq] at h
      obtain ⟨⟨⟨⟨⟨⟨⟨h1, h2⟩, h3⟩, h4⟩, h5⟩, h6⟩, h7⟩, h8⟩ := h
      obtain ⟨i1, i2, i3⟩ := snI S kk src tg iter c h3
      have bo := blkOk_by h1
      rw [← c.nN, ← c.sc] at bo
      have hN : X.N.Nodup := by rw [c.nN]; exact c.nd
      have q := pe_lc (own := own.map fun i => (X.N.getD i "", i)) (pos := pos) c.calm hN i1 bo
        (fun s H C cl fp => snG (ctx_blk (scope := scope) (s := s) (H := H) (C := C) (cl := cl) (fp := fp) c) t tg h4)
        (fun s H C cl fp => snTs S ifs ifs' (ctx_blk (scope := scope) (s := s) (H := H) (C := C) (cl := cl) (fp := fp) c) h5 h6 h7)
        (fun s H C cl fp => (snE S e _ (ctx_blk (scope := scope) (s := s) (H := H) (C := C) (cl := cl) (fp := fp) c) h8).pe) i3
      rw [own_map] at q
      refine snd_plain (PE.mono q fun _ _ _ z => imp_comp i2 (fun j hj => ?_) z) rfl fun _ => rfl
      have := List.all_eq_true.mp h2 j hj
      simpa using this
    · cases h
  | .make cc f es, Wx, fnB, sc, N, X, py, c, h => by
    unfold chkE at h
    split at h
    · simp only [Bool.and_eq_true, beq_iff_eq] at h
      obtain ⟨⟨⟨h1, h2⟩, h3⟩, h4⟩ := h
      obtain ⟨n1, n2, n3⟩ := nm_of h3
      obtain ⟨C, ad, fd, ps, e1, e2, e3, e4, F⟩ := S.mkr cc f _ h1
      have st := chkL_star h4
      simp only [List.all_cons, Bool.and_eq_true] at st
      have F' : FnOk X.prog X.w X.K X.mg X.base (L2.CX X.prog X.w) k ad fd ps (spF A f) := by rw [c.prog, c.w, c.K, c.mg, c.base]; exact F
      exact snd_plain (PE.mono (pe_makeX (by rw [c.K]; exact e3) F' c.room (gl_of c h2) (by rw [c.mg]; exact e1) (by rw [c.K]; exact e4) (fun σ => passAt c.tk σ) (snL S es _ c h4) n1 (star_of st.1) (stars_of st.2)) fun _ _ _ t => imp_make e2 t) rfl fun _ => rfl
    · cases h
  | .meth j cc m f es, Wx, fnB, sc, N, X, py, c, h => by
    unfold chkE at h
    split at h
    · rename_i x p2 m' apos ys cpos
      simp only [Bool.and_eq_true, beq_iff_eq, decide_eq_true_eq] at h
      obtain ⟨⟨⟨⟨⟨⟨⟨h1, rfl⟩, h3⟩, h4⟩, h5⟩, h6⟩, h7⟩, h8⟩ := h
      obtain ⟨n1, n2, n3⟩ := nm_of h5
      obtain ⟨C, ad, fd, ps, e1, e2, e3, e4, F⟩ := S.mts f cc _ h1
      have st := chkL_star h8
      have F' : FnOk X.prog X.w X.K X.mg X.base (L2.CX X.prog X.w) k ad fd ps (spF A f) := by rw [c.prog, c.w, c.K, c.mg, c.base]; exact F
      have pv := pe_var (X := X) (i := j) (pos := p2) (by rw [c.nN]; exact h3) (by rw [c.sc]; exact vis_of h4) n1 n2
      have hfew : methodCallForm (ys.length + ([] : List Keyword).length) (backTo cpos (starEach ys X.env)) (backToKw cpos (keywordEach [] X.env)) = true := by
        have e1 := stars_of (env := X.env) (pos := cpos) st
        have e2 : (backTo cpos (starEach ys X.env)).all (fun x => !x.1) = true := by
          rw [List.all_eq_true]
          intro x hx
          have := List.any_eq_false.mp e1 x hx
          simpa using this
        have e3 : (keywordEach [] X.env) = [] := rfl
        have e4 : backToKw cpos [] = [] := rfl
        unfold methodCallForm
        rw [e2, e3, e4]
        simp
        omega
      have tr := meth_tree (m := m) (apos := apos) (pos := cpos) (x2 := x) (p2 := p2) (args := ys) (env := X.env) hfew (by simpa using h6)
      cases ys with
      | nil =>
        have he : es = [] := by
          cases es with
          | nil => rfl
          | cons _ _ => simp [chkL] at h8
        subst he
        refine snd_plain (PE.mono (pe_methX0 pv (by rw [c.K]; exact e2) (by rw [c.K]; exact e3) F' c.rm (by rw [c.K]; exact e4) (fun σ => passAt c.tk σ) tr) fun _ _ _ t => ?_) rfl fun _ => rfl
        obtain ⟨v, z1, a, dx, fs, z2, z3, z4, z5⟩ := imp_meth e1 t
        exact ⟨v, z1, a, dx, fs, z2, z3, z4, imp_anil z5⟩
      | cons y ys' =>
        simp only [List.all_cons, Bool.and_eq_true] at st
        exact snd_plain (PE.mono (pe_methX pv (by rw [c.K]; exact e2) (by rw [c.K]; exact e3) F' c.rm (by rw [c.K]; exact e4) (fun σ => passAt c.tk σ) (snL S es _ c h8) (star_of st.1) (stars_of st.2) tr) fun _ _ _ t => imp_meth e1 t) rfl fun _ => rfl
    · cases h
  | .mt mm a es, Wx, fnB, sc, N, X, py, c, h => by
    unfold chkE at h
    split at h
    · rename_i o m' apos y cpos
      simp only [Bool.and_eq_true, beq_iff_eq, decide_eq_true_eq] at h
      obtain ⟨⟨⟨⟨⟨h1, rfl⟩, h3⟩, h4⟩, h5⟩, h6⟩ := h
      have po := (snE S a _ c h5).pe
      obtain ⟨b, he, pb, hst⟩ := snL1 S es y c h6 h4
      subst he
      · 
        refine snd_plain (PE.mono (t := tM1 _ (tE A Wx a) (tE A Wx b)) ?_ fun _ _ _ t => imp_join t) rfl fun _ => rfl
        rw [← c.K]
        cases o with
        | Name x p => exact pe_join po pb (star_of hst) rfl (by simpa using h3)
        | Constant x k p => exact pe_join po pb (star_of hst) rfl (by simpa using h3)
        | _ => cases h1
    · rename_i o m' apos y cpos
      simp only [Bool.and_eq_true, beq_iff_eq, decide_eq_true_eq] at h
      obtain ⟨⟨⟨⟨⟨h1, rfl⟩, h3⟩, h4⟩, h5⟩, h6⟩ := h
      have po := (snE S a _ c h5).pe
      obtain ⟨b, he, pb, hst⟩ := snL1 S es y c h6 h4
      subst he
      · 
        refine snd_plain (PE.mono (t := tM1 _ (tE A Wx a) (tE A Wx b)) ?_ fun _ _ _ t => imp_split t) rfl fun _ => rfl
        cases o with
        | Name x p => exact pe_split po pb (star_of hst) rfl (by simpa using h3)
        | Constant x k p => exact pe_split po pb (star_of hst) rfl (by simpa using h3)
        | _ => cases h1
    · rename_i o m' apos cpos
      simp only [Bool.and_eq_true, beq_iff_eq, decide_eq_true_eq] at h
      obtain ⟨⟨⟨⟨h1, rfl⟩, h3⟩, h4⟩, h5⟩ := h
      have po := (snE S a _ c h5).pe
      match es, h4 with
      | [], _ =>
        refine snd_plain (PE.mono (t := tM0 _ (tE A Wx a)) ?_ fun _ _ _ t => imp_upper t) rfl fun _ => rfl
        cases o with
        | Name x p => exact pe_upper po rfl (by simpa using h3)
        | Constant x k p => exact pe_upper po rfl (by simpa using h3)
        | _ => cases h1
    · rename_i o m' apos y cpos
      simp only [Bool.and_eq_true, beq_iff_eq, decide_eq_true_eq] at h
      obtain ⟨⟨⟨⟨⟨h1, rfl⟩, h3⟩, h4⟩, h5⟩, h6⟩ := h
      have pa := snL S es [y] c h6
      match es, h4, h6, pa with
      | [b], _, h6, pa =>
        have st := chkL_star h6
        simp only [List.all_cons, Bool.and_eq_true] at st
        refine snd_plain (PE.mono (t := tBM A.K "list" (rIndexD A.K) (tE A Wx a) (tA A Wx [b])) ?_ fun _ _ _ t => imp_index t) rfl fun _ => rfl
        have po := (snE S a _ c h5).pe
        rw [← c.K]
        cases o with
        | Name x p => exact pe_bm PySem.F.plainAttrs_list PySem.F.slot_list_index PySem.F.type_list_index (mt_indexD (units_of c)) po pa rfl (by rw [star_of st.1]; rfl) (by simpa using h3) (star_of st.1) rfl
        | _ => cases h1
    · cases h
  | .fld j f, Wx, fnB, sc, N, X, py, c, h => by
    unfold chkE at h
    split at h
    · simp only [Bool.and_eq_true, beq_iff_eq, decide_eq_true_eq] at h
      obtain ⟨⟨⟨⟨rfl, h2⟩, h3⟩, h4⟩, h5⟩ := h
      obtain ⟨n1, n2, n3⟩ := nm_of h5
      have q := fun p1 p2 => pe_fld (X := X) (f := f) (pos := p1) (pe_var (i := j) (pos := p2) (by rw [c.nN]; exact h3) (by rw [c.sc]; exact vis_of h4) n1 n2) attr_name
      rw [c.K] at q
      exact snd_plain (PE.mono (q _ _) fun _ _ _ t => imp_fld (S.cls f h2) t) rfl fun _ => rfl
    · cases h
  | .fix j f i, Wx, fnB, sc, N, X, py, c, h => by
    unfold chkE at h
    split at h
    · simp only [Bool.and_eq_true, beq_iff_eq, decide_eq_true_eq] at h
      obtain ⟨⟨⟨⟨⟨⟨rfl, h2⟩, h3⟩, h4⟩, h5⟩, h6⟩, h7⟩ := h
      obtain ⟨n1, n2, n3⟩ := nm_of h5
      have q := fun p1 p2 => pe_fld (X := X) (f := f) (pos := p1) (pe_var (i := j) (pos := p2) (by rw [c.nN]; exact h3) (by rw [c.sc]; exact vis_of h4) n1 n2) attr_name
      have hr := ix_seq (X := X)
      rw [c.K] at hr q
      exact snd_plain (PE.mono (pe_ix hr (q _ _) (snE S i _ c h7).pe (plainIx_of h6)) fun _ _ _ t => imp_fix (S.cls f h2) t) rfl fun _ => rfl
    · cases h
  | .flen j f, Wx, fnB, sc, N, X, py, c, h => by
    unfold chkE at h
    split at h
    · simp only [Bool.and_eq_true, beq_iff_eq, decide_eq_true_eq] at h
      obtain ⟨⟨⟨⟨⟨⟨rfl, h0⟩, rfl⟩, h2⟩, h3⟩, h4⟩, h5⟩ := h
      obtain ⟨n1, n2, n3⟩ := nm_of h5
      have q := fun p1 p2 => pe_fld (X := X) (f := f) (pos := p1) (pe_var (i := j) (pos := p2) (by rw [c.nN]; exact h3) (by rw [c.sc]; exact vis_of h4) n1 n2) attr_name
      have hc := call_bi (X := X) c.calm (units_of c) .len
      rw [c.K] at hc q
      obtain ⟨b1, b2, b3⟩ := bi_nm .len
      rcases bi_boot .len with ⟨id, e1, e2⟩ | ⟨T, e1, e2⟩
      · rw [e1] at hc
        exact snd_plain (PE.mono (pe_callB hc (gl_of c h0) (free_of S c b1) e2 (pa_cons (q _ _) pa_nil rfl) b2 b3 rfl rfl) fun _ _ _ t => imp_flen (S.cls f h2) t) rfl fun _ => rfl
      · cases e1
    · cases h
  | .fcut _ _ _ _, _, _, _, _, _, _, _, h => by simp [chkE] at h
  | .dct0, Wx, fnB, sc, N, X, py, c, h => by
    unfold chkE at h
    split at h
    · have hr := fun pos => pe_dct0 (X := X) (pos := pos)
      rw [c.w, ← S.wd] at hr
      exact snd_plain (PE.mono (hr _) fun _ _ _ t => imp_dct0 t) rfl fun _ => rfl
    · cases h
  | .dct1 k v, Wx, fnB, sc, N, X, py, c, h => by
    unfold chkE at h
    split at h
    · simp only [Bool.and_eq_true] at h
      have hr := fun pos => pe_dct1 (X := X) (pos := pos) (units_of c) (snE S k _ c h.1).pe (snE S v _ c h.2).pe
      rw [c.w, ← S.wd, c.K] at hr
      exact snd_plain (PE.mono (hr _) fun _ _ _ t => imp_dct1 t) rfl fun _ => rfl
    · cases h
  | .dix j i, Wx, fnB, sc, N, X, py, c, h => by
    unfold chkE at h
    split at h
    · simp only [Bool.and_eq_true, beq_iff_eq] at h
      obtain ⟨⟨⟨⟨h1, h2⟩, h3⟩, h4⟩, h5⟩ := h
      obtain ⟨n1, n2, n3⟩ := nm_of h3
      have q := fun p2 => pe_var (X := X) (i := j) (pos := p2) (by rw [c.nN]; exact h1) (by rw [c.sc]; exact vis_of h2) n1 n2
      have hr := ix_dic (X := X) (units_of c)
      rw [c.w, ← S.wd, c.K] at hr
      exact snd_plain (PE.mono (pe_ix hr (q _) (snE S i _ c h5).pe (plainIx_of h4)) fun _ _ _ t => imp_dix t) rfl fun _ => rfl
    · cases h
  | .din b i j, Wx, fnB, sc, N, X, py, c, h => by
    unfold chkE at h
    split at h
    · simp only [Bool.and_eq_true, beq_iff_eq] at h
      obtain ⟨⟨⟨⟨h0, h1⟩, h2⟩, h3⟩, h5⟩ := h
      obtain ⟨n1, n2, n3⟩ := nm_of h3
      have q := fun p2 => pe_var (X := X) (i := j) (pos := p2) (by rw [c.nN]; exact h1) (by rw [c.sc]; exact vis_of h2) n1 n2
      have e := cop_of h0
      subst e
      cases b with
      | true =>
        have ho := op_din (X := X) (units_of c)
        rw [c.w, ← S.wd, c.K] at ho
        refine ⟨PE.mono (pe_cmpR ho (snE S i _ c h5).pe (q _) (marks_of rfl)) fun _ _ _ t => imp_din t, fun z => (by cases z), fun _ => ?_⟩
        exact PT.mono (pt_cmpR ho (snE S i _ c h5).pe (q _) (marks_of rfl)) fun _ _ _ t => imp_ttest (fun _ _ _ z => imp_din z) t
      | false =>
        have ho := op_dnin (X := X) (units_of c)
        rw [c.w, ← S.wd, c.K] at ho
        refine ⟨PE.mono (pe_cmpR ho (snE S i _ c h5).pe (q _) (marks_of rfl)) fun _ _ _ t => imp_din t, fun z => (by cases z), fun _ => ?_⟩
        exact PT.mono (pt_cmpR ho (snE S i _ c h5).pe (q _) (marks_of rfl)) fun _ _ _ t => imp_ttest (fun _ _ _ z => imp_din z) t
    · cases h
  | .dsrt j, Wx, fnB, sc, N, X, py, c, h => by
    unfold chkE at h
    split at h
    · simp only [Bool.and_eq_true, beq_iff_eq] at h
      obtain ⟨⟨⟨⟨rfl, h0⟩, h1⟩, h2⟩, h3⟩ := h
      obtain ⟨n1, n2, n3⟩ := nm_of h3
      have q := fun p2 => pe_var (X := X) (i := j) (pos := p2) (by rw [c.nN]; exact h1) (by rw [c.sc]; exact vis_of h2) n1 n2
      have hc := cr_sortDic (X := X) c.calm (units_of c)
      rw [c.w, ← S.wd, c.K] at hc
      obtain ⟨b1, b2, b3⟩ := bi_nm .sorted
      rcases bi_boot .sorted with ⟨id, e1, e2⟩ | ⟨T, e1, e2⟩
      · cases e1
        exact snd_plain (PE.mono (pe_callB hc (gl_of c h0) (free_of S c b1) e2 (pa_cons (q _) pa_nil rfl) b2 b3 rfl rfl) fun _ _ _ t => imp_dsrt t) rfl fun _ => rfl
      · cases e1
    · cases h
theorem snL (S : StatOk A k) : ∀ (es : List E) {Wx : WX} {fnB : Str → Bool} {sc : Scope} {N : List Str} {X : Cx} (xs : List Expr), CtxG A k Wx fnB sc N X → chkL A.T N es sc xs = true → PA X xs (tA A Wx es)
  | [], Wx, fnB, sc, N, X, [], c, h => PA.mono pa_nil fun _ _ _ t => imp_anil t
  | [], Wx, fnB, sc, N, X, _ :: _, c, h => by simp [chkL] at h
  | _ :: _, Wx, fnB, sc, N, X, [], c, h => by simp [chkL] at h
  | e :: es, Wx, fnB, sc, N, X, x :: xs, c, h => by
    simp only [chkL, Bool.and_eq_true] at h
    exact PA.mono (pa_cons (snE S e x c h.1.2).pe (snL S es xs c h.2) (star_of h.1.1)) fun _ _ _ t => imp_acons t
theorem snL1 (S : StatOk A k) : ∀ (es : List E) {Wx : WX} {fnB : Str → Bool} {sc : Scope} {N : List Str} {X : Cx} (y : Expr), CtxG A k Wx fnB sc N X → chkL A.T N es sc [y] = true → es.length = 1 → ∃ b, es = [b] ∧ PE X y (tE A Wx b) ∧ notStar y = true
  | [], Wx, fnB, sc, N, X, y, c, h, hl => by simp at hl
  | [e], Wx, fnB, sc, N, X, y, c, h, hl => by
    simp only [chkL, Bool.and_eq_true] at h
    exact ⟨e, rfl, (snE S e y c h.1.2).pe, h.1.1⟩
  | _ :: _ :: _, Wx, fnB, sc, N, X, y, c, h, hl => by simp at hl
theorem snTs (S : StatOk A k) : ∀ (es : List E) {Wx : WX} {fnB : Str → Bool} {sc : Scope} {N : List Str} {X : Cx} (xs : List Expr), CtxG A k Wx fnB sc N X → chkL A.T N es sc xs = true → es.length ≤ 1 → xs.all notIf = true → PTs X xs (tTs A Wx es)
  | [], Wx, fnB, sc, N, X, [], c, h, _, _ => pts_of (by simp) (fun _ => rfl) fun e z => (by cases z)
  | [], Wx, fnB, sc, N, X, _ :: _, c, h, _, _ => by simp [chkL] at h
  | _ :: _, Wx, fnB, sc, N, X, [], c, h, _, _ => by simp [chkL] at h
  | [e], Wx, fnB, sc, N, X, x :: xs, c, h, _, hi => by
    simp only [chkL, Bool.and_eq_true] at h
    have hx : xs = [] := by
      have := h.2
      cases xs with
      | nil => rfl
      | cons _ _ => simp at this
    subst hx
    have hi : notIf x = true := by simpa using hi
    exact pts_of (by simp) (fun z => (by cases z)) fun e' z => by
      cases z
      exact ⟨x, rfl, (snE S e x c h.1.2).pt hi⟩
  | _ :: _ :: _, Wx, fnB, sc, N, X, _ :: _, c, h, hl, _ => by simp at hl
theorem snO (S : StatOk A k) : ∀ (e : Option E) {Wx : WX} {fnB : Str → Bool} {sc : Scope} {N : List Str} {X : Cx} (x : Option Expr), CtxG A k Wx fnB sc N X → chkO A.T N e sc x = true → PO X x (tOo A Wx e)
  | none, Wx, fnB, sc, N, X, none, c, h => po_none
  | none, Wx, fnB, sc, N, X, some _, c, h => by simp [chkO] at h
  | some _, Wx, fnB, sc, N, X, none, c, h => by simp [chkO] at h
  | some e, Wx, fnB, sc, N, X, some x, c, h => by
    simp only [chkO] at h
    exact po_some (snE S e x c h).pe
theorem snI (S : StatOk A k) (kk : IK) : ∀ (src : List E) {Wx : WX} {fnB : Str → Bool} {sc : Scope} {N : List Str} {X : Cx} (tg py : Expr), CtxG A k Wx fnB sc N X → chkI A.T N kk src sc tg py = true →
    PI X tg py (iK A Wx kk src) ∧ srcB kk src = true ∧ ∀ x, foldedSetIterable py X.env x = pure x
  | [], Wx, fnB, sc, N, X, tg, py, c, h => by simp [chkI] at h
  | e :: es, Wx, fnB, sc, N, X, tg, py, c, h => by
    cases kk with
    | seq =>
      simp only [chkI, Bool.and_eq_true, List.isEmpty_iff] at h
      obtain ⟨⟨rfl, h2⟩, h3⟩ := h
      have q := pi_seq (tg := tg) (snE S e py c h3).pe
      rw [c.K] at q
      exact ⟨q, rfl, folded_of h2⟩
    | rng =>
      simp only [chkI] at h
      split at h
      · simp only [Bool.and_eq_true, beq_iff_eq, decide_eq_true_eq] at h
        obtain ⟨⟨⟨⟨⟨h1, h2⟩, h3⟩, h4⟩, h5⟩, h6⟩ := h
        subst h1
        have fr := free_of S c (x := "range") (by decide +kernel)
        have st := chkL_star h6
        cases es with
        | nil =>
          cases hx : (‹List Expr› : List Expr) with
          | nil =>
            subst hx
            exact ⟨pi_range1 (gl_of c h2) fr (PA.mono (pa_cons (snE S e _ c h5).pe (snL S [] [] c h6) (star_of h4)) fun _ _ _ t => imp_acons t) (star_of h4), rfl, fun _ => rfl⟩
          | cons _ _ => subst hx; simp [chkL] at h6
        | cons e2 es2 =>
          cases es2 with
          | nil =>
            cases hx : (‹List Expr› : List Expr) with
            | nil => subst hx; simp [chkL] at h6
            | cons y2 ys2 =>
              subst hx
              have h6' := h6
              simp only [chkL, Bool.and_eq_true] at h6'
              have hy : ys2 = [] := by
                have := h6'.2
                cases ys2 with
                | nil => rfl
                | cons _ _ => simp at this
              subst hy
              exact ⟨pi_range2 (gl_of c h2) fr (PA.mono (pa_cons (snE S e _ c h5).pe (snL S [e2] [y2] c h6) (star_of h4)) fun _ _ _ t => imp_acons t) (by rw [star_of h4, star_of h6'.1.1]; rfl) (by rw [star_of h6'.1.1]; rfl), rfl, fun _ => rfl⟩
          | cons _ _ => simp at h3
      · cases h
    | enum =>
      simp only [chkI] at h
      split at h
      · simp only [Bool.and_eq_true, beq_iff_eq, List.isEmpty_iff] at h
        obtain ⟨⟨⟨⟨⟨h1, h2⟩, rfl⟩, h4⟩, h5⟩, h6⟩ := h
        subst h1
        have fr := free_of S c (x := "enumerate") (by decide +kernel)
        cases tg with
        | Tuple elts kt tpos =>
          refine ⟨?_, rfl, fun _ => rfl⟩
          show PI X _ _ (iEnumA A.K (tA A Wx [e]))
          rw [← c.K]
          exact pi_enumA (gl_of c h2) fr (PA.mono (pa_cons (snE S e _ c h6).pe (PA.mono pa_nil fun _ _ _ t => imp_anil t) (star_of h5)) fun _ _ _ t => imp_acons t) (star_of h5)
        | _ => cases h4
      · cases h
    | zip =>
      simp only [chkI] at h
      split at h
      · simp only [Bool.and_eq_true, beq_iff_eq, decide_eq_true_eq] at h
        obtain ⟨⟨⟨⟨⟨⟨⟨h1, h2⟩, h3⟩, h4⟩, h5⟩, h5'⟩, h6⟩, h7⟩ := h
        subst h1
        have fr := free_of S c (x := "zip") (by decide +kernel)
        cases tg with
        | Tuple elts kt tpos =>
          cases es with
          | nil => simp at h3
          | cons e2 es2 =>
            cases es2 with
            | nil =>
              refine ⟨?_, rfl, fun _ => rfl⟩
              show PI X _ _ (iZip2 A.K (tA A Wx [e, e2]))
              rw [← c.K]
              exact pi_zip2 (gl_of c h2) fr (PA.mono (pa_cons (snE S e _ c h6).pe (snL S [e2] _ c h7) (star_of h5)) fun _ _ _ t => imp_acons t) (star_of h5) (stars_of (by simp [h5']))
            | cons _ _ => simp at h3
        | _ => cases h4
      · simp only [Bool.and_eq_true, beq_iff_eq, decide_eq_true_eq] at h
        obtain ⟨⟨⟨⟨⟨⟨⟨⟨h1, h2⟩, h3⟩, h4⟩, h5⟩, h5'⟩, h5''⟩, h6⟩, h7⟩ := h
        subst h1
        have fr := free_of S c (x := "zip") (by decide +kernel)
        cases tg with
        | Tuple elts kt tpos =>
          cases es with
          | nil => simp at h3
          | cons e2 es2 =>
            cases es2 with
            | nil => simp at h3
            | cons e3 es3 =>
              cases es3 with
              | nil =>
                refine ⟨?_, rfl, fun _ => rfl⟩
                show PI X _ _ (iZip3 A.K (tA A Wx [e, e2, e3]))
                rw [← c.K]
                exact pi_zip3 (gl_of c h2) fr (PA.mono (pa_cons (snE S e _ c h6).pe (snL S [e2, e3] _ c h7) (star_of h5)) fun _ _ _ t => imp_acons t) (star_of h5) (stars_of (by simp [h5', h5'']))
              | cons _ _ => simp at h3
        | _ => cases h4
      · cases h
end
end
end GV
set_option Elab.async false
set_option linter.all false
set_option maxRecDepth 100000
set_option maxHeartbeats 4000000
/-! GV15: statements: states, outcomes. -/
namespace GV
open PySem L2
section
variable {K : PySem.W.Frag} {cl : Cl} {W : Wd} {H : Hp} {h : MH}
theorem WOk.sdbd {i : Nat} {m : MO} (w : WOk K cl W h H) : ∀ q o, W.ob q = some o → q.1 < (h.set i m).length := fun q o e => by rw [List.length_set]; exact w.dbd q o e
theorem WOk.sdnx {i : Nat} {m : MO} (w : WOk K cl W h H) (hm : ∀ n kvs, m ≠ .dic n kvs) : ∀ (l : Nat) n kvs, (h.set i m)[l]? = some (.dic n kvs) → ∀ c o, W.ob (l, c) = some o → c ≤ n := fun l n kvs q c o e => by
  by_cases el : i = l
  · subst el
    have hlt : i < h.length := w.dbd _ _ e
    rw [List.getElem?_set_self hlt] at q
    exact (hm n kvs (Option.some.inj q)).elim
  · rw [List.getElem?_set_ne el] at q
    exact w.dnx l n kvs q c o e
end
structure SSt (A : Stat) (Wi : Wd) (Hi : Hp) (W : Wd) (h : MH) (oA : Nat → Option Addr) (ss : SS) (σ : L2.St) (H : Hp) : Prop where
  w : WOkA A W h H
  s : SRel A.K W H oA ss σ
  x : Ext Wi Hi W H
  f : ∀ j a, oA j = some a → Hi a = none
def PostS (A : Stat) (Wi : Wd) (Hi : Hp) (W : Wd) (H : Hp) (Wx : WX) (Dn : Ends) : O Fl → Prop
  | .ok (.nx ss') h' => ∀ W' H' oA' σ', SSt A Wi Hi W' h' oA' ss' σ' H' → ExS W H W' H' → Dn.nx σ' H'
  | .ok (.rt r) h' => ∀ W' H' v, Ext Wi Hi W' H' → WOkA A W' h' H' → RRel A.K W' Hi H' v r → Dn.rt v H'
  | .ex c h' => ∀ W' H' σ', Ext Wi Hi W' H' → WOkA A W' h' H' → Wx (A.xc c) none σ' H'
  | .no => False
def tS (A : Stat) (Wi : Wd) (Hi : Hp) (Wx : WX) (c : S) : TS := fun Dn σ H => ∃ W h oA ss, SSt A Wi Hi W h oA ss σ H ∧ PostS A Wi Hi W H Wx Dn (evS A.G c ss h)
def tBk (A : Stat) (Wi : Wd) (Hi : Hp) (Wx : WX) (b : List S) : TS := fun Dn σ H => ∃ W h oA ss, SSt A Wi Hi W h oA ss σ H ∧ PostS A Wi Hi W H Wx Dn (evB A.G b ss h)
section
variable {A : Stat} {Wi : Wd} {Hi : Hp} {W W1 : Wd} {h h1 : MH} {oA : Nat → Option Addr} {ss : SS} {σ : L2.St} {H H1 : Hp} {Wx : WX} {Dn : Ends}
theorem PostS.mono {o : O Fl} (x : ExS W H W1 H1) (p : PostS A Wi Hi W H Wx Dn o) : PostS A Wi Hi W1 H1 Wx Dn o := by
  cases o with
  | ok f h' =>
    cases f with
    | nx ss' => exact fun W' H' oA' σ' st y => p W' H' oA' σ' st (x.trans y)
    | rt r => exact p
  | ex c h' => exact p
  | no => exact p
theorem SSt.ext (st : SSt A Wi Hi W h oA ss σ H) (x : Ext W H W1 H1) (w1 : WOkA A W1 h1 H1) : SSt A Wi Hi W1 h1 oA ss σ H1 := ⟨w1, st.s.ext st.w x, st.x.trans x, st.f⟩
theorem SSt.fz (st : SSt A Wi Hi W h oA ss σ H) (x : Ext W H W1 H1) (w1 : WOkA A W1 h1 H1) : SSt A Wi Hi (W1.fz H H1) h1 oA ss σ H1 := ⟨fz_ok w1, st.s.fz (st.s.ext st.w x), st.x.trans (fz_ext x), st.f⟩
theorem fz_exs2 (w : WOkA A W h H) (x : Ext W H W1 H1) : ExS W H (W1.fz H H1) H1 := (x.exs w).trans fz_exs
theorem S_bind {e : E} {k : R → MH → O Fl} {Q : VK} (st : SSt A Wi Hi W h oA ss σ H) (p : PostS A Wi Hi W H Wx Dn ((evE A.G e ss h).bind k))
    (step : ∀ W1 H1 r h1 v, Ext W H W1 H1 → WOkA A W1 h1 H1 → SSt A Wi Hi W1 h1 oA ss σ H1 → RRel A.K W1 H H1 v r → PostS A Wi Hi W H Wx Dn (k r h1) → Q v H1) : tE A Wx e σ H Q := by
  refine ⟨W, h, oA, ss, st.w, st.s, ?_⟩
  cases q : evE A.G e ss h with
  | ok r h1 =>
    rw [q] at p
    exact fun W1 H1 x w1 v rr => step W1 H1 r h1 v x w1 (st.ext x w1) rr p
  | ex c h1 => rw [q] at p; exact fun W' H' x w' => p W' H' σ (st.x.trans x) w'
  | no => rw [q] at p; exact p
theorem S_bindL {es : List E} {k : List R → MH → O Fl} {Q : List V → Hp → Prop} (st : SSt A Wi Hi W h oA ss σ H) (p : PostS A Wi Hi W H Wx Dn ((evL A.G es ss h).bind k))
    (step : ∀ W1 H1 rs h1 vs, evL A.G es ss h = .ok rs h1 → Ext W H W1 H1 → WOkA A W1 h1 H1 → SSt A Wi Hi W1 h1 oA ss σ H1 → Paired (RRel A.K W1 H H1) vs rs → PostS A Wi Hi W H Wx Dn (k rs h1) → Q vs H1) : tA A Wx es σ H Q := by
  refine ⟨W, h, oA, ss, st.w, st.s, ?_⟩
  cases q : evL A.G es ss h with
  | ok r h1 =>
    rw [q] at p
    exact fun W1 H1 x w1 v rr => step W1 H1 r h1 v q x w1 (st.ext x w1) rr p
  | ex c h1 => rw [q] at p; exact fun W' H' x w' => p W' H' σ (st.x.trans x) w'
  | no => rw [q] at p; exact p
theorem S_bindT {e : E} {k : Bool → MH → O Fl} {Q : Bool → Hp → Prop} (st : SSt A Wi Hi W h oA ss σ H) (p : PostS A Wi Hi W H Wx Dn (((evE A.G e ss h).bind fun r h => O.of h (blE r)).bind k))
    (step : ∀ W1 H1 b h1, Ext W H W1 H1 → SSt A Wi Hi W1 h1 oA ss σ H1 → PostS A Wi Hi W1 H1 Wx Dn (k b h1) → Q b H1) : tT A Wx e σ H Q := by
  refine ⟨W, h, oA, ss, st.w, st.s, ?_⟩
  cases q : (evE A.G e ss h).bind fun r h => O.of h (blE r) with
  | ok r h1 =>
    rw [q] at p
    exact fun W1 H1 x w1 => step W1 H1 r h1 x (st.ext x w1) (p.mono (x.exs st.w))
  | ex c h1 => rw [q] at p; exact fun W' H' x w' => p W' H' σ (st.x.trans x) w'
  | no => rw [q] at p; exact p
/-! ### blocks -/
theorem imp_bnil (t : tBk A Wi Hi Wx [] Dn σ H) : tNext Dn σ H := by
  obtain ⟨W, h, oA, ss, st, p⟩ := t
  exact p W H oA σ st (ExS.refl _ _)
theorem imp_bcons {c : S} {r : List S} (t : tBk A Wi Hi Wx (c :: r) Dn σ H) : tSeq (tS A Wi Hi Wx c) (tBk A Wi Hi Wx r) Dn σ H := by
  obtain ⟨W, h, oA, ss, st, p⟩ := t
  rw [evB] at p
  refine ⟨W, h, oA, ss, st, ?_⟩
  cases q : evS A.G c ss h with
  | ok f h1 =>
    rw [q] at p
    cases f with
    | nx ss' => exact fun W' H' oA' σ' st' y => ⟨W', h1, oA', ss', st', PostS.mono y p⟩
    | rt r => exact p
  | ex c h1 => rw [q] at p; exact p
  | no => rw [q] at p; exact p
theorem imp_if {c : E} {a b : List S} (t : tS A Wi Hi Wx (.ifs c a b) Dn σ H) : tIfS (tT A Wx c) (tBk A Wi Hi Wx a) (tBk A Wi Hi Wx b) Dn σ H := by
  obtain ⟨W, h, oA, ss, st, p⟩ := t
  rw [evS] at p
  rw [← O.bind_assoc] at p
  refine S_bindT st p fun W1 H1 t h1 x1 st1 p1 => ?_
  cases t with
  | true => exact iteT ⟨W1, h1, oA, ss, st1, p1⟩
  | false => exact iteF ⟨W1, h1, oA, ss, st1, p1⟩
theorem imp_pass (t : tS A Wi Hi Wx .pass Dn σ H) : tNext Dn σ H := by
  obtain ⟨W, h, oA, ss, st, p⟩ := t
  rw [evS] at p
  exact p W H oA σ st (ExS.refl _ _)
theorem imp_expr {e : E} (t : tS A Wi Hi Wx (.expr e) Dn σ H) : tDrop (tE A Wx e) Dn σ H := by
  obtain ⟨W, h, oA, ss, st, p⟩ := t
  rw [evS] at p
  exact S_bind st p fun W1 H1 r h1 v x1 w1 st1 q p1 => p1 W1 H1 oA σ st1 (x1.exs st.w)
theorem imp_ret {e : E} (t : tS A Wi Hi Wx (.ret e) Dn σ H) : tRet (tE A Wx e) Dn σ H := by
  obtain ⟨W, h, oA, ss, st, p⟩ := t
  rw [evS] at p
  refine S_bind st p fun W1 H1 r h1 v x1 w1 st1 q p1 => ?_
  cases r with
  | v d => exact p1 W1 H1 v st1.x w1 q
  | nl xs => exact p1 W1 H1 v st1.x w1 (q.back st.x)
  | bw xs => exact p1.elim
theorem imp_retN (t : tS A Wi Hi Wx .retN Dn σ H) : tRetN Dn σ H := by
  obtain ⟨W, h, oA, ss, st, p⟩ := t
  rw [evS] at p
  exact p W H .non st.x st.w .non
theorem imp_retO {j : Nat} (t : tS A Wi Hi Wx (.retO j) Dn σ H) : tRet (tVar j) Dn σ H := by
  obtain ⟨W, h, oA, ss, st, p⟩ := t
  rw [evS] at p
  split at p
  · rename_i xs e
    obtain ⟨a, vs, e1, e2, e3, e4⟩ := st.s.own j xs e
    exact ⟨_, e2, p W H (.ref a) st.x st.w ⟨a, vs, rfl, st.f j a e1, e3, e4, (st.s.free j a e1).2.1, (st.s.free j a e1).1⟩⟩
  · exact p.elim
/-! ### stores -/
theorem SSt.setV {j : Nat} {v : V} {d : D} (st : SSt A Wi Hi W h oA ss σ H) (hj : j < ss.length) (r : Rep A.K W H v d) : SSt A Wi Hi W h oA (ss.set j (some (.v d))) (σ.set j (some v)) H :=
  ⟨st.w, st.s.setV hj r, st.x, st.f⟩
theorem imp_asg {t : Tg} {e : E} (z : tS A Wi Hi Wx (.asg t e) Dn σ H) : tAsg (tE A Wx e) (gTg A.K t) Dn σ H := by
  obtain ⟨W, h, oA, ss, st, p⟩ := z
  rw [evS] at p
  refine S_bind st p fun W1 H1 r h1 v x1 w1 st1 q p1 => ?_
  cases e1 : r.toD with
  | none => rw [e1] at p1; exact p1.elim
  | some d =>
    rw [e1] at p1
    simp only [Option.bind_some] at p1
    cases e2 : asgT t d ss with
    | none => rw [e2] at p1; exact p1.elim
    | some ss' =>
      rw [e2] at p1
      have st2 := st.fz x1 w1
      exact tg_ok st2.s (q.fz e1) e2 fun σ' s' _ => p1 _ H1 oA σ' ⟨st2.w, s', st2.x, st.f⟩ (fz_exs2 st.w x1)
/-- a name takes a list that nobody else holds -/
theorem SRel.setOwn {K : PySem.W.Frag} {j : Nat} {p : Addr} {vs : List V} {xs : List D} (s0 : SRel K W H oA ss σ) (n : H p = none) (s : SRel K W1 H1 oA ss σ) (hj : j < ss.length) (e : H1 p = some (.lst vs)) (r : RepL K W1 H1 vs xs) (nF : ¬ W1.F p) (nf : ¬ W1.fp p) :
    SRel K W1 H1 (fun i => if i = j then some p else oA i) (ss.set j (some (.own xs))) (σ.set j (some (.ref p))) where
  vs := fun i d q => by
    by_cases z : j = i
    · subst z
      rw [List.getElem?_set_self hj] at q
      cases q
    · rw [List.getElem?_set_ne z] at q ⊢
      exact s.vs i d q
  own := fun i ys q => by
    by_cases z : j = i
    · subst z
      rw [List.getElem?_set_self hj] at q
      cases q
      exact ⟨p, vs, by simp, by rw [List.getElem?_set_self (by rw [← s.len]; exact hj)], e, r⟩
    · rw [List.getElem?_set_ne z] at q
      obtain ⟨a, us, e1, e2, e3⟩ := s.own i ys q
      exact ⟨a, us, by rw [if_neg (Ne.symm z)]; exact e1, by rw [List.getElem?_set_ne z]; exact e2, e3⟩
  bw := fun i ys q => by
    by_cases z : j = i
    · subst z
      rw [List.getElem?_set_self hj] at q
      cases q
    · rw [List.getElem?_set_ne z] at q
      obtain ⟨a, us, e2, e3, e4, e5, e6⟩ := s.bw i ys q
      obtain ⟨a', us', e2', e3', _⟩ := s0.bw i ys q
      have ea : a = a' := by rw [e2] at e2'; cases e2'; rfl
      subst ea
      refine ⟨a, us, by rw [List.getElem?_set_ne z]; exact e2, e3, e4, e5, fun l => ?_⟩
      show (if l = j then some p else oA l) ≠ some a
      split
      · intro z2
        cases z2
        rw [n] at e3'
        cases e3'
      · exact e6 l
  inj := fun i l a h1 h2 => by
    have np : ∀ m, oA m ≠ some p := fun m q => (s0.free m p q).2.2 n
    split at h1
    · split at h2
      · rename_i z1 z2; rw [z1, z2]
      · cases h1; exact (np _ h2).elim
    · split at h2
      · cases h2; exact (np _ h1).elim
      · exact s.inj i l a h1 h2
  free := fun i a h1 => by
    split at h1
    · cases h1; exact ⟨nf, nF, by rw [e]; exact Option.some_ne_none _⟩
    · exact s.free i a h1
  len := by simp [s.len]
theorem imp_asgO {j : Nat} {e : E} (z : tS A Wi Hi Wx (.asgO j e) Dn σ H) : tAsg (tE A Wx e) (gName j) Dn σ H := by
  obtain ⟨W, h, oA, ss, st, p⟩ := z
  rw [evS] at p
  refine S_bind st p fun W1 H1 r h1 v x1 w1 st1 q p1 => ?_
  cases r with
  | v d => exact p1.elim
  | bw xs => exact p1.elim
  | nl xs =>
    simp only at p1
    unfold setSl at p1
    split at p1
    · rename_i hj
      obtain ⟨b, vs, rfl, n, e3, e4, e5, e6⟩ := q
      refine p1 W1 H1 _ _ ⟨w1, SRel.setOwn st.s n st1.s hj e3 e4 e5 e6, st1.x, fun i a z => ?_⟩ (x1.exs st.w)
      split at z
      · cases z; exact st.x.new n
      · exact st.f i a z
    · exact p1.elim
end
end GV
set_option Elab.async false
set_option linter.all false
set_option maxRecDepth 100000
set_option maxHeartbeats 4000000
/-! GV16: loops, lists that grow. -/
namespace GV
open PySem L2
section
variable {A : Stat} {Wi : Wd} {Hi : Hp} {W W1 : Wd} {h h1 : MH} {oA : Nat → Option Addr} {ss : SS} {σ : L2.St} {H H1 : Hp} {Wx : WX} {Dn : Ends}
theorem PostS.prOk (st : SSt A Wi Hi W h oA ss σ H) : PrOk A W H Wx σ (PostS A Wi Hi W H Wx Dn) := ⟨fun z => z, fun c h' z W' H' x w => z W' H' σ (st.x.trans x) w⟩
/-- frozen data stand through statements -/
theorem srcExS {v : V} {r : R} {d : D} (q : RRel A.K W1 H H1 v r) (e : r.toD = some d) : SrcOk A (ExS (W1.fz H H1) H1) v r := by
  have rp := q.fz e
  cases r with
  | bw xs => cases e
  | v d' =>
    obtain rfl : d' = d := Option.some.inj e
    refine ⟨fun xs e => ?_, fun xs e => ?_⟩
    · have e' : d' = .lst xs := e
      subst e'
      cases rp with
      | lst q1 q2 q3 => exact ⟨_, _, rfl, fun W' H' x => by
          have := Rep.exs x (Rep.lst q1 q2 q3)
          refine ⟨?_, RepL.exs x q3⟩
          rcases q1 with q1 | ⟨o, q1⟩
          · exact .inl (.inl (x.lst _ _ q2 q1))
          · exact .inl (.inr ⟨o, x.frz _ _ _ q1⟩)⟩
    · have e' : d' = .tup xs := e
      subst e'
      cases rp with
      | tup q1 q3 => exact ⟨_, _, rfl, fun W' H' x => by
          refine ⟨?_, RepL.exs x q3⟩
          rcases q1 with (q1 | ⟨o, q1⟩) | q1
          · exact .inl (.inl (x.tup _ _ q1))
          · exact .inl (.inr ⟨o, x.frz _ _ _ q1⟩)
          · exact .inr q1⟩
  | nl ys =>
    cases e
    refine ⟨fun xs e => ?_, fun xs e => by cases e⟩
    cases e
    cases rp with
    | lst q1 q2 q3 => exact ⟨_, _, rfl, fun W' H' x => by
        refine ⟨?_, RepL.exs x q3⟩
        rcases q1 with q1 | ⟨o, q1⟩
        · exact .inl (.inl (x.lst _ _ q2 q1))
        · exact .inl (.inr ⟨o, x.frz _ _ _ q1⟩)⟩
theorem srcExSL : ∀ {vs : List V} {rs : List R} {ds : List D}, Paired (RRel A.K W1 H H1) vs rs → toDs rs = some ds → Paired (SrcOk A (ExS (W1.fz H H1) H1)) vs rs
  | _, _, _, .nil, _ => .nil
  | _, r :: rs, ds, .cons a b, e => by
    unfold toDs at e
    cases e1 : r.toD with
    | none => rw [e1] at e; cases e
    | some d =>
      rw [e1] at e
      cases e2 : toDs rs with
      | none => rw [e2] at e; cases e
      | some es => exact .cons (srcExS a e1) (srcExSL b e2)
theorem imp_for {k : IK} {src : List E} {t : Tg} {b : List S} (hsrc : srcB k src = true) (z : tS A Wi Hi Wx (.for_ k src t b) Dn σ H) : tFor (iK A Wx k src) (gTg A.K t) (tBk A Wi Hi Wx b) Dn σ H := by
  obtain ⟨W, h, oA, ss, st, p⟩ := z
  rw [evS] at p
  refine imp_src (Kk := fun rs ds h => match toDs rs with
    | some _ => evFor (evB A.G b) t ds ss h
    | none => .no) (PostS.prOk st) hsrc st.w st.s p fun W1 H1 rs ds h1 J vs x1 w1 s1 qs wk p0 => ?_
  cases e : toDs rs with
  | none => rw [e] at p0; exact p0.elim
  | some es =>
    rw [e] at p0
    obtain ⟨G, Y, wlk, hG, hY⟩ := wk _ (srcExSL qs e)
    have st2 := st.fz x1 w1
    have p1 : PostS A Wi Hi (W1.fz H H1) H1 Wx Dn (evFor (evB A.G b) t ds ss h1) := PostS.mono (fz_exs2 st.w x1) p0
    refine for_it wlk (fun i σ' H' => ∃ W' h' oA' ss', SSt A Wi Hi W' h' oA' ss' σ' H' ∧ ExS (W1.fz H H1) H1 W' H' ∧ PostS A Wi Hi W' H' Wx Dn (evFor (evB A.G b) t (ds.drop i) ss' h')) ?_ ?_ ?_ ?_
    · exact ⟨_, h1, oA, ss, st2, ExS.refl _ _, by simpa using p1⟩
    · intro i σ' H' hi ⟨W', h', oA', ss', st', y', _⟩
      exact hG W' H' y'
    · intro i x σ' H' H'' hi ⟨W', h', oA', ss', st', y', pp⟩ yy
      obtain ⟨d, ed, rd, x2, w2⟩ := hY i H' x H'' W' h' hi y' st'.w yy
      have dr : ds.drop i = d :: ds.drop (i + 1) := by
        obtain ⟨hlt, hget⟩ := List.getElem?_eq_some_iff.mp ed
        rw [List.drop_eq_getElem_cons hlt, hget]
      rw [dr, evFor] at pp
      cases ea : asgT t d ss' with
      | none => rw [ea] at pp; exact pp.elim
      | some ss1 =>
        rw [ea] at pp
        have st3 := st'.ext x2 w2
        refine tg_ok st3.s rd ea fun σ2 s2 _ => ⟨W', h', oA', ss1, ⟨w2, s2, st3.x, st'.f⟩, ?_⟩
        have ye : ExS W' H' W' H'' := x2.exs st'.w
        simp only [O.of_some, O.bind_ok] at pp
        cases eb : evB A.G b ss1 h' with
        | ok f h2 =>
          rw [eb] at pp
          cases f with
          | nx ss2 => exact fun W4 H4 oA4 σ4 st4 y4 => ⟨W4, h2, oA4, ss2, st4, (y'.trans ye).trans y4, PostS.mono (ye.trans y4) pp⟩
          | rt r => exact pp
        | ex c h2 => rw [eb] at pp; exact pp
        | no => rw [eb] at pp; exact pp
    · intro σ' H' ⟨W', h', oA', ss', st', y', pp⟩
      rw [List.drop_length, evFor] at pp
      exact pp W' H' oA' σ' st' (ExS.refl _ _)
/-! ### a list of the frame's own changes -/
theorem SRel.chgOwn {K : PySem.W.Frag} {j : Nat} {a : Addr} {vs us : List V} {ys : List D} (s : SRel K W H oA ss σ) (hj : j < ss.length) (ho : oA j = some a) (hσ : σ[j]? = some (some (.ref a))) (e : H a = some (.lst vs)) (r : RepL K W H us ys) :
    SRel K W (upd H a (.lst us)) oA (ss.set j (some (.own ys))) σ where
  vs := fun i d q => by
    by_cases z : j = i
    · subst z
      rw [List.getElem?_set_self hj] at q
      cases q
    · rw [List.getElem?_set_ne z] at q
      obtain ⟨v, e1, e2⟩ := s.vs i d q
      exact ⟨v, e1, Rep.chg e (s.free j a ho).2.1 e2⟩
  own := fun i zs q => by
    by_cases z : j = i
    · subst z
      rw [List.getElem?_set_self hj] at q
      cases q
      exact ⟨a, us, ho, hσ, upd_same, RepL.chg e (s.free j a ho).2.1 r⟩
    · rw [List.getElem?_set_ne z] at q
      obtain ⟨b, ws, e1, e2, e3, e4⟩ := s.own i zs q
      have nb : b ≠ a := fun y => z (s.inj j i a ho (y ▸ e1))
      exact ⟨b, ws, e1, e2, by rw [upd_ne nb]; exact e3, RepL.chg e (s.free j a ho).2.1 e4⟩
  bw := fun i zs q => by
    by_cases z : j = i
    · subst z
      rw [List.getElem?_set_self hj] at q
      cases q
    · rw [List.getElem?_set_ne z] at q
      obtain ⟨b, ws, e2, e3, e4, e5, e6⟩ := s.bw i zs q
      have nb : b ≠ a := fun y => e6 j (y ▸ ho)
      exact ⟨b, ws, e2, by rw [upd_ne nb]; exact e3, RepL.chg e (s.free j a ho).2.1 e4, e5, e6⟩
  inj := s.inj
  free := fun i b q => by
    obtain ⟨h1, h2, h3⟩ := s.free i b q
    refine ⟨h1, h2, ?_⟩
    by_cases z : b = a
    · subst z; rw [upd_same]; exact Option.some_ne_none _
    · rw [upd_ne z]; exact h3
  len := by simp [s.len]
theorem SSt.chgOwn {j : Nat} {a : Addr} {vs us : List V} {ys : List D} (st : SSt A Wi Hi W h oA ss σ H) (hj : j < ss.length) (ho : oA j = some a) (hσ : σ[j]? = some (some (.ref a))) (e : H a = some (.lst vs)) (r : RepL A.K W H us ys) :
    SSt A Wi Hi W h oA (ss.set j (some (.own ys))) σ (upd H a (.lst us)) ∧ ExS W H W (upd H a (.lst us)) :=
  ⟨⟨st.w.chg e (st.s.free j a ho).2.1 (st.s.free j a ho).1, st.s.chgOwn hj ho hσ e r, st.x.chg e (st.f j a ho), st.f⟩, chg_exs e (st.s.free j a ho).2.1⟩
/-! ### a list by reference changes -/
theorem Paired.setOther {K : PySem.W.Frag} {i : Nat} {a : Addr} {xs ys : List V} (e : H a = some (.lst xs)) (n : ¬ W.F a) (hk : ∀ f, W.k (i, some f) ≠ some a) : ∀ {fs : List (Str × Fd)} {gs : List (Str × V)}, Paired (FRel K W H i) fs gs → Paired (FRel K W (upd H a (.lst ys)) i) fs gs
  | _, _, .nil => .nil
  | (f, .v d) :: _, _, .cons q b => .cons ⟨q.1, Rep.chg e n q.2⟩ (Paired.setOther e n hk b)
  | (f, .own k xs) :: _, _, .cons q b => .cons ⟨q.1, by
      obtain ⟨_, c, vs, h1, h2, h3, h4⟩ := q
      exact ⟨c, vs, h1, h2, by rw [upd_ne (fun z => hk _ (z ▸ h1))]; exact h3, RepL.chg e n h4⟩⟩ (Paired.setOther e n hk b)
theorem WOk.setObj {K : PySem.W.Frag} {cl : Cl} {i : Nat} {a : Addr} {xs : List D} {vs us : List V} {ys : List D} (w : WOk K cl W h H) (hi : h[i]? = some (.lst xs)) (hk : W.k (i, none) = some a) (e : H a = some (.lst vs)) (r : RepL K W H us ys) :
    WOk K cl W (h.set i (.lst ys)) (upd H a (.lst us)) := by
  have nF : ¬ W.F a := fun z => w.dis a z ⟨_, hk⟩
  have hlt : i < h.length := by
    obtain ⟨z, _⟩ := List.getElem?_eq_some_iff.mp hi
    exact z
  refine ⟨w.inj, w.dis, fun b z => ?_, fun b z => by rw [upd_ne (ne_F z nF)]; exact w.frz b z, fun l o q => ?_, fun q b z => by rw [List.length_set]; exact w.bnd q b z, fun l c fs hl f m b hk' => ?_, w.sdbd, w.sdnx (by intro _ _ z; cases z)⟩
  · by_cases eb : b = a
    · subst eb; exact .inl ⟨us, upd_same⟩
    · rw [upd_ne eb]; exact w.cov b z
  · by_cases el : i = l
    · subst el
      rw [List.getElem?_set_self hlt] at q
      cases q
      exact ⟨a, us, hk, upd_same, RepL.chg e nF r⟩
    · rw [List.getElem?_set_ne el] at q
      have m := w.obj l o q
      cases o with
      | lst zs =>
        obtain ⟨b, ws, e1, e2, e3⟩ := m
        have nb : b ≠ a := fun z => el (by have := w.inj _ _ _ hk (z ▸ e1); exact congrArg Prod.fst this)
        exact ⟨b, ws, e1, by rw [upd_ne nb]; exact e2, RepL.chg e nF e3⟩
      | ins c fs =>
        obtain ⟨b, C, dx, gs, e1, e2, e3, e4⟩ := m
        have nb : b ≠ a := fun z => el (by have := w.inj _ _ _ hk (z ▸ e1); exact congrArg Prod.fst this)
        refine ⟨b, C, dx, gs, e1, e2, by rw [upd_ne nb]; exact e3, Paired.setOther e nF (fun f z => ?_) e4⟩
        have := w.inj _ _ _ hk z
        cases this
      | dic n kvs =>
        obtain ⟨b, ob, ws, e1, e2, e3, e4⟩ := m
        have nb : b ≠ a := fun z => el (by have := w.inj _ _ _ hk (z ▸ e1); exact congrArg Prod.fst this)
        exact ⟨b, ob, ws, e1, e2, by rw [upd_ne nb]; exact e3, DP.map (fun _ _ z => Rep.chg e nF z) e4⟩
  · by_cases el : i = l
    · subst el
      rw [List.getElem?_set_self hlt] at hl
      cases hl
    · rw [List.getElem?_set_ne el] at hl
      exact w.nxt l c fs hl f m b hk'
theorem SRel.chgFp {K : PySem.W.Frag} {cl : Cl} {a : Addr} {vs us : List V} (w : WOk K cl W h H) (s : SRel K W H oA ss σ) (hf : W.fp a) (e : H a = some (.lst vs)) : SRel K W (upd H a (.lst us)) oA ss σ := by
  have nF : ¬ W.F a := fun z => w.dis a z hf
  refine ⟨fun j d q => ?_, fun j xs q => ?_, fun j xs q => ?_, s.inj, fun j b q => ?_, s.len⟩
  · obtain ⟨v, e1, e2⟩ := s.vs j d q
    exact ⟨v, e1, Rep.chg e nF e2⟩
  · obtain ⟨b, ws, e1, e2, e3, e4⟩ := s.own j xs q
    have nb : b ≠ a := fun z => (s.free j b e1).1 (z ▸ hf)
    exact ⟨b, ws, e1, e2, by rw [upd_ne nb]; exact e3, RepL.chg e nF e4⟩
  · obtain ⟨b, ws, e2, e3, e4, e5, e6⟩ := s.bw j xs q
    have nb : b ≠ a := fun z => e5 (z ▸ hf)
    exact ⟨b, ws, e2, by rw [upd_ne nb]; exact e3, RepL.chg e nF e4, e5, e6⟩
  · obtain ⟨h1, h2, h3⟩ := s.free j b q
    have nb : b ≠ a := fun z => h1 (z ▸ hf)
    exact ⟨h1, h2, by rw [upd_ne nb]; exact h3⟩
theorem Ext.chgFp {a : Addr} {o : HO} (x : Ext Wi Hi W H) (hf : W.fp a) : Ext Wi Hi W (upd H a o) where
  keep := fun b u q n => by
    have nb : b ≠ a := fun z => by
      subst z
      rcases x.fpn b hf with y | y
      · exact n y
      · rw [q] at y; cases y
    rw [upd_ne nb]
    exact x.keep b u q n
  there := fun b q => by
    by_cases z : b = a
    · subst z; rw [upd_same]; exact Option.some_ne_none _
    · rw [upd_ne z]; exact x.there b q
  fpn := x.fpn
  ids := x.ids
  fF := x.fF
  fn := x.fn
  ob := x.ob
theorem SSt.setObj {i : Nat} {a : Addr} {xs : List D} {vs us : List V} {ys : List D} (st : SSt A Wi Hi W h oA ss σ H) (hi : h[i]? = some (.lst xs)) (hk : W.k (i, none) = some a) (e : H a = some (.lst vs)) (r : RepL A.K W H us ys) :
    SSt A Wi Hi W (h.set i (.lst ys)) oA ss σ (upd H a (.lst us)) ∧ ExS W H W (upd H a (.lst us)) :=
  ⟨⟨st.w.setObj hi hk e r, st.s.chgFp st.w ⟨_, hk⟩ e, st.x.chgFp ⟨_, hk⟩, st.f⟩, chg_exs e fun z => st.w.dis a z ⟨_, hk⟩⟩
/-! ### append, extend -/
theorem tyV_list {K : PySem.W.Frag} {a : Addr} {vs : List V} (e : H a = some (.lst vs)) : tyV K "list" (.ref a) H := Or.inl ⟨rfl, _, Or.inl (Or.inl e)⟩
/-- the list that a name holds: of the frame, or by reference -/
theorem app_slot {j : Nat} {ys : List D} {us : List V} {h' : MH} (st : SSt A Wi Hi W h oA ss σ H) (r : RepL A.K W H us ys) (p : PostS A Wi Hi W1 H1 Wx Dn (appTo ss j ys h)) (y : ExS W1 H1 W H) :
    ∃ a vs, σ[j]? = some (some (.ref a)) ∧ H a = some (.lst vs) ∧ vs.length + us.length ≤ 1000000 ∧ Dn.nx σ (upd H a (.lst (vs ++ us))) := by
  unfold appTo at p
  split at p
  · rename_i xs e
    obtain ⟨a, vs, e1, e2, e3, e4⟩ := st.s.own j xs e
    split at p
    · rename_i hs
      have hj : j < ss.length := (List.getElem?_eq_some_iff.mp e).1
      unfold setSl at p
      rw [if_pos hj] at p
      obtain ⟨st2, y2⟩ := st.chgOwn hj e1 e2 e3 (e4.append r)
      exact ⟨a, vs, e2, e3, by rw [e4.length, r.length]; exact of_decide_eq_true hs, p _ _ _ _ st2 (y.trans y2)⟩
    · exact p.elim
  · rename_i i e
    obtain ⟨v, e1, e2⟩ := st.s.vs j _ e
    split at p
    · rename_i xs hi
      obtain ⟨a, vs, k1, k2, k3⟩ := st.w.obj i _ hi
      cases e2 with
      | obj k4 =>
        rename_i a'
        have : a' = a := by rw [k1] at k4; exact (Option.some.inj k4).symm
        subst this
        split at p
        · rename_i hs
          obtain ⟨st2, y2⟩ := st.setObj hi k1 k2 (k3.append r)
          exact ⟨a', vs, e1, k2, by rw [k3.length, r.length]; exact of_decide_eq_true hs, p _ _ _ _ st2 (y.trans y2)⟩
        · exact p.elim
    · exact p.elim
  · exact p.elim
/-- the name's list is there ahead of the argument -/
theorem app_pre {j : Nat} (st : SSt A Wi Hi W h oA ss σ H) (e : isLst ss j h = true) : ∃ a vs, σ[j]? = some (some (.ref a)) ∧ H a = some (.lst vs) := by
  unfold isLst at e
  split at e
  · rename_i xs q
    obtain ⟨a, vs, e1, e2, e3, e4⟩ := st.s.own j xs q
    exact ⟨a, vs, e2, e3⟩
  · rename_i i q
    split at e
    · rename_i xs hi
      obtain ⟨v, e1, e2⟩ := st.s.vs j _ q
      obtain ⟨a, vs, k1, k2, k3⟩ := st.w.obj i _ hi
      cases e2 with
      | obj k4 =>
        rename_i a'
        have : a' = a := by rw [k1] at k4; exact (Option.some.inj k4).symm
        subst this
        exact ⟨a', vs, e1, k2⟩
    · cases e
  · cases e
theorem imp_app {j : Nat} {e : E} (z : tS A Wi Hi Wx (.app j e) Dn σ H) : tDrop (tBM A.K "list" rAppend (tVar j) (tCons (tE A Wx e) tNil)) Dn σ H := by
  obtain ⟨W, h, oA, ss, st, p⟩ := z
  rw [evS] at p
  cases el : isLst ss j h with
  | false => rw [el] at p; exact p.elim
  | true =>
    rw [el] at p
    obtain ⟨a, vs, e1, e2⟩ := app_pre st el
    refine ⟨.ref a, e1, tyV_list e2, ?_⟩
    refine S_bind st p fun W1 H1 r h1 v x1 w1 st1 q p1 => ?_
    cases e3 : r.toD with
    | none => rw [e3] at p1; exact p1.elim
    | some d =>
      rw [e3] at p1
      have st2 := st.fz x1 w1
      obtain ⟨a', us, k1, k2, k3, k4⟩ := app_slot (h' := h1) st2 (.cons (q.fz e3) .nil) p1 (fz_exs2 st.w x1)
      have : a' = a := by rw [e1] at k1; cases k1; rfl
      subst this
      exact ⟨a', us, v, rfl, rfl, k2, Nat.lt_of_le_of_lt (show us.length ≤ 1000000 by simp at k3; omega) (by decide), k4⟩
theorem imp_ext {j : Nat} {e : E} (z : tS A Wi Hi Wx (.ext j e) Dn σ H) : tDrop (tBM A.K "list" rExtend (tVar j) (tCons (tE A Wx e) tNil)) Dn σ H := by
  obtain ⟨W, h, oA, ss, st, p⟩ := z
  rw [evS] at p
  cases el : isLst ss j h with
  | false => rw [el] at p; exact p.elim
  | true =>
    rw [el] at p
    obtain ⟨a, vs, e1, e2⟩ := app_pre st el
    refine ⟨.ref a, e1, tyV_list e2, ?_⟩
    refine S_bind st p fun W1 H1 r h1 v x1 w1 st1 q p1 => ?_
    cases r with
    | v d => exact p1.elim
    | bw xs => exact p1.elim
    | nl xs =>
      obtain ⟨b, ws, rfl, n, e3, e4, e5, e6⟩ := q
      obtain ⟨a', us, k1, k2, k3, k4⟩ := app_slot (h' := h1) st1 e4 p1 (x1.exs st.w)
      have : a' = a := by rw [e1] at k1; cases k1; rfl
      subst this
      exact ⟨a', b, us, ws, rfl, rfl, k2, e3, Nat.le_trans k3 (by decide), k4⟩
/-! ### a new list by reference -/
def Wd.add (W : Wd) (n : Nat) (p : Addr) : Wd := { W with k := fun q => if q = (n, none) then some p else W.k q }
theorem imp_asgR {j : Nat} {e : E} (z : tS A Wi Hi Wx (.asgR j e) Dn σ H) : tAsg (tE A Wx e) (gName j) Dn σ H := by
  obtain ⟨W, h, oA, ss, st, p⟩ := z
  rw [evS] at p
  refine S_bind st p fun W1 H1 r h1 v x1 w1 st1 q p1 => ?_
  cases r with
  | v d => exact p1.elim
  | bw xs => exact p1.elim
  | nl xs =>
    simp only at p1
    unfold setSl at p1
    by_cases hj : j < ss.length
    · rw [if_pos hj] at p1
      obtain ⟨b, vs, rfl, n, e3, e4, e5, e6⟩ := q
      have nk : W1.k (h1.length, none) = none := by
        cases q : W1.k (h1.length, none) with
        | none => rfl
        | some a => exact absurd (w1.bnd _ a q) (Nat.lt_irrefl _)
      have fpA : ∀ a, (W1.add h1.length b).fp a ↔ a = b ∨ W1.fp a := fun a => by
        constructor
        · rintro ⟨q, hq⟩
          unfold Wd.add at hq
          simp only at hq
          split at hq
          · exact .inl (Option.some.inj hq).symm
          · exact .inr ⟨q, hq⟩
        · rintro (z | ⟨q, hq⟩)
          · subst z; exact ⟨(h1.length, none), by simp [Wd.add]⟩
          · refine ⟨q, ?_⟩
            unfold Wd.add
            simp only
            rw [if_neg (fun z => by rw [z, nk] at hq; cases hq)]
            exact hq
      have xS : ExS W1 H1 (W1.add h1.length b) H1 := ⟨fun _ _ e => e, fun _ _ _ e => e, fun _ _ _ e => e, fun q a hq => by
        unfold Wd.add
        simp only
        rw [if_neg (fun z => by rw [z, nk] at hq; cases hq)]
        exact hq, fun _ f => f, fun _ _ e => e⟩
      have w2 : WOkA A (W1.add h1.length b) (h1 ++ [.lst xs]) H1 := by
        refine ⟨fun q q' a h2 h3 => ?_, fun a f z => ?_, fun a z => ?_, w1.frz, fun i o q => ?_, fun q a hq => ?_, fun i c fs hi f m a hk => ?_, fun q o hq => by rw [List.length_append, List.length_singleton]; exact Nat.lt_succ_of_lt (w1.dbd q o hq), fun i m kvs hi l o hq => by
          have z := w1.dbd _ _ hq
          rw [List.getElem?_append_left z] at hi
          exact w1.dnx i m kvs hi l o hq⟩
        · unfold Wd.add at h2 h3
          simp only at h2 h3
          split at h2
          · split at h3
            · rename_i z1 z2; rw [z1, z2]
            · cases h2; exact (e6 ⟨_, h3⟩).elim
          · split at h3
            · cases h3; exact (e6 ⟨_, h2⟩).elim
            · exact w1.inj q q' a h2 h3
        · rcases (fpA a).mp z with y | y
          · subst y; exact e5 f
          · exact w1.dis a f y
        · rcases (fpA a).mp z with y | y
          · subst y; exact .inl ⟨vs, e3⟩
          · exact w1.cov a y
        · by_cases hi : i < h1.length
          · rw [List.getElem?_append_left hi] at q
            have m := w1.obj i o q
            cases o with
            | lst zs =>
              obtain ⟨a, ws, k1, k2, k3⟩ := m
              exact ⟨a, ws, xS.ids _ _ k1, k2, RepL.exs xS k3⟩
            | ins c fs =>
              obtain ⟨a, C, dx, gs, k1, k2, k3, k4⟩ := m
              refine ⟨a, C, dx, gs, xS.ids _ _ k1, k2, k3, Paired.mapP k4 fun pp qq z => ?_⟩
              obtain ⟨f, fd⟩ := pp
              cases fd with
              | v d => exact ⟨z.1, Rep.exs xS z.2⟩
              | own m ys =>
                obtain ⟨z1, c, ws, z2, z3, z4, z5⟩ := z
                exact ⟨z1, c, ws, xS.ids _ _ z2, z3, z4, RepL.exs xS z5⟩
            | dic n kvs =>
              obtain ⟨a, ob, ws, k1, k2, k3, k4⟩ := m
              exact ⟨a, ob, ws, xS.ids _ _ k1, k2, k3, DP.map (fun _ _ z => Rep.exs xS z) k4⟩
          · rw [List.getElem?_append_right (by omega)] at q
            have ei : i = h1.length := by
              have := (List.getElem?_eq_some_iff.mp q).1
              simp at this
              omega
            subst ei
            simp at q
            subst q
            exact ⟨b, vs, by simp [Wd.add], e3, RepL.exs xS e4⟩
        · rw [List.length_append, List.length_singleton]
          unfold Wd.add at hq
          simp only at hq
          split at hq
          · rename_i z; rw [z]; exact Nat.lt_succ_self _
          · exact Nat.lt_succ_of_lt (w1.bnd q a hq)
        · have hk' : W1.k (i, some (f, m)) = some a := by
            unfold Wd.add at hk
            simpa using hk
          have := w1.bnd _ _ hk'
          rw [List.getElem?_append_left this] at hi
          exact w1.nxt i c fs hi f m a hk'
      have nb : ∀ l, oA l ≠ some b := fun l q => (st.s.free l b q).2.2 n
      have s2 : SRel A.K (W1.add h1.length b) H1 oA ss σ := by
        refine ⟨fun i d q => ?_, fun i ys q => ?_, fun i ys q => ?_, st.s.inj, fun i a q => ?_, st.s.len⟩
        · obtain ⟨v, k1, k2⟩ := st1.s.vs i d q
          exact ⟨v, k1, Rep.exs xS k2⟩
        · obtain ⟨a, ws, k1, k2, k3, k4⟩ := st1.s.own i ys q
          exact ⟨a, ws, k1, k2, k3, RepL.exs xS k4⟩
        · obtain ⟨a, ws, k2, k3, k4, k5, k6⟩ := st1.s.bw i ys q
          obtain ⟨a', ws', k2', k3', _⟩ := st.s.bw i ys q
          have ea : a = a' := by rw [k2] at k2'; cases k2'; rfl
          refine ⟨a, ws, k2, k3, RepL.exs xS k4, fun z => ?_, k6⟩
          rcases (fpA a).mp z with y | y
          · rw [y] at ea; rw [← ea, n] at k3'; cases k3'
          · exact k5 y
        · obtain ⟨k1, k2, k3⟩ := st1.s.free i a q
          refine ⟨fun z => ?_, k2, k3⟩
          rcases (fpA a).mp z with y | y
          · subst y; exact nb i q
          · exact k1 y
      have x2 : Ext Wi Hi (W1.add h1.length b) H1 := ⟨st1.x.keep, st1.x.there, fun a z => by
        rcases (fpA a).mp z with y | y
        · subst y; exact .inr (st.x.new n)
        · exact st1.x.fpn a y, fun q a hq => xS.ids _ _ (st1.x.ids q a hq), st1.x.fF, st1.x.fn, st1.x.ob⟩
      exact p1 _ H1 oA _ ⟨w2, s2.setV hj (.obj (by simp [Wd.add])), x2, st.f⟩ ((x1.exs st.w).trans xS)
    · rw [if_neg hj] at p1
      exact p1.elim
/-! ### names in parallel -/
theorem imp_par2 {i j : Nat} {a b : E} (z : tS A Wi Hi Wx (.par [i, j] [a, b]) Dn σ H) : tPar i j (tA A Wx [a, b]) Dn σ H := by
  obtain ⟨W, h, oA, ss, st, p⟩ := z
  rw [evS] at p
  refine S_bindL st p fun W1 H1 rs h1 vs eL x1 w1 st1 q p1 => ?_
  cases e : toDs rs with
  | none => rw [e] at p1; exact p1.elim
  | some ds =>
    rw [e] at p1
    simp only [Option.bind_some] at p1
    have r := RRelL.fz q e
    have st2 := st.fz x1 w1
    match ds, vs, r, p1 with
    | [d1, d2], [v1, v2], .cons r1 (.cons r2 .nil), p1 =>
      simp only [parS, setSl] at p1
      by_cases hi : i < ss.length
      · rw [if_pos hi] at p1
        simp only [Option.bind_some] at p1
        by_cases hj : j < (ss.set i (some (.v d1))).length
        · rw [if_pos hj] at p1
          exact ⟨v1, v2, rfl, p1 _ H1 oA _ ((st2.setV hi r1).setV hj r2) (fz_exs2 st.w x1)⟩
        · rw [if_neg hj] at p1; exact p1.elim
      · rw [if_neg hi] at p1; exact p1.elim
    | [], [], .nil, p1 => exact p1.elim
    | [d1], [v1], .cons r1 .nil, p1 =>
      simp only [parS, setSl] at p1
      by_cases hi : i < ss.length
      · rw [if_pos hi] at p1; exact p1.elim
      · rw [if_neg hi] at p1; exact p1.elim
    | d1 :: d2 :: d3 :: dr, v1 :: v2 :: v3 :: vr, .cons r1 (.cons r2 (.cons r3 _)), p1 =>
      simp only [parS, setSl] at p1
      by_cases hi : i < ss.length
      · rw [if_pos hi] at p1
        simp only [Option.bind_some] at p1
        by_cases hj : j < (ss.set i (some (.v d1))).length
        · rw [if_pos hj] at p1; exact p1.elim
        · rw [if_neg hj] at p1; exact p1.elim
      · rw [if_neg hi] at p1; exact p1.elim
/-- a list of the frame's own is frozen from here on -/
theorem imp_frz {j : Nat} {r : List S} (t : tBk A Wi Hi Wx (.frz j :: r) Dn σ H) : tBk A Wi Hi Wx r Dn σ H := by
  obtain ⟨W, h, oA, ss, st, p⟩ := t
  rw [evB, evS] at p
  split at p
  · rename_i xs e
    obtain ⟨a, vs, e1, e2, e3, e4⟩ := st.s.own j xs e
    have hj : j < ss.length := (List.getElem?_eq_some_iff.mp e).1
    unfold setSl at p
    rw [if_pos hj] at p
    simp only [Option.map_some, O.of_some, O.bind_ok] at p
    obtain ⟨f1, f2, f3⟩ := st.s.free j a e1
    let W' : Wd := { W with F := fun b => W.F b ∨ b = a }
    have xS : ExS W H W' H := ⟨fun _ _ e => e, fun _ _ _ e => e, fun _ _ _ e => e, fun _ _ e => e, fun _ f => .inl f, fun _ _ e => e⟩
    have w2 : WOkA A W' h H := by
      refine ⟨st.w.inj, fun b f z => ?_, st.w.cov, fun b f => ?_, fun i o q => ?_, st.w.bnd, st.w.nxt, st.w.dbd, st.w.dnx⟩
      · rcases f with f | f
        · exact st.w.dis b f z
        · subst f; exact f1 z
      · rcases f with f | f
        · exact st.w.frz b f
        · subst f; exact f3
      · have m := st.w.obj i o q
        cases o with
        | lst zs =>
          obtain ⟨b, ws, k1, k2, k3⟩ := m
          exact ⟨b, ws, k1, k2, RepL.exs xS k3⟩
        | ins c fs =>
          obtain ⟨b, C, dx, gs, k1, k2, k3, k4⟩ := m
          refine ⟨b, C, dx, gs, k1, k2, k3, Paired.mapP k4 fun pp qq z => ?_⟩
          obtain ⟨f, fd⟩ := pp
          cases fd with
          | v d => exact ⟨z.1, Rep.exs xS z.2⟩
          | own m ys =>
            obtain ⟨z1, c, ws, z2, z3, z4, z5⟩ := z
            exact ⟨z1, c, ws, z2, z3, z4, RepL.exs xS z5⟩
        | dic n kvs =>
          obtain ⟨b, ob, ws, k1, k2, k3, k4⟩ := m
          exact ⟨b, ob, ws, k1, k2, k3, DP.map (fun _ _ z => Rep.exs xS z) k4⟩
    have s2 : SRel A.K W' H (fun i => if i = j then none else oA i) (ss.set j (some (.v (.lst xs)))) σ := by
      refine ⟨fun i d q => ?_, fun i ys q => ?_, fun i ys q => ?_, fun i l b h1 h2 => ?_, fun i b q => ?_, by simp [st.s.len]⟩
      · by_cases z : j = i
        · subst z
          rw [List.getElem?_set_self hj] at q
          cases q
          exact ⟨_, e2, .lst (.inl e3) (.inr rfl) (RepL.exs xS e4)⟩
        · rw [List.getElem?_set_ne z] at q
          obtain ⟨v, k1, k2⟩ := st.s.vs i d q
          exact ⟨v, k1, Rep.exs xS k2⟩
      · by_cases z : j = i
        · subst z
          rw [List.getElem?_set_self hj] at q
          cases q
        · rw [List.getElem?_set_ne z] at q
          obtain ⟨b, ws, k1, k2, k3, k4⟩ := st.s.own i ys q
          exact ⟨b, ws, by rw [if_neg (Ne.symm z)]; exact k1, k2, k3, RepL.exs xS k4⟩
      · by_cases z : j = i
        · subst z
          rw [List.getElem?_set_self hj] at q
          cases q
        · rw [List.getElem?_set_ne z] at q
          obtain ⟨b, ws, k2, k3, k4, k5, k6⟩ := st.s.bw i ys q
          refine ⟨b, ws, k2, k3, RepL.exs xS k4, k5, fun l => ?_⟩
          show (if l = j then none else oA l) ≠ some b
          split
          · intro z2; cases z2
          · exact k6 l
      · split at h1
        · cases h1
        · split at h2
          · cases h2
          · exact st.s.inj i l b h1 h2
      · split at q
        · cases q
        · rename_i z
          obtain ⟨k1, k2, k3⟩ := st.s.free i b q
          exact ⟨k1, fun f => f.elim k2 fun y => z (st.s.inj i j a (y ▸ q) e1), k3⟩
    have x2 : Ext Wi Hi W' H := ⟨st.x.keep, st.x.there, st.x.fpn, st.x.ids, fun b f => .inl (st.x.fF b f), fun b f => by
      rcases f with f | f
      · exact st.x.fn b f
      · subst f; exact .inr (st.f j b e1), st.x.ob⟩
    refine ⟨W', h, _, _, ⟨w2, s2, x2, fun i b q => ?_⟩, PostS.mono xS p⟩
    split at q
    · cases q
    · exact st.f i b q
  · exact p.elim
/-- an exception is raised -/
theorem imp_raise {c : Nat} (t : tS A Wi Hi Wx (.raise c) Dn σ H) : Wx (A.xc c) none σ H := by
  obtain ⟨W, h, oA, ss, st, p⟩ := t
  rw [evS] at p
  exact p W H σ st.x st.w
/-! ### x += e -/
theorem imp_augA {j : Nat} {e : E} (t : tS A Wi Hi Wx (.aug j .add e) Dn σ H) : tAug j (tE A Wx e) (ipI fun x y => x + y) Dn σ H := by
  obtain ⟨W, h, oA, ss, st, p⟩ := t
  rw [evS] at p
  split at p
  · rename_i x e1
    obtain ⟨v, k1, k2⟩ := st.s.vs j _ e1
    cases k2
    refine ⟨_, k1, S_bind st p fun W1 H1 r h1 v x1 w1 st1 q p1 => ?_⟩
    cases r with
    | nl _ => exact p1.elim
    | bw _ => exact p1.elim
    | v d =>
      cases d with
      | int y =>
        cases q
        refine ⟨x, y, rfl, rfl, ?_⟩
        have hj : j < ss.length := (List.getElem?_eq_some_iff.mp e1).1
        simp only [setSl] at p1
        rw [if_pos hj] at p1
        exact p1 W1 H1 oA _ (st1.setV hj (.int _)) (x1.exs st.w)
      | _ => exact p1.elim
  · exact p.elim
theorem imp_augS {j : Nat} {e : E} (t : tS A Wi Hi Wx (.aug j .sub e) Dn σ H) : tAug j (tE A Wx e) (ipI fun x y => x - y) Dn σ H := by
  obtain ⟨W, h, oA, ss, st, p⟩ := t
  rw [evS] at p
  split at p
  · rename_i x e1
    obtain ⟨v, k1, k2⟩ := st.s.vs j _ e1
    cases k2
    refine ⟨_, k1, S_bind st p fun W1 H1 r h1 v x1 w1 st1 q p1 => ?_⟩
    cases r with
    | nl _ => exact p1.elim
    | bw _ => exact p1.elim
    | v d =>
      cases d with
      | int y =>
        cases q
        refine ⟨x, y, rfl, rfl, ?_⟩
        have hj : j < ss.length := (List.getElem?_eq_some_iff.mp e1).1
        simp only [setSl] at p1
        rw [if_pos hj] at p1
        exact p1 W1 H1 oA _ (st1.setV hj (.int _)) (x1.exs st.w)
      | _ => exact p1.elim
  · exact p.elim
end
end GV
set_option Elab.async false
set_option linter.all false
set_option maxRecDepth 100000
set_option maxHeartbeats 4000000
/-! GV16b: two names at once, items set, pop, while. -/
namespace GV
open PySem L2
section
variable {A : Stat} {Wi : Wd} {Hi : Hp} {W W1 : Wd} {h h1 : MH} {oA : Nat → Option Addr} {ss ss' : SS} {σ : L2.St} {H H1 : Hp} {Wx : WX} {Dn : Ends}
def Wd.put (o : Bool) (W1 : Wd) (H H1 : Hp) : Wd := match o with
  | true => W1
  | false => W1.fz H H1
theorem put_ext {o : Bool} (x : Ext W H W1 H1) : Ext W H (W1.put o H H1) H1 := by
  cases o
  · exact fz_ext x
  · exact x
theorem put_ok {o : Bool} (w1 : WOkA A W1 h1 H1) : WOkA A (W1.put o H H1) h1 H1 := by
  cases o
  · exact fz_ok w1
  · exact w1
theorem put_exs {o : Bool} (w : WOkA A W h H) (x : Ext W H W1 H1) : ExS W H (W1.put o H H1) H1 := by
  cases o
  · exact fz_exs2 w x
  · exact x.exs w
theorem SSt.put {o : Bool} (st : SSt A Wi Hi W h oA ss σ H) (x : Ext W H W1 H1) (w1 : WOkA A W1 h1 H1) : SSt A Wi Hi (W1.put o H H1) h1 oA ss σ H1 := by
  cases o
  · exact st.fz x w1
  · exact st.ext x w1
theorem put_set {o : Bool} {j : Nat} {v : V} {r : R} (st : SSt A Wi Hi W h oA ss σ H) (x : Ext W H W1 H1) (w1 : WOkA A W1 h1 H1) (q : RRel A.K W1 H H1 v r) (e : putS o j r ss = some ss') : ∃ oA', SSt A Wi Hi (W1.put o H H1) h1 oA' ss' (σ.set j (some v)) H1 := by
  cases o with
  | true =>
    cases r with
    | v d => cases e
    | bw d => cases e
    | nl xs =>
      simp only [putS, setSl] at e
      split at e
      · rename_i hj
        cases e
        obtain ⟨b, vs, rfl, n, e3, e4, e5, e6⟩ := q
        have st1 := st.ext x w1
        refine ⟨_, w1, SRel.setOwn st.s n st1.s hj e3 e4 e5 e6, st1.x, fun i a z => ?_⟩
        split at z
        · cases z; exact st.x.new n
        · exact st.f i a z
      · cases e
  | false =>
    simp only [putS] at e
    cases e1 : r.toD with
    | none => rw [e1] at e; cases e
    | some d =>
      rw [e1] at e
      simp only [Option.bind_some, setSl] at e
      split at e
      · rename_i hj
        cases e
        exact ⟨oA, (st.fz x w1).setV hj (q.fz e1)⟩
      · cases e
theorem imp_parO {o o' : Bool} {i j : Nat} {a b : E} (z : tS A Wi Hi Wx (.par2 o o' i j a b) Dn σ H) : tPar i j (tCons (tE A Wx a) (tCons (tE A Wx b) tNil)) Dn σ H := by
  obtain ⟨W, h, oA, ss, st, p⟩ := z
  rw [evS] at p
  refine S_bind st p fun W1 H1 r h1 v x1 w1 st1 q p1 => ?_
  have stB : SSt A Wi Hi (W1.put o H H1) h1 oA ss σ H1 := st.put x1 w1
  refine S_bind stB (PostS.mono (put_exs st.w x1) p1) fun W2 H2 r' h2 v' x2 w2 st2 q2 p2 => ?_
  cases e1 : putS o i r ss with
  | none => rw [e1] at p2; exact p2.elim
  | some ss1 =>
    rw [e1] at p2
    simp only [Option.bind_some] at p2
    cases e2 : putS o' j r' ss1 with
    | none => rw [e2] at p2; exact p2.elim
    | some ss2 =>
      rw [e2] at p2
      obtain ⟨oA1, stN⟩ := put_set st x1 w1 q e1
      obtain ⟨oA2, stM⟩ := put_set stN x2 w2 q2 e2
      exact ⟨v, v', rfl, p2 _ H2 oA2 _ stM (put_exs stB.w x2)⟩
theorem imp_par3 {o o' o'' : Bool} {i j l : Nat} {a b c : E} (z : tS A Wi Hi Wx (.par3 o o' o'' i j l a b c) Dn σ H) : tPar3 i j l (tCons (tE A Wx a) (tCons (tE A Wx b) (tCons (tE A Wx c) tNil))) Dn σ H := by
  obtain ⟨W, h, oA, ss, st, p⟩ := z
  rw [evS] at p
  refine S_bind st p fun W1 H1 r h1 v x1 w1 st1 q p1 => ?_
  have stB : SSt A Wi Hi (W1.put o H H1) h1 oA ss σ H1 := st.put x1 w1
  refine S_bind stB (PostS.mono (put_exs st.w x1) p1) fun W2 H2 r' h2 v' x2 w2 st2 q2 p2 => ?_
  have stC : SSt A Wi Hi (W2.put o' H1 H2) h2 oA ss σ H2 := stB.put x2 w2
  refine S_bind stC (PostS.mono (put_exs stB.w x2) p2) fun W3 H3 r'' h3 v'' x3 w3 st3 q3 p3 => ?_
  cases e1 : putS o i r ss with
  | none => rw [e1] at p3; exact p3.elim
  | some ss1 =>
    rw [e1] at p3
    simp only [Option.bind_some] at p3
    cases e2 : putS o' j r' ss1 with
    | none => rw [e2] at p3; exact p3.elim
    | some ss2 =>
      rw [e2] at p3
      simp only [Option.bind_some] at p3
      cases e3 : putS o'' l r'' ss2 with
      | none => rw [e3] at p3; exact p3.elim
      | some ss3 =>
        rw [e3] at p3
        obtain ⟨oA1, stN⟩ := put_set st x1 w1 q e1
        obtain ⟨oA2, stM⟩ := put_set stN x2 w2 q2 e2
        obtain ⟨oA3, stL⟩ := put_set stM x3 w3 q3 e3
        exact ⟨v, v', v'', rfl, p3 _ H3 oA3 _ stL (put_exs stC.w x3)⟩
theorem simp_var {a : Nat} {k : Int} (st : SSt A Wi Hi W h oA ss σ H) (e : simpI ss (.v a) = some k) : σ[a]? = some (some (.int k)) := by
  have e0 : ss[a]? = some (some (.v (.int k))) := by
    simp only [simpI] at e
    split at e
    · rename_i z e0
      rw [e0, Option.some.inj e]
    · cases e
  obtain ⟨v, k1, k2⟩ := st.s.vs a _ e0
  cases k2
  exact k1
theorem imp_setT {j a b : Nat} {e : E} (z : tS A Wi Hi Wx (.setT j a b e) Dn σ H) : tAsg (tE A Wx e) (gTup A.K 2 (gCons (gSub (tVar j) (tVar a) rSetL) (gCons (gSub (tVar j) (tVar b) rSetL) gNil))) Dn σ H := by
  obtain ⟨W, h, oA, ss, st, p⟩ := z
  rw [evS] at p
  split at p
  · rename_i xs e0
    refine S_bind st p fun W1 H1 r h1 v x1 w1 st1 q p1 => ?_
    split at p1
    · rename_i d1 d2 e1
      split at p1
      · rename_i k1 k2 g1 g2
        split at p1
        · rename_i n1 n2 i1 i2
          have st2 := st.fz x1 w1
          have rq := q.fz e1
          cases rq with
          | @tup p vs _ hp hv =>
            cases hv with
            | cons r1 hv =>
              cases hv with
              | cons r2 hv =>
                cases hv
                rename_i v1 v2
                have hj : j < ss.length := (List.getElem?_eq_some_iff.mp e0).1
                obtain ⟨a1, vs1, k1', k2', k3', k4'⟩ := st2.s.own j xs e0
                obtain ⟨st4, y4⟩ := st2.chgOwn hj k1' k2' k3' (k4'.set n1 r1)
                have e4 : (ss.set j (some (.own (xs.set n1 d1))))[j]? = some (some (.own (xs.set n1 d1))) := List.getElem?_set_self hj
                obtain ⟨a2, vs2, l1', l2', l3', l4'⟩ := st4.s.own j _ e4
                have ea : a2 = a1 := by rw [k2'] at l2'; cases l2'; rfl
                subst ea
                obtain ⟨st5, y5⟩ := st4.chgOwn (by rw [List.length_set]; exact hj) l1' l2' l3' (l4'.set n2 (Rep.exs y4 r2))
                rw [List.set_set] at st5
                have ev2 : vs2 = vs1.set n1 v1 := by
                  rw [upd_same] at l3'
                  cases l3'
                  rfl
                refine ⟨_, [v1, v2], rfl, hp, rfl, v1, [v2], rfl, .ref a2, k2', .int k1, simp_var st2 g1, a2, vs1, k1, n1, rfl, rfl, k3', by rw [k4'.length]; exact i1, ?_⟩
                refine ⟨v2, [], rfl, .ref a2, k2', .int k2, simp_var st2 g2, a2, vs2, k2, n2, rfl, rfl, l3', by rw [l4'.length, List.length_set]; exact i2, rfl, ?_⟩
                unfold setSl at p1
                rw [if_pos hj] at p1
                exact p1 _ _ _ _ st5 ((fz_exs2 st.w x1).trans (y4.trans y5))
        · exact p1.elim
      · exact p1.elim
    · exact p1.elim
  · exact p.elim
theorem imp_setI {j : Nat} {i e : E} (z : tS A Wi Hi Wx (.setI j i e) Dn σ H) : tAsg (tE A Wx e) (gSub (tVar j) (tE A Wx i) rSetL) Dn σ H := by
  obtain ⟨W, h, oA, ss, st, p⟩ := z
  rw [evS] at p
  split at p
  · rename_i xs e0
    refine S_bind st p fun W1 H1 r h1 v x1 w1 st1 q p1 => ?_
    cases e1 : r.toD with
    | none => rw [e1] at p1; exact p1.elim
    | some d =>
      rw [e1] at p1
      have st2 := st.fz x1 w1
      obtain ⟨a, vs, k1, k2, k3, k4⟩ := st2.s.own j xs e0
      refine ⟨.ref a, k2, ?_⟩
      refine S_bind st2 (PostS.mono (fz_exs2 st.w x1) p1) fun W2 H2 r2 h2 v2 x2 w2 st3 q2 p2 => ?_
      split at p2
      · rename_i kk
        cases q2
        split at p2
        · rename_i n hn
          obtain ⟨a', vs', k1', k2', k3', k4'⟩ := st3.s.own j xs e0
          have ea : a' = a := by rw [k2] at k2'; cases k2'; rfl
          subst ea
          have hj : j < ss.length := (List.getElem?_eq_some_iff.mp e0).1
          obtain ⟨st4, y4⟩ := st3.chgOwn hj k1' k2' k3' (k4'.set n ((q.fz e1).ext st2.w x2))
          refine ⟨a', vs', kk, n, rfl, rfl, k3', by rw [k4'.length]; exact hn, ?_⟩
          unfold setSl at p2
          rw [if_pos hj] at p2
          exact p2 _ _ _ _ st4 ((x2.exs st2.w).trans y4)
        · exact p2.elim
      · exact p2.elim
  · exact p.elim
theorem RepL.erase {K : PySem.W.Frag} {W : Wd} {H : Hp} : ∀ {vs : List V} {ds : List D} (n : Nat), RepL K W H vs ds → RepL K W H (vs.eraseIdx n) (ds.eraseIdx n)
  | _, _, _, .nil => .nil
  | _, _, 0, .cons _ b => b
  | _, _, n + 1, .cons a b => .cons a (RepL.erase n b)
theorem popL_one {xs : List D} {r : R} {d : D} {zs : List D} (e : popL xs [r] = some (d, zs)) : ∃ i : Int, r = .v (.int i) ∧ 0 ≤ i ∧ i < xs.length ∧ i < 1000000 ∧ xs[i.toNat]? = some d ∧ zs = xs.eraseIdx i.toNat := by
  cases r with
  | nl _ => cases e
  | bw _ => cases e
  | v x =>
    cases x with
    | int i =>
      simp only [popL] at e
      split at e
      · rename_i hc
        simp only [Option.map_eq_some_iff, Prod.mk.injEq] at e
        obtain ⟨a, e1, e2, e3⟩ := e
        subst e2
        exact ⟨i, rfl, hc.1, hc.2.1, hc.2.2, e1, e3.symm⟩
      · cases e
    | _ => cases e
theorem imp_appPop {j l : Nat} {e : E} (z : tS A Wi Hi Wx (.appPop j l e) Dn σ H) : tDrop (tBM A.K "list" rAppend (tVar j) (tCons (tBM A.K "list" rPopAt (tVar l) (tCons (tE A Wx e) tNil)) tNil)) Dn σ H := by
  obtain ⟨W, h, oA, ss, st, p⟩ := z
  rw [evS] at p
  split at p
  · rename_i ys xs ej el
    obtain ⟨a, vs, a1, a2, a3, a4⟩ := st.s.own j ys ej
    obtain ⟨b, us, b1, b2, b3, b4⟩ := st.s.own l xs el
    refine ⟨.ref a, a2, tyV_list a3, ⟨.ref b, b2, tyV_list b3, ?_⟩⟩
    refine S_bind st p fun W1 H1 r h1 v x1 w1 st1 q p1 => ?_
    cases hp : popL xs [r] with
    | none => rw [hp] at p1; exact p1.elim
    | some dz =>
      obtain ⟨d, zs⟩ := dz
      rw [hp] at p1
      simp only at p1
      obtain ⟨i, rfl, i1, i2, i3, i4, rfl⟩ := popL_one hp
      cases q
      obtain ⟨b', us', b1', b2', b3', b4'⟩ := st1.s.own l xs el
      have eb : b' = b := by rw [b2] at b2'; cases b2'; rfl
      subst eb
      obtain ⟨u, hu, ru⟩ := b4'.get' i4
      split at p1
      · rename_i hc
        have hl : l < ss.length := (List.getElem?_eq_some_iff.mp el).1
        have hj : j < ss.length := (List.getElem?_eq_some_iff.mp ej).1
        have hj' : j < (ss.set l (some (.own (xs.eraseIdx i.toNat)))).length := by simpa using hj
        obtain ⟨st2, y2⟩ := st1.chgOwn hl b1' b2' b3' (b4'.erase i.toNat)
        have ej2 : (ss.set l (some (.own (xs.eraseIdx i.toNat))))[j]? = some (some (.own ys)) := by rw [List.getElem?_set_ne (Ne.symm hc.1)]; exact ej
        obtain ⟨a', vs', a1', a2', a3', a4'⟩ := st2.s.own j ys ej2
        have ea : a' = a := by rw [a2] at a2'; cases a2'; rfl
        subst ea
        have lu : us'.length = xs.length := b4'.length
        refine ⟨b', us', i, i.toNat, u, rfl, rfl, b3', by omega, by omega, ?_, hu, ?_⟩
        · unfold seqIndex?
          rw [lu]
          simp only [show ¬ (i < 0) by omega, if_false]
          split
          · rename_i hh; first | rfl | (exfalso; omega) | simp at hh; omega
          · rename_i hh; first | rfl | (exfalso; omega) | simp at hh; omega
        · have ru2 : Rep A.K W1 (upd H1 b' (.lst (us'.eraseIdx i.toNat))) u d := Rep.chg b3' (st1.s.free l b' b1').2.1 ru
          obtain ⟨st3, y3⟩ := st2.chgOwn hj' a1' a2' a3' (a4'.append (.cons ru2 .nil))
          have hs : vs'.length < sizeLine := by
            have := of_decide_eq_true hc.2
            rw [a4'.length]
            exact Nat.lt_of_lt_of_le (show ys.length < 1000001 by omega) (by decide)
          refine ⟨a', vs', u, rfl, rfl, a3', hs, ?_⟩
          unfold setSl at p1
          rw [if_pos hl] at p1
          simp only [Option.bind_some] at p1
          rw [if_pos hj'] at p1
          exact p1 _ _ _ _ st3 (((x1.exs st.w).trans y2).trans y3)
      · exact p1.elim
  · exact p.elim
theorem imp_popX {l : Nat} {e : E} (z : tS A Wi Hi Wx (.popX l e) Dn σ H) : tDrop (tBM A.K "list" rPopAt (tVar l) (tCons (tE A Wx e) tNil)) Dn σ H := by
  obtain ⟨W, h, oA, ss, st, p⟩ := z
  rw [evS] at p
  split at p
  · rename_i xs el
    obtain ⟨b, us, b1, b2, b3, b4⟩ := st.s.own l xs el
    refine ⟨.ref b, b2, tyV_list b3, ?_⟩
    refine S_bind st p fun W1 H1 r h1 v x1 w1 st1 q p1 => ?_
    cases hp : popL xs [r] with
    | none => rw [hp] at p1; exact p1.elim
    | some dz =>
      obtain ⟨d, zs⟩ := dz
      rw [hp] at p1
      simp only at p1
      obtain ⟨i, rfl, i1, i2, i3, i4, rfl⟩ := popL_one hp
      cases q
      obtain ⟨b', us', b1', b2', b3', b4'⟩ := st1.s.own l xs el
      have eb : b' = b := by rw [b2] at b2'; cases b2'; rfl
      subst eb
      obtain ⟨u, hu, ru⟩ := b4'.get' i4
      have hl : l < ss.length := (List.getElem?_eq_some_iff.mp el).1
      obtain ⟨st2, y2⟩ := st1.chgOwn hl b1' b2' b3' (b4'.erase i.toNat)
      have lu : us'.length = xs.length := b4'.length
      refine ⟨b', us', i, i.toNat, u, rfl, rfl, b3', by omega, by omega, ?_, hu, ?_⟩
      · unfold seqIndex?
        rw [lu]
        simp only [show ¬ (i < 0) by omega, if_false]
        split
        · rename_i hh; first | rfl | (exfalso; omega) | simp at hh; omega
        · rename_i hh; first | rfl | (exfalso; omega) | simp at hh; omega
      · unfold setSl at p1
        rw [if_pos hl] at p1
        exact p1 _ _ _ _ st2 ((x1.exs st.w).trans y2)
  · exact p.elim
theorem imp_while {c : E} {b : List S} (z : tS A Wi Hi Wx (.while_ c b) Dn σ H) : tWhile (tT A Wx c) (tBk A Wi Hi Wx b) Dn σ H := by
  obtain ⟨W, h, oA, ss, st, p⟩ := z
  rw [evS] at p
  refine ⟨fun m σ' H' => ∃ W' h' oA' ss', SSt A Wi Hi W' h' oA' ss' σ' H' ∧ PostS A Wi Hi W' H' Wx Dn (evWhile (fun ss h => (evE A.G c ss h).bind fun r h => O.of h (blE r)) (evB A.G b) m ss' h'), ⟨A.G.wf, W, h, oA, ss, st, p⟩, fun m σ' H' ⟨W', h', oA', ss', st', pp⟩ => ?_⟩
  cases m with
  | zero => exact (show False from pp).elim
  | succ m =>
    rw [evWhile] at pp
    refine S_bindT st' pp fun W1 H1 t h1 x1 st1 p1 => ?_
    cases t with
    | false =>
      rw [if_neg Bool.false_ne_true]
      exact p1 W1 H1 oA' σ' st1 (ExS.refl _ _)
    | true =>
      rw [if_pos rfl]
      refine ⟨fun σ2 H2 => ∃ W' h' oA' ss', SSt A Wi Hi W' h' oA' ss' σ2 H2 ∧ PostS A Wi Hi W' H2 Wx Dn (evWhile (fun ss h => (evE A.G c ss h).bind fun r h => O.of h (blE r)) (evB A.G b) m ss' h'), fun σ2 H2 z => ⟨m, Nat.lt_succ_self _, z⟩, W1, h1, oA', ss', st1, ?_⟩
      simp only at p1
      cases eb : evB A.G b ss' h1 with
      | ok f h2 =>
        rw [eb] at p1
        cases f with
        | nx ss2 => exact fun W' H' oA2 σ2 st2 y => ⟨W', h2, oA2, ss2, st2, PostS.mono y p1⟩
        | rt r => exact p1
      | ex c h2 => rw [eb] at p1; exact p1
      | no => rw [eb] at p1; exact p1
/-! ### x[i] += e -/
theorem imp_augI {j : Nat} {o : BOp} {i e : E} {g : Int → Int → Int} (ho : (o = .add ∧ g = fun x y => x + y) ∨ (o = .sub ∧ g = fun x y => x - y)) (z : tS A Wi Hi Wx (.augI j o i e) Dn σ H) :
    tAugS (tVar j) (tE A Wx i) (tE A Wx e) (rIxL A.K) (ipI g) rSetL Dn σ H := by
  obtain ⟨W, h, oA, ss, st, p⟩ := z
  rw [evS] at p
  split at p
  · rename_i xs e0
    obtain ⟨a, vs, k1, k2, k3, k4⟩ := st.s.own j xs e0
    refine ⟨.ref a, k2, ?_⟩
    refine S_bind st p fun W1 H1 r h1 v x1 w1 st1 q p1 => ?_
    split at p1
    · rename_i kk
      cases q
      split at p1
      · rename_i n x hn hx
        obtain ⟨a1, vs1, m1, m2, m3, m4⟩ := st1.s.own j xs e0
        have ea : a1 = a := by rw [k2] at m2; cases m2; rfl
        subst ea
        obtain ⟨u, hu, ru⟩ := atI_rep m4 hx
        cases ru
        refine ⟨a1, vs1, kk, .int x, rfl, rfl, .inl (.inl m3), hu, ?_⟩
        refine S_bind st1 (PostS.mono (x1.exs st.w) p1) fun W2 H2 r2 h2 v2 x2 w2 st2 q2 p2 => ?_
        split at p2
        · rename_i y
          cases q2
          refine ⟨x, y, rfl, rfl, ?_⟩
          obtain ⟨a2, vs2, l1, l2, l3, l4⟩ := st2.s.own j xs e0
          have ea : a2 = a1 := by rw [m2] at l2; cases l2; rfl
          subst ea
          have hj : j < ss.length := (List.getElem?_eq_some_iff.mp e0).1
          obtain ⟨st4, y4⟩ := st2.chgOwn hj l1 l2 l3 (l4.set n (.int (g x y)))
          refine ⟨a2, vs2, kk, n, rfl, rfl, l3, by rw [l4.length]; exact hn, ?_⟩
          rcases ho with ⟨rfl, rfl⟩ | ⟨rfl, rfl⟩
          · simp only [setSl] at p2
            rw [if_pos hj] at p2
            exact p2 _ _ _ _ st4 ((x2.exs st1.w).trans y4)
          · simp only [setSl] at p2
            rw [if_pos hj] at p2
            exact p2 _ _ _ _ st4 ((x2.exs st1.w).trans y4)
        · exact p2.elim
      · exact p1.elim
    · exact p1.elim
  · exact p.elim
/-! ### try: return e, except .. as n: return which(n) -/
theorem WOk.grow {K : PySem.W.Frag} {cl : Cl} (w : WOk K cl W h H) (g : Grow H H1) : Ext W H W H1 ∧ WOk K cl W h H1 := by
  have x : Ext W H W H1 := ⟨fun a o e _ => g a o e, fun a e => by
    cases q : H a with
    | none => exact absurd q e
    | some o => rw [g a o q]; exact Option.some_ne_none _, fun a z => .inl z, fun _ _ e => e, fun _ e => e, fun _ e => .inl e, fun _ _ e => e⟩
  refine ⟨x, w.inj, w.dis, fun a z => ?_, fun a z => x.there a (w.frz a z), fun i m e => ?_, w.bnd, w.nxt, w.dbd, w.dnx⟩
  · rcases w.cov a z with ⟨xs, q⟩ | ⟨C, dx, fs, q⟩ | ⟨φ, q⟩
    · exact .inl ⟨xs, g _ _ q⟩
    · exact .inr (.inl ⟨C, dx, fs, g _ _ q⟩)
    · exact .inr (.inr ⟨φ, g _ _ q⟩)
  · have q := w.obj i m e
    cases m with
    | lst xs =>
      obtain ⟨a, vs, e1, e2, e3⟩ := q
      exact ⟨a, vs, e1, g _ _ e2, RepL.ext w x e3⟩
    | ins c fs =>
      obtain ⟨a, C, dx, gs, e1, e2, e3, e4⟩ := q
      refine ⟨a, C, dx, gs, e1, e2, g _ _ e3, Paired.ext w x (fun f b e5 => ?_) e4⟩
      rcases w.cov b ⟨_, e5⟩ with ⟨ys, q⟩ | ⟨C', dx', fs', q⟩ | ⟨φ, q⟩
      · rw [g _ _ q, q]
      · rw [g _ _ q, q]
      · rw [g _ _ q, q]
    | dic n kvs =>
      obtain ⟨a, ob, xs, e1, e2, e3, e4⟩ := q
      exact ⟨a, ob, xs, e1, e2, g _ _ e3, DP.map (fun _ _ z => Rep.ext w x z) e4⟩
def tsW (A : Stat) (i : Nat) (a : Addr) (cls : Value) (d : Option Addr) : TS := fun Dn σ H => ∃ c dd, A.G.wh c = some dd ∧ cls = A.xc c ∧ d = none ∧ σ[i]? = some (some (.ref a)) ∧ rWh c H Dn.rt
theorem imp_tryW {e : E} {i : Nat} {B : Value} (hB : ∀ c d, A.G.wh c = some d → d = .tup [.str "raised", .int (c : Nat)] ∧ PySem.W.exmOne A.K (A.xc c) B = some true) (z : tS A Wi Hi Wx (.tryW e i) Dn σ H) :
    tE A (wAs A.K B i (tsW A i) Wx Dn) e σ H Dn.rt := by
  obtain ⟨W, h, oA, ss, st, p⟩ := z
  rw [evS] at p
  split at p
  · rename_i hi
    refine ⟨W, h, oA, ss, st.w, st.s, ?_⟩
    cases q : evE A.G e ss h with
    | no => rw [q] at p; exact p
    | ok r h1 =>
      rw [q] at p
      intro W1 H1 x w1 v rr
      cases r with
      | v d => exact p W1 H1 v (st.x.trans x) w1 rr
      | nl xs => exact p W1 H1 v (st.x.trans x) w1 (rr.back st.x)
      | bw xs => exact p.elim
    | ex c h1 =>
      rw [q] at p
      simp only at p
      cases e1 : A.G.wh c with
      | none => rw [e1] at p; exact p.elim
      | some d =>
        rw [e1] at p
        obtain ⟨rfl, e2⟩ := hB c d e1
        intro W1 H1 x w1
        refine ⟨true, e2, fun _ a ha => ⟨c, _, e1, rfl, rfl, by rw [List.getElem?_set_self (by rw [← st.s.len]; exact hi)], fun H2 q g nq eq => ?_⟩, fun z => by cases z⟩
        obtain ⟨x2, w2⟩ := w1.grow g
        exact p W1 H2 (.ref q) ((st.x.trans x).trans x2) w2 (.tup (SqT.of eq) (.cons (.str _) (.cons (.int _) .nil)))
  · exact p.elim
end
end GV
set_option Elab.async false
set_option linter.all false
set_option maxRecDepth 100000
set_option maxHeartbeats 4000000
/-! GI2: instances in statements. -/
namespace GV
open PySem L2
/-! ### an instance's object changes -/
section
variable {K : PySem.W.Frag} {cl : Cl} {W : Wd} {H : Hp} {h : MH} {p : Addr} {C dx : Addr} {gs : List (Str × V)} {u : HO} {oA : Nat → Option Addr} {ss : SS} {σ : L2.St}
mutual
theorem Rep.chgI (e : H p = some (.ins C dx gs)) : ∀ {v : V} {d : D}, Rep K W H v d → Rep K W (upd H p u) v d
  | _, _, .non => .non
  | _, _, .bl b => .bl b
  | _, _, .int i => .int i
  | _, _, .str s => .str s
  | _, _, .tup q r => .tup (by
      rcases q with (q | ⟨o, q⟩) | q
      · exact .inl (.inl (by rw [upd_ne (ne_of q e (by intro z; cases z))]; exact q))
      · exact .inl (.inr ⟨o, by rw [upd_ne (ne_of q e (by intro z; cases z))]; exact q⟩)
      · exact .inr q) (RepL.chgI e r)
  | _, _, .lst q f r => .lst (by
      rcases q with q | ⟨o, q⟩
      · exact .inl (by rw [upd_ne (ne_of q e (by intro z; cases z))]; exact q)
      · exact .inr ⟨o, by rw [upd_ne (ne_of q e (by intro z; cases z))]; exact q⟩) f (RepL.chgI e r)
  | _, _, .obj q => .obj q
theorem RepL.chgI (e : H p = some (.ins C dx gs)) : ∀ {vs : List V} {ds : List D}, RepL K W H vs ds → RepL K W (upd H p u) vs ds
  | _, _, .nil => .nil
  | _, _, .cons a b => .cons (Rep.chgI e a) (RepL.chgI e b)
end
theorem FRel.chgI {i : Nat} {x : Str × Fd} {y : Str × V} (e : H p = some (.ins C dx gs)) (q : FRel K W H i x y) : FRel K W (upd H p u) i x y := by
  obtain ⟨f, fd⟩ := x
  cases fd with
  | v d => exact ⟨q.1, Rep.chgI e q.2⟩
  | own n xs =>
    obtain ⟨q1, a, vs, q2, q3, q4, q5⟩ := q
    exact ⟨q1, a, vs, q2, q3, by rw [upd_ne (ne_of q4 e (by intro z; cases z))]; exact q4, RepL.chgI e q5⟩
theorem WOk.setIns {i c : Nat} {fs fs' : List (Str × Fd)} {gs' : List (Str × V)} (w : WOk K cl W h H) (hi : h[i]? = some (.ins c fs)) (hk : W.k (i, none) = some p) (hc : cl c = some C) (e : H p = some (.ins C dx gs))
    (r : Paired (FRel K W H i) fs' gs') (hn : ∀ f m a, W.k (i, some (f, m)) = some a → ∃ n xs, fs'.lookup f = some (.own n xs) ∧ m ≤ n) : WOk K cl W (h.set i (.ins c fs')) (upd H p (.ins C dx gs')) := by
  have hlt : i < h.length := (List.getElem?_eq_some_iff.mp hi).1
  refine ⟨w.inj, w.dis, fun b z => ?_, fun b z => ?_, fun l o q => ?_, fun q b z => by rw [List.length_set]; exact w.bnd q b z, fun l c' fs'' hl f m b hk' => ?_, w.sdbd, w.sdnx (by intro _ _ z; cases z)⟩
  · by_cases eb : b = p
    · subst eb; exact .inr (.inl ⟨C, dx, gs', upd_same⟩)
    · rw [upd_ne eb]; exact w.cov b z
  · by_cases eb : b = p
    · subst eb; rw [upd_same]; exact Option.some_ne_none _
    · rw [upd_ne eb]; exact w.frz b z
  · by_cases el : i = l
    · subst el
      rw [List.getElem?_set_self hlt] at q
      cases q
      exact ⟨p, C, dx, gs', hk, hc, upd_same, Paired.mapP r fun _ _ z => FRel.chgI e z⟩
    · rw [List.getElem?_set_ne el] at q
      have m := w.obj l o q
      cases o with
      | lst zs =>
        obtain ⟨b, ws, e1, e2, e3⟩ := m
        exact ⟨b, ws, e1, by rw [upd_ne (ne_of e2 e (by intro z; cases z))]; exact e2, RepL.chgI e e3⟩
      | ins c2 fs2 =>
        obtain ⟨b, C2, dx2, gs2, e1, e2, e3, e4⟩ := m
        have nb : b ≠ p := fun z => el (by have := w.inj _ _ _ hk (z ▸ e1); exact congrArg Prod.fst this)
        exact ⟨b, C2, dx2, gs2, e1, e2, by rw [upd_ne nb]; exact e3, Paired.mapP e4 fun _ _ z => FRel.chgI e z⟩
      | dic n kvs =>
        obtain ⟨b, ob, ws, e1, e2, e3, e4⟩ := m
        exact ⟨b, ob, ws, e1, e2, by rw [upd_ne (ne_of e3 e (by intro z; cases z))]; exact e3, DP.map (fun _ _ z => Rep.chgI e z) e4⟩
  · by_cases el : i = l
    · subst el
      rw [List.getElem?_set_self hlt] at hl
      cases hl
      exact hn f m b hk'
    · rw [List.getElem?_set_ne el] at hl
      exact w.nxt l c' fs'' hl f m b hk'
theorem SRel.chgI (s : SRel K W H oA ss σ) (e : H p = some (.ins C dx gs)) : SRel K W (upd H p u) oA ss σ := by
  refine ⟨fun j d q => ?_, fun j xs q => ?_, fun j xs q => ?_, s.inj, fun j b q => ?_, s.len⟩
  · obtain ⟨v, e1, e2⟩ := s.vs j d q
    exact ⟨v, e1, Rep.chgI e e2⟩
  · obtain ⟨b, ws, e1, e2, e3, e4⟩ := s.own j xs q
    exact ⟨b, ws, e1, e2, by rw [upd_ne (ne_of e3 e (by intro z; cases z))]; exact e3, RepL.chgI e e4⟩
  · obtain ⟨b, ws, e2, e3, e4, e5, e6⟩ := s.bw j xs q
    exact ⟨b, ws, e2, by rw [upd_ne (ne_of e3 e (by intro z; cases z))]; exact e3, RepL.chgI e e4, e5, e6⟩
  · obtain ⟨h1, h2, h3⟩ := s.free j b q
    refine ⟨h1, h2, ?_⟩
    by_cases eb : b = p
    · subst eb; rw [upd_same]; exact Option.some_ne_none _
    · rw [upd_ne eb]; exact h3
theorem ExS.chgI (e : H p = some (.ins C dx gs)) (nF : ¬ W.F p) : ExS W H W (upd H p u) :=
  ⟨fun a zs q => by rw [upd_ne (ne_of q e (by intro z; cases z))]; exact q, fun a o u q => by rw [upd_ne (ne_of q e (by intro z; cases z))]; exact q,
   fun a o f q => by rw [upd_ne (ne_F f nF)]; exact q, fun _ _ e => e, fun _ f => f, fun _ _ e => e⟩
theorem setFd_put {i : Nat} {f : Str} {x : Fd} {y : V} (r : FRel K W H i (f, x) (f, y)) : ∀ {fs : List (Str × Fd)} {gs : List (Str × V)}, Paired (FRel K W H i) fs gs → Paired (FRel K W H i) (setFd f x fs) (putF f y gs)
  | _, _, .nil => .cons r .nil
  | (g, z) :: fs, (g', v) :: gs, .cons a b => by
    have hg : g = g' := a.1
    subst hg
    unfold setFd putF
    by_cases e : g = f
    · subst e
      rw [if_pos rfl, if_pos rfl]
      exact .cons r b
    · rw [if_neg e, if_neg e]
      exact .cons a (setFd_put r b)
theorem setFd_look {f g : Str} {x : Fd} : ∀ {fs : List (Str × Fd)}, (setFd f x fs).lookup g = if g = f then some x else fs.lookup g
  | [] => by
    unfold setFd
    rw [List.lookup_cons]
    by_cases e : g = f
    · subst e; simp
    · rw [if_neg e]
      have : (g == f) = false := by simpa using e
      rw [this]
  | (k, y) :: fs => by
    unfold setFd
    by_cases e : k = f
    · subst e
      rw [if_pos rfl, List.lookup_cons, List.lookup_cons]
      by_cases q : g = k
      · subst q; simp
      · have : (g == k) = false := by simpa using q
        rw [this, if_neg q]
    · rw [if_neg e, List.lookup_cons, List.lookup_cons, setFd_look]
      by_cases q : g = k
      · subst q; rw [if_neg e]; simp [e]
      · have : (g == k) = false := by simpa using q
        rw [this]
end
section
variable {A : Stat} {Wi : Wd} {Hi : Hp} {W W1 : Wd} {h h1 : MH} {oA : Nat → Option Addr} {ss : SS} {σ : L2.St} {H H1 : Hp} {Wx : WX} {Dn : Ends} {f : Str} {j : Nat}
theorem objAt_eq {i : Nat} (e : objAt ss j = some i) : ss[j]? = some (some (.v (.obj i))) := by
  unfold objAt at e
  split at e
  · rename_i q; cases e; exact q
  · cases e
/-- o.f = e, plain data -/
theorem imp_fldV {e : E} (hC : ClF A f) (z : tS A Wi Hi Wx (.fldV j f e) Dn σ H) : sFld A.K (tVar j) (tE A Wx e) f Dn σ H := by
  obtain ⟨W, h, oA, ss, st, p⟩ := z
  rw [evS] at p
  refine S_bind st p fun W1 H1 r h1 v x1 w1 st1 q p1 => ?_
  cases e1 : r.toD with
  | none => rw [e1] at p1; exact p1.elim
  | some d =>
    rw [e1] at p1
    cases e2 : objAt ss j with
    | none => rw [e2] at p1; exact p1.elim
    | some i =>
      rw [e2] at p1
      simp only at p1
      unfold putV at p1
      cases e3 : h1[i]? with
      | none => rw [e3] at p1; exact p1.elim
      | some o =>
        rw [e3] at p1
        cases o with
        | lst _ => exact p1.elim
        | dic _ _ => exact p1.elim
        | ins c fs =>
          simp only at p1
          split at p1
          · rename_i h' hh
            split at hh
            · rename_i hc
              cases hh
              have st2 := st.fz x1 w1
              obtain ⟨a, C, dx, gs, k1, k2, k3, k4, k5⟩ := ins_at st2.w st2.s (objAt_eq e2) e3
              have rp := q.fz e1
              have w3 : WOkA A (W1.fz H H1) _ (upd H1 a (.ins C dx (putF f v gs))) := st2.w.setIns e3 k2 k3 k4 (setFd_put (x := .v d) ⟨rfl, rp⟩ k5) fun g m b hb => by
                obtain ⟨n, xs, n1, n2⟩ := st2.w.nxt i c fs e3 g m b hb
                refine ⟨n, xs, ?_, n2⟩
                rw [setFd_look]
                by_cases eg : g = f
                · subst eg
                  have := hc.2
                  unfold isOwnF at this
                  rw [n1] at this
                  cases this
                · rw [if_neg eg]; exact n1
              have nF : ¬ (W1.fz H H1).F a := fun z => st2.w.dis a z ⟨_, k2⟩
              refine ⟨_, k1, a, C, dx, gs, rfl, k4, (hC c C k3).1, (hC c C k3).2, ?_, p1 _ _ oA σ ⟨w3, st2.s.chgI k4, st2.x.chgFp ⟨_, k2⟩, st.f⟩ ((fz_exs2 st.w x1).trans (ExS.chgI k4 nF))⟩
              have := Paired.length k5
              have := hc.1
              omega
            · cases hh
          · exact p1.elim
/-! ### o.f = [..] -/
def Wd.addF (W : Wd) (i : Nat) (f : Str) (n : Nat) (p : Addr) : Wd := { W with k := fun q => if q = (i, some (f, n)) then some p else W.k q }
theorem Wd.addF_fp {i n : Nat} {b : Addr} (nk : W.k (i, some (f, n)) = none) (a : Addr) : (W.addF i f n b).fp a ↔ a = b ∨ W.fp a := by
  constructor
  · rintro ⟨q, hq⟩
    unfold Wd.addF at hq
    simp only at hq
    split at hq
    · exact .inl (Option.some.inj hq).symm
    · exact .inr ⟨q, hq⟩
  · rintro (z | ⟨q, hq⟩)
    · subst z; exact ⟨(i, some (f, n)), by simp [Wd.addF]⟩
    · refine ⟨q, ?_⟩
      unfold Wd.addF
      simp only
      rw [if_neg (fun z => by rw [z, nk] at hq; cases hq)]
      exact hq
theorem Wd.addF_exs {i n : Nat} {b : Addr} (nk : W.k (i, some (f, n)) = none) : ExS W H (W.addF i f n b) H :=
  ⟨fun _ _ e => e, fun _ _ _ e => e, fun _ _ _ e => e, fun q a hq => by
    unfold Wd.addF
    simp only
    rw [if_neg (fun z => by rw [z, nk] at hq; cases hq)]
    exact hq, fun _ f => f, fun _ _ e => e⟩
theorem FRel.exs {K : PySem.W.Frag} {i : Nat} {W' : Wd} {x : Str × Fd} {y : Str × V} (xs : ExS W H W' H) (q : FRel K W H i x y) : FRel K W' H i x y := by
  obtain ⟨f, fd⟩ := x
  cases fd with
  | v d => exact ⟨q.1, Rep.exs xs q.2⟩
  | own n ys =>
    obtain ⟨q1, a, vs, q2, q3, q4, q5⟩ := q
    exact ⟨q1, a, vs, xs.ids _ _ q2, q3, q4, RepL.exs xs q5⟩
theorem WOk.newOwn {K : PySem.W.Frag} {cl : Cl} {i c nn : Nat} {a b C dx : Addr} {fs : List (Str × Fd)} {gs : List (Str × V)} {vs : List V} {xs : List D} (w : WOk K cl W h H) (hi : h[i]? = some (.ins c fs)) (hk : W.k (i, none) = some a) (hc : cl c = some C)
    (e : H a = some (.ins C dx gs)) (r : Paired (FRel K W H i) fs gs) (nk : W.k (i, some (f, nn)) = none) (nle : ∀ m a, W.k (i, some (f, m)) = some a → m ≤ nn) (eb : H b = some (.lst vs)) (rb : RepL K W H vs xs) (nF : ¬ W.F b) (nf : ¬ W.fp b) :
    WOk K cl (W.addF i f nn b) (h.set i (.ins c (setFd f (.own nn xs) fs))) (upd H a (.ins C dx (putF f (.ref b) gs))) := by
  have hlt : i < h.length := (List.getElem?_eq_some_iff.mp hi).1
  have fpA := Wd.addF_fp (b := b) nk
  have xS : ExS W H (W.addF i f nn b) H := Wd.addF_exs nk
  have nba : b ≠ a := ne_of eb e (by intro z; cases z)
  refine ⟨fun q q' a' h2 h3 => ?_, fun a' f' z => ?_, fun a' z => ?_, fun a' z => ?_, fun l o q => ?_, fun q a' hq => ?_, fun l c' fs' hl g m a' hk' => ?_, w.sdbd, w.sdnx (by intro _ _ z; cases z)⟩
  · unfold Wd.addF at h2 h3
    simp only at h2 h3
    split at h2
    · split at h3
      · rename_i z1 z2; rw [z1, z2]
      · cases h2; exact (nf ⟨_, h3⟩).elim
    · split at h3
      · cases h3; exact (nf ⟨_, h2⟩).elim
      · exact w.inj q q' a' h2 h3
  · rcases (fpA a').mp z with y | y
    · subst y; exact nF f'
    · exact w.dis a' f' y
  · rcases (fpA a').mp z with y | y
    · subst y; exact .inl ⟨vs, by rw [upd_ne nba]; exact eb⟩
    · by_cases ea : a' = a
      · subst ea; exact .inr (.inl ⟨C, dx, _, upd_same⟩)
      · rw [upd_ne ea]; exact w.cov a' y
  · by_cases ea : a' = a
    · subst ea; rw [upd_same]; exact Option.some_ne_none _
    · rw [upd_ne ea]; exact w.frz a' z
  · by_cases el : i = l
    · subst el
      rw [List.getElem?_set_self hlt] at q
      cases q
      refine ⟨a, C, dx, _, xS.ids _ _ hk, hc, upd_same, Paired.mapP (setFd_put (K := K) (W := W.addF i f nn b) (H := H) (i := i) (x := .own nn xs) (y := .ref b) ⟨rfl, b, vs, by simp [Wd.addF], rfl, eb, RepL.exs xS rb⟩ (Paired.mapP r fun _ _ z => FRel.exs xS z)) fun _ _ z => FRel.chgI e z⟩
    · rw [List.getElem?_set_ne el] at q
      have m := w.obj l o q
      cases o with
      | lst zs =>
        obtain ⟨b', ws, e1, e2, e3⟩ := m
        exact ⟨b', ws, xS.ids _ _ e1, by rw [upd_ne (ne_of e2 e (by intro z; cases z))]; exact e2, RepL.chgI e (RepL.exs xS e3)⟩
      | ins c2 fs2 =>
        obtain ⟨b', C2, dx2, gs2, e1, e2, e3, e4⟩ := m
        have nb : b' ≠ a := fun z => el (by have := w.inj _ _ _ hk (z ▸ e1); exact congrArg Prod.fst this)
        exact ⟨b', C2, dx2, gs2, xS.ids _ _ e1, e2, by rw [upd_ne nb]; exact e3, Paired.mapP e4 fun _ _ z => FRel.chgI e (FRel.exs xS z)⟩
      | dic n kvs =>
        obtain ⟨b', ob, ws, e1, e2, e3, e4⟩ := m
        exact ⟨b', ob, ws, xS.ids _ _ e1, e2, by rw [upd_ne (ne_of e3 e (by intro z; cases z))]; exact e3, DP.map (fun _ _ z => Rep.chgI e (Rep.exs xS z)) e4⟩
  · rw [List.length_set]
    unfold Wd.addF at hq
    simp only at hq
    split at hq
    · rename_i z; rw [z]; exact hlt
    · exact w.bnd q a' hq
  · have old : (l, some (g, m)) ≠ (i, some (f, nn)) → W.k (l, some (g, m)) = some a' := fun ne => by
      unfold Wd.addF at hk'
      simp only at hk'
      rw [if_neg ne] at hk'
      exact hk'
    by_cases el : i = l
    · subst el
      rw [List.getElem?_set_self hlt] at hl
      cases hl
      rw [setFd_look]
      by_cases eg : g = f
      · subst eg
        refine ⟨nn, xs, if_pos rfl, ?_⟩
        by_cases em : m = nn
        · omega
        · exact nle m a' (old (fun z => em (by cases z; rfl)))
      · obtain ⟨n', zs, g1, g2⟩ := w.nxt i c fs hi g m a' (old (fun z => eg (by cases z; rfl)))
        exact ⟨n', zs, by rw [if_neg eg]; exact g1, g2⟩
    · rw [List.getElem?_set_ne el] at hl
      exact w.nxt l c' fs' hl g m a' (old (fun z => el (by cases z; rfl)))
theorem imp_fldO {e : E} (hC : ClF A f) (z : tS A Wi Hi Wx (.fldO j f e) Dn σ H) : sFld A.K (tVar j) (tE A Wx e) f Dn σ H := by
  obtain ⟨W, h, oA, ss, st, p⟩ := z
  rw [evS] at p
  refine S_bind st p fun W1 H1 r h1 v x1 w1 st1 q p1 => ?_
  cases r with
  | v d => exact p1.elim
  | bw xs => exact p1.elim
  | nl xs =>
    cases e2 : objAt ss j with
    | none => rw [e2] at p1; exact p1.elim
    | some i =>
      rw [e2] at p1
      simp only at p1
      obtain ⟨b, vs, rfl, n, e3, e4, e5, e6⟩ := q
      cases e7 : putO h1 i f xs with
      | none => rw [e7] at p1; exact p1.elim
      | some h' =>
        rw [e7] at p1
        simp only at p1
        -- what was set
        have hp : ∃ c fs nn, h1[i]? = some (.ins c fs) ∧ fs.length ≤ 100 ∧ h' = h1.set i (.ins c (setFd f (.own nn xs) fs)) ∧ W1.k (i, some (f, nn)) = none ∧ ∀ m a, W1.k (i, some (f, m)) = some a → m ≤ nn := by
          unfold putO at e7
          cases e8 : h1[i]? with
          | none => rw [e8] at e7; cases e7
          | some o =>
            rw [e8] at e7
            cases o with
            | lst _ => cases e7
            | dic _ _ => cases e7
            | ins c fs =>
              simp only at e7
              split at e7
              · rename_i hl
                split at e7
                · rename_i m0 ys e9
                  cases e7
                  have le : ∀ m a, W1.k (i, some (f, m)) = some a → m ≤ m0 := fun m a hk => by
                    obtain ⟨n', xs', g1, g2⟩ := w1.nxt i c fs e8 f m a hk
                    rw [e9] at g1
                    cases g1
                    exact g2
                  refine ⟨c, fs, m0 + 1, rfl, hl, rfl, ?_, fun m a hk => Nat.le_succ_of_le (le m a hk)⟩
                  cases hk : W1.k (i, some (f, m0 + 1)) with
                  | none => rfl
                  | some a => exact absurd (le _ a hk) (by omega)
                · rename_i e9
                  cases e7
                  have no : ∀ m a, W1.k (i, some (f, m)) ≠ some a := fun m a hk => by
                    obtain ⟨n', xs', g1, g2⟩ := w1.nxt i c fs e8 f m a hk
                    rw [e9] at g1
                    cases g1
                  refine ⟨c, fs, 0, rfl, hl, rfl, ?_, fun m a hk => absurd hk (no m a)⟩
                  cases hk : W1.k (i, some (f, 0)) with
                  | none => rfl
                  | some a => exact absurd hk (no 0 a)
                · cases e7
              · cases e7
        obtain ⟨c, fs, nn, g1, g2, rfl, nk, nle⟩ := hp
        have fpA := Wd.addF_fp (b := b) nk
        have xS : ExS W1 H1 (W1.addF i f nn b) H1 := Wd.addF_exs nk
        obtain ⟨a, C, dx, gs, k1, k2, k3, k4, k5⟩ := ins_at w1 st1.s (objAt_eq e2) g1
        have w2 := w1.newOwn g1 k2 k3 k4 k5 nk nle e3 e4 e5 e6
        have nb : ∀ l, oA l ≠ some b := fun l q => (st.s.free l b q).2.2 n
        have s2 : SRel A.K (W1.addF i f nn b) H1 oA ss σ := by
          refine ⟨fun i d q => ?_, fun i ys q => ?_, fun i ys q => ?_, st.s.inj, fun i a q => ?_, st.s.len⟩
          · obtain ⟨v, k1, k2⟩ := st1.s.vs i d q
            exact ⟨v, k1, Rep.exs xS k2⟩
          · obtain ⟨a, ws, k1, k2, k3, k4⟩ := st1.s.own i ys q
            exact ⟨a, ws, k1, k2, k3, RepL.exs xS k4⟩
          · obtain ⟨a, ws, k2, k3, k4, k5, k6⟩ := st1.s.bw i ys q
            obtain ⟨a', ws', k2', k3', _⟩ := st.s.bw i ys q
            have ea : a = a' := by rw [k2] at k2'; cases k2'; rfl
            refine ⟨a, ws, k2, k3, RepL.exs xS k4, fun z => ?_, k6⟩
            rcases (fpA a).mp z with y | y
            · rw [y] at ea; rw [← ea, n] at k3'; cases k3'
            · exact k5 y
          · obtain ⟨k1, k2, k3⟩ := st1.s.free i a q
            refine ⟨fun z => ?_, k2, k3⟩
            rcases (fpA a).mp z with y | y
            · subst y; exact nb i q
            · exact k1 y
        have x2 : Ext Wi Hi (W1.addF i f nn b) H1 := ⟨st1.x.keep, st1.x.there, fun a z => by
          rcases (fpA a).mp z with y | y
          · subst y; exact .inr (st.x.new n)
          · exact st1.x.fpn a y, fun q a hq => xS.ids _ _ (st1.x.ids q a hq), st1.x.fF, st1.x.fn, st1.x.ob⟩
        have ka : (W1.addF i f nn b).k (i, none) = some a := xS.ids _ _ k2
        have nF : ¬ (W1.addF i f nn b).F a := fun z => w1.dis a z ⟨_, k2⟩
        refine ⟨_, k1, a, C, dx, gs, rfl, k4, (hC c C k3).1, (hC c C k3).2, ?_, p1 _ _ oA σ ⟨w2, s2.chgI k4, x2.chgFp ⟨_, ka⟩, st.f⟩ (((x1.exs st.w).trans xS).trans (ExS.chgI k4 nF))⟩
        have := Paired.length k5
        omega
/-! ### o.f[i] = e, o.f.append(e) -/
theorem setFd_own {K : PySem.W.Frag} {i n : Nat} {b : Addr} {vs us : List V} {xs ys : List D} (inj : ∀ q q' a, W.k q = some a → W.k q' = some a → q = q') (nF : ¬ W.F b) (hb : W.k (i, some (f, n)) = some b) (e : H b = some (.lst vs)) (r : RepL K W H us ys) :
    ∀ {fs : List (Str × Fd)} {gs : List (Str × V)}, (fs.map (·.1)).Nodup → fs.lookup f = some (.own n xs) → Paired (FRel K W H i) fs gs → Paired (FRel K W (upd H b (.lst us)) i) (setFd f (.own n ys) fs) gs
  | _, _, _, el, .nil => by cases el
  | (g, z) :: fs, (g', v) :: gs, nd, el, .cons a c => by
    have other : ∀ {x : Str × Fd} {y : Str × V}, x.1 ≠ f → FRel K W H i x y → FRel K W (upd H b (.lst us)) i x y := fun {x y} hx q => by
      obtain ⟨g, fd⟩ := x
      cases fd with
      | v d => exact ⟨q.1, Rep.chg e nF q.2⟩
      | own m zs =>
        obtain ⟨q1, a, ws, q2, q3, q4, q5⟩ := q
        have nb : a ≠ b := fun z => hx (by
          have := inj _ _ _ hb (z ▸ q2)
          simp only [Prod.mk.injEq, Option.some.injEq] at this
          exact this.2.1.symm)
        exact ⟨q1, a, ws, q2, q3, by rw [upd_ne nb]; exact q4, RepL.chg e nF q5⟩
    simp only [List.map_cons, List.nodup_cons] at nd
    unfold setFd
    rw [List.lookup_cons] at el
    by_cases eg : g = f
    · subst eg
      rw [if_pos rfl]
      simp only [BEq.rfl] at el
      cases el
      obtain ⟨a1, b', ws, a2, a3, a4, a5⟩ := a
      have eb : b' = b := by rw [hb] at a2; exact (Option.some.inj a2).symm
      subst eb
      refine .cons ⟨a1, b', us, hb, a3, upd_same, RepL.chg e nF r⟩ ?_
      have : ∀ {fs : List (Str × Fd)} {gs : List (Str × V)}, g ∉ fs.map (·.1) → Paired (FRel K W H i) fs gs → Paired (FRel K W (upd H b' (.lst us)) i) fs gs := by
        intro fs gs hn q
        induction q with
        | nil => exact .nil
        | cons z _ ih =>
          simp only [List.map_cons, List.mem_cons, not_or] at hn
          exact .cons (other (Ne.symm hn.1) z) (ih hn.2)
      exact this nd.1 c
    · rw [if_neg eg]
      have : (f == g) = false := by simpa using Ne.symm eg
      rw [this] at el
      exact .cons (other eg a) (setFd_own inj nF hb e r nd.2 el c)
theorem WOk.setOwnF {K : PySem.W.Frag} {cl : Cl} {i c n : Nat} {b : Addr} {fs : List (Str × Fd)} {vs us : List V} {xs ys : List D} (w : WOk K cl W h H) (hi : h[i]? = some (.ins c fs)) (el : fs.lookup f = some (.own n xs)) (nd : (fs.map (·.1)).Nodup)
    (hb : W.k (i, some (f, n)) = some b) (e : H b = some (.lst vs)) (r : RepL K W H us ys) : WOk K cl W (h.set i (.ins c (setFd f (.own n ys) fs))) (upd H b (.lst us)) := by
  have hlt : i < h.length := (List.getElem?_eq_some_iff.mp hi).1
  have nF : ¬ W.F b := fun z => w.dis b z ⟨_, hb⟩
  refine ⟨w.inj, w.dis, fun a z => ?_, fun a z => by rw [upd_ne (ne_F z nF)]; exact w.frz a z, fun l o q => ?_, fun q a z => by rw [List.length_set]; exact w.bnd q a z, fun l c' fs' hl g m a hk => ?_, w.sdbd, w.sdnx (by intro _ _ z; cases z)⟩
  · by_cases eb : a = b
    · subst eb; exact .inl ⟨us, upd_same⟩
    · rw [upd_ne eb]; exact w.cov a z
  · by_cases eli : i = l
    · subst eli
      rw [List.getElem?_set_self hlt] at q
      cases q
      obtain ⟨a, C, dx, gs, k1, k2, k3, k4⟩ := w.obj i _ hi
      have nb : a ≠ b := fun z => by
        have := w.inj _ _ _ hb (z ▸ k1)
        cases this
      exact ⟨a, C, dx, gs, k1, k2, by rw [upd_ne nb]; exact k3, setFd_own w.inj nF hb e r nd el k4⟩
    · rw [List.getElem?_set_ne eli] at q
      have m := w.obj l o q
      have no : ∀ q', W.k (l, q') ≠ some b := fun q' z => eli (by have := w.inj _ _ _ hb z; exact congrArg Prod.fst this)
      cases o with
      | lst zs =>
        obtain ⟨a, ws, e1, e2, e3⟩ := m
        exact ⟨a, ws, e1, by rw [upd_ne (fun z => no _ (z ▸ e1))]; exact e2, RepL.chg e nF e3⟩
      | ins c2 fs2 =>
        obtain ⟨a, C, dx, gs, e1, e2, e3, e4⟩ := m
        exact ⟨a, C, dx, gs, e1, e2, by rw [upd_ne (fun z => no _ (z ▸ e1))]; exact e3, Paired.setOther e nF (fun f z => no _ z) e4⟩
      | dic n' kvs =>
        obtain ⟨a, ob, ws, e1, e2, e3, e4⟩ := m
        exact ⟨a, ob, ws, e1, e2, by rw [upd_ne (fun z => no _ (z ▸ e1))]; exact e3, DP.map (fun _ _ z => Rep.chg e nF z) e4⟩
  · by_cases eli : i = l
    · subst eli
      rw [List.getElem?_set_self hlt] at hl
      cases hl
      obtain ⟨n', zs, g1, g2⟩ := w.nxt i c fs hi g m a hk
      rw [setFd_look]
      by_cases eg : g = f
      · subst eg
        rw [el] at g1
        cases g1
        exact ⟨n, ys, if_pos rfl, g2⟩
      · exact ⟨n', zs, by rw [if_neg eg]; exact g1, g2⟩
    · rw [List.getElem?_set_ne eli] at hl
      exact w.nxt l c' fs' hl g m a hk
/-- behind a change of a field's list -/
theorem own_done {i n : Nat} {b : Addr} {vs us : List V} {xs ys : List D} {h' : MH} (st : SSt A Wi Hi W h oA ss σ H) (ef : objF ss h j f = some (i, .own n xs)) (hb : W.k (i, some (f, n)) = some b) (e : H b = some (.lst vs)) (r : RepL A.K W H us ys) (ep : putL h i f ys = some h') :
    SSt A Wi Hi W h' oA ss σ (upd H b (.lst us)) ∧ ExS W H W (upd H b (.lst us)) := by
  obtain ⟨c, fs, e1, e2, e3⟩ := objF_at ef
  unfold putL at ep
  rw [e2] at ep
  simp only [e3] at ep
  split at ep
  · rename_i nd
    cases ep
    exact ⟨⟨st.w.setOwnF e2 e3 nd hb e r, st.s.chgFp st.w ⟨_, hb⟩ e, st.x.chgFp ⟨_, hb⟩, st.f⟩, chg_exs e fun z => st.w.dis b z ⟨_, hb⟩⟩
  · cases ep
theorem fld_at {i n : Nat} {xs : List D} (hC : ClF A f) (w : WOkA A W h H) (s : SRel A.K W H oA ss σ) (ef : objF ss h j f = some (i, .own n xs)) {Q : VK} (k : ∀ b vs, W.k (i, some (f, n)) = some b → H b = some (.lst vs) → RepL A.K W H vs xs → Q (.ref b) H) : tFld A.K (tVar j) f σ H Q := by
  obtain ⟨c, fs, e1, e2, e3⟩ := objF_at ef
  obtain ⟨a, C, dx, gs, k1, k2, k3, k4, k5⟩ := ins_at w s e1 e2
  obtain ⟨v, l1, _, b, vs, l2, l3, l4, l5⟩ := GP.look k5 e3
  have l3' : v = .ref b := l3
  subst l3'
  exact ⟨_, k1, a, C, dx, gs, _, rfl, k4, (hC c C k3).1, (hC c C k3).2, l1, k b vs l2 l4 l5⟩
theorem imp_fldSet {ie e : E} (hC : ClF A f) (z : tS A Wi Hi Wx (.fldSet j f ie e) Dn σ H) : tAsg (tE A Wx e) (gSub (tFld A.K (tVar j) f) (tE A Wx ie) rSetL) Dn σ H := by
  obtain ⟨W, h, oA, ss, st, p⟩ := z
  rw [evS] at p
  refine S_bind st p fun W1 H1 r h1 v x1 w1 st1 q p1 => ?_
  cases e1 : r.toD with
  | none => rw [e1] at p1; exact p1.elim
  | some d =>
    rw [e1] at p1
    cases e2 : simpI ss ie with
    | none => rw [e2] at p1; exact p1.elim
    | some k =>
      rw [e2] at p1
      cases e3 : objF ss h1 j f with
      | none => rw [e3] at p1; exact p1.elim
      | some ix =>
        obtain ⟨i, x⟩ := ix
        rw [e3] at p1
        cases x with
        | v d => exact p1.elim
        | own n xs =>
          simp only at p1
          cases e4 : idxN xs.length k with
          | none => rw [e4] at p1; exact p1.elim
          | some m =>
            rw [e4] at p1
            simp only at p1
            cases e5 : putL h1 i f (xs.set m d) with
            | none => rw [e5] at p1; exact p1.elim
            | some h' =>
              rw [e5] at p1
              simp only at p1
              have st2 := st.fz x1 w1
              have rp := q.fz e1
              refine fld_at hC st2.w st2.s e3 fun b vs l2 l4 l5 => ⟨_, h1, oA, ss, st2.w, st2.s, ?_⟩
              rw [simpI_ev e2]
              intro W' H' x' w' u qu
              cases qu
              obtain ⟨b', vs', m1, m2, m3⟩ := own_at (ss := ss) w' e3
              have eb : b' = b := by rw [x'.ids _ _ l2] at m1; exact (Option.some.inj m1).symm
              subst eb
              have st3 := st2.ext x' w'
              obtain ⟨st4, y4⟩ := own_done st3 e3 m1 m2 (m3.set m (rp.ext st2.w x')) e5
              exact ⟨b', vs', k, m, rfl, rfl, m2, by rw [m3.length]; exact e4, p1 _ _ oA σ st4 (((fz_exs2 st.w x1).trans (x'.exs st2.w)).trans y4)⟩
theorem imp_fldApp {e : E} (hC : ClF A f) (z : tS A Wi Hi Wx (.fldApp j f e) Dn σ H) : tDrop (tBM A.K "list" rAppend (tFld A.K (tVar j) f) (tCons (tE A Wx e) tNil)) Dn σ H := by
  obtain ⟨W, h, oA, ss, st, p⟩ := z
  rw [evS] at p
  cases e3 : objF ss h j f with
  | none => rw [e3] at p; exact p.elim
  | some ix =>
    obtain ⟨i, x⟩ := ix
    rw [e3] at p
    cases x with
    | v d => exact p.elim
    | own n xs =>
      simp only at p
      refine fld_at (Q := fun x H1 => tyV A.K "list" x H1 ∧ tCons (tE A Wx e) tNil σ H1 fun xs H2 => rAppend x xs H2 fun _ H' => Dn.nx σ H') hC st.w st.s e3 fun b vs l2 l4 l5 => ⟨tyV_list l4, ?_⟩
      refine S_bind st p fun W1 H1 r h1 v x1 w1 st1 q p1 => ?_
      cases e1 : r.toD with
      | none => rw [e1] at p1; exact p1.elim
      | some d =>
        rw [e1] at p1
        cases e4 : objF ss h1 j f with
        | none => rw [e4] at p1; exact p1.elim
        | some ix2 =>
          obtain ⟨i2, x2⟩ := ix2
          rw [e4] at p1
          cases x2 with
          | v d => exact p1.elim
          | own n2 xs2 =>
            simp only at p1
            split at p1
            · rename_i hc
              obtain ⟨rfl, hs⟩ := hc
              cases e5 : putL h1 i2 f (xs2 ++ [d]) with
              | none => rw [e5] at p1; exact p1.elim
              | some h' =>
                rw [e5] at p1
                have st2 := st.fz x1 w1
                have rp := q.fz e1
                obtain ⟨b', vs', m1, m2, m3⟩ := own_at (ss := ss) st2.w e4
                obtain ⟨c, fs, f1, f2, f3⟩ := objF_at e3
                obtain ⟨c', fs', f1', f2', f3'⟩ := objF_at e4
                have ei : i2 = i := by rw [f1] at f1'; cases f1'; rfl
                subst ei
                have eb : b' = b := by
                  have : W1.k (i2, some (f, n)) = some b := x1.ids _ _ l2
                  have m1' : W1.k (i2, some (f, n)) = some b' := m1
                  rw [this] at m1'
                  exact (Option.some.inj m1').symm
                subst eb
                obtain ⟨st4, y4⟩ := own_done st2 e4 m1 m2 (m3.append (.cons rp .nil)) e5
                have hlen : vs'.length + 1 ≤ 1000000 := by rw [m3.length]; exact of_decide_eq_true hs
                exact ⟨b', vs', v, rfl, rfl, m2, Nat.lt_of_le_of_lt (show vs'.length ≤ 1000000 by omega) (by decide), p1 _ _ oA σ st4 ((fz_exs2 st.w x1).trans y4)⟩
            · exact p1.elim
/-! ### for i, x in enumerate(o.f) -/
theorem sameF_at {i : Nat} {x : Fd} (e : sameF i f x h = true) : ∃ c fs, h[i]? = some (.ins c fs) ∧ fs.lookup f = some x := by
  unfold sameF at e
  split at e
  · rename_i c fs q
    exact ⟨c, fs, q, by simpa using e⟩
  · cases e
theorem same_list {i n : Nat} {b : Addr} {xs : List D} (w : WOkA A W h H) (e : sameF i f (.own n xs) h = true) (hb : W.k (i, some (f, n)) = some b) : ∃ vs, H b = some (.lst vs) ∧ RepL A.K W H vs xs := by
  obtain ⟨c, fs, e1, e2⟩ := sameF_at e
  obtain ⟨a, C, dx, gs, m1, m2, m3, m4⟩ := w.obj i _ e1
  obtain ⟨v, l1, _, b', vs, l2, l3, l4, l5⟩ := GP.look m4 e2
  have eb : b' = b := by rw [hb] at l2; exact (Option.some.inj l2).symm
  subst eb
  exact ⟨vs, l4, l5⟩
theorem imp_forF {t : Tg} {b : List S} (hC : ClF A f) (z : tS A Wi Hi Wx (.forF .enum j f t b) Dn σ H) : tFor (iEnumA A.K (tCons (tFld A.K (tVar j) f) tNil)) (gTg A.K t) (tBk A Wi Hi Wx b) Dn σ H := by
  obtain ⟨W, h, oA, ss, st, p⟩ := z
  rw [evS] at p
  cases e3 : objF ss h j f with
  | none => rw [e3] at p; exact p.elim
  | some ix =>
    obtain ⟨i, x⟩ := ix
    rw [e3] at p
    cases x with
    | v d => exact p.elim
    | own n xs =>
      have hI : itemsR .enum [.nl xs] = some (xs.zipIdx.map fun p => D.tup [.int (p.2 : Nat), p.1]) := rfl
      simp only [hI] at p
      generalize hds : (xs.zipIdx.map fun p => D.tup [.int (p.2 : Nat), p.1]) = ds at p
      have hlen : ds.length = xs.length := by rw [← hds]; simp
      have hget : ∀ (k : Nat) d, xs[k]? = some d → ds[k]? = some (.tup [.int (k : Nat), d]) := fun k d hk => by rw [← hds]; simp [List.getElem?_zipIdx, hk]
      refine fld_at hC st.w st.s e3 fun bb vs l2 l4 l5 => ⟨bb, vs, rfl, .inl ⟨.inl (.inl l4), ?_⟩⟩
      let Pv : Nat → L2.St → Hp → Prop := fun k σ' H' => ∃ W' h' oA' ss', SSt A Wi Hi W' h' oA' ss' σ' H' ∧ ExS W H W' H' ∧ PostS A Wi Hi W' H' Wx Dn (evForF (evB A.G b) t i f (.own n xs) (ds.drop k) ss' h')
      refine ⟨fun k m σ' H' => m = ds.length - k ∧ k ≤ ds.length ∧ Pv k σ' H', ⟨ds.length, by simp, Nat.zero_le _, W, h, oA, ss, st, ExS.refl _ _, by simpa using p⟩, ?_⟩
      rintro k m σ' H' ⟨rfl, hk, W', h', oA', ss', st', y', pp⟩
      by_cases hlt : k < ds.length
      · have dr : ds.drop k = ds[k] :: ds.drop (k + 1) := List.drop_eq_getElem_cons hlt
        rw [dr, evForF] at pp
        cases hs : sameF i f (.own n xs) h' with
        | false => rw [hs] at pp; simp at pp; exact pp.elim
        | true =>
          rw [hs] at pp
          simp only [if_true] at pp
          obtain ⟨vs', v1, v2⟩ := same_list st'.w hs (y'.ids _ _ l2)
          have hx : k < xs.length := by omega
          obtain ⟨u, u1, u2⟩ := v2.get' (show xs[k]? = some xs[k] by simp [hx])
          refine .inr ⟨⟨vs', u, .inl (.inl v1), u1⟩, Pv (k + 1), fun σ2 H2 pv => ⟨ds.length - (k + 1), by omega, rfl, hlt, pv⟩, fun x H'' hy => ?_⟩
          obtain ⟨T, x1, rfl, nT, rfl, hall⟩ := hy
          have ex : x1 = u := by
            have := hall vs' (.inl (.inl v1))
            rw [u1] at this
            exact (Option.some.inj this).symm
          subst ex
          obtain ⟨q1, q2, q3⟩ := new_pair st'.w nT (.int (k : Nat)) u2
          have ed : ds[k] = .tup [.int (k : Nat), xs[k]] := by
            have := hget k xs[k] (by simp [hx])
            rw [List.getElem?_eq_getElem hlt] at this
            exact Option.some.inj this
          rw [ed] at pp
          cases ea : asgT t (.tup [.int (k : Nat), xs[k]]) ss' with
          | none => rw [ea] at pp; exact pp.elim
          | some ss1 =>
            rw [ea] at pp
            have st3 := st'.ext q2 q3
            refine tg_ok st3.s q1 ea fun σ2 s2 _ => ⟨W', h', oA', ss1, ⟨q3, s2, st3.x, st'.f⟩, ?_⟩
            have ye : ExS W' H' W' _ := q2.exs st'.w
            simp only [O.of_some, O.bind_ok] at pp
            cases eb : evB A.G b ss1 h' with
            | ok fl h2 =>
              rw [eb] at pp
              cases fl with
              | nx ss2 => exact fun W4 H4 oA4 σ4 st4 y4 => ⟨W4, h2, oA4, ss2, st4, (y'.trans ye).trans y4, PostS.mono (ye.trans y4) pp⟩
              | rt r => exact pp
            | ex c h2 => rw [eb] at pp; exact pp
            | no => rw [eb] at pp; exact pp
      · have ek : k = ds.length := by omega
        subst ek
        rw [List.drop_length, evForF] at pp
        cases hs : sameF i f (.own n xs) h' with
        | false => rw [hs] at pp; simp at pp; exact pp.elim
        | true =>
          rw [hs] at pp
          simp only [if_true] at pp
          obtain ⟨vs', v1, v2⟩ := same_list st'.w hs (y'.ids _ _ l2)
          exact .inl ⟨⟨vs', .inl (.inl v1), by rw [v2.length]; omega⟩, pp W' H' oA' σ' st' (ExS.refl _ _)⟩
/-! ### t = xs.pop() -/
theorem imp_pop {t : Tg} {l : Nat} (z : tS A Wi Hi Wx (.pop t l []) Dn σ H) : tAsg (tBM0 A.K "list" rPop (tVar l)) (gTg A.K t) Dn σ H := by
  obtain ⟨W, h, oA, ss, st, p⟩ := z
  rw [evS, evL] at p
  simp only [O.bind_ok] at p
  split at p
  · rename_i xs e0
    obtain ⟨a, vs, k1, k2, k3, k4⟩ := st.s.own l xs e0
    unfold popL at p
    simp only at p
    cases e1 : xs[xs.length - 1]? with
    | none => rw [e1] at p; exact p.elim
    | some d =>
      rw [e1] at p
      simp only [Option.map_some] at p
      obtain ⟨u, u1, u2⟩ := k4.get' e1
      have hl : l < ss.length := (List.getElem?_eq_some_iff.mp e0).1
      have rd : RepL A.K W H vs.dropLast xs.dropLast := by
        rw [List.dropLast_eq_take, List.dropLast_eq_take, k4.length]
        exact k4.take _
      obtain ⟨st4, y4⟩ := st.chgOwn hl k1 k2 k3 rd
      unfold setSl at p
      rw [if_pos hl] at p
      simp only [Option.bind_some] at p
      refine ⟨_, k2, tyV_list k3, a, vs, u, rfl, rfl, k3, by rw [k4.length]; exact u1, ?_⟩
      cases e2 : asgT t d (ss.set l (some (.own xs.dropLast))) with
      | none => rw [e2] at p; exact p.elim
      | some ss' =>
        rw [e2] at p
        exact tg_ok st4.s (Rep.chg k3 (st.s.free l a k1).2.1 u2) e2 fun σ' s' _ => p _ _ oA σ' ⟨st4.w, s', st4.x, st.f⟩ y4
  · exact p.elim
end
end GV
set_option Elab.async false
set_option linter.all false
set_option maxRecDepth 100000
set_option maxHeartbeats 4000000
/-! GJ3: dicts in statements; four names at once. -/
namespace GV
open PySem L2
section
variable {A : Stat} {Wi : Wd} {Hi : Hp} {W W1 : Wd} {h h1 : MH} {oA : Nat → Option Addr} {ss ss' : SS} {σ : L2.St} {H H1 : Hp} {Wx : WX} {Dn : Ends} {j : Nat}
/-- a dict's object changes -/
def Wd.bump (W : Wd) (i n : Nat) (o : Obj × List (NestedKey × Addr × Value)) : Wd := { W with ob := fun q => if q = (i, n) then some o else W.ob q }
theorem WOk.setDic {K : PySem.W.Frag} {cl : Cl} {i n : Nat} {a : Addr} {o : Obj} {φ : Heap → Prop} {kvs kvs' : List (D × D)} {xs : List (NestedKey × Addr × Value)} (w : WOk K cl W h H) (hi : h[i]? = some (.dic n kvs)) (hk : W.k (i, none) = some a) (e : H a = some (.ext φ)) (r : Paired (DP K W H) kvs' xs) :
    WOk K cl (W.bump i (n + 1) (o, xs)) (h.set i (.dic (n + 1) kvs')) (upd H a (DicO cl.w a o xs)) ∧ ExS W H (W.bump i (n + 1) (o, xs)) (upd H a (DicO cl.w a o xs)) := by
  have hlt : i < h.length := (List.getElem?_eq_some_iff.mp hi).1
  have nF : ¬ W.F a := fun z => w.dis a z ⟨_, hk⟩
  have no : W.ob (i, n + 1) = none := by
    cases q : W.ob (i, n + 1) with
    | none => rfl
    | some u => exact absurd (w.dnx i n kvs hi _ _ q) (by omega)
  have obs : ∀ q u, W.ob q = some u → (W.bump i (n + 1) (o, xs)).ob q = some u := fun q u hq => by
    unfold Wd.bump
    simp only
    rw [if_neg (fun z => by rw [z, no] at hq; cases hq)]
    exact hq
  have x : ExS W H (W.bump i (n + 1) (o, xs)) (upd H a (DicO cl.w a o xs)) :=
    ⟨fun b zs q => by rw [upd_ne (ne_of q e (by intro z; cases z))]; exact q, fun b o u q => by rw [upd_ne (ne_of q e (by intro z; cases z))]; exact q,
     fun b u f q => by rw [upd_ne (ne_F f nF)]; exact q, fun _ _ z => z, fun _ f => f, obs⟩
  refine ⟨⟨w.inj, w.dis, fun b z => ?_, fun b f => by rw [upd_ne (ne_F f nF)]; exact w.frz b f, fun l m q => ?_, fun q b z => by rw [List.length_set]; exact w.bnd q b z, fun l c fs hl f m b hk' => ?_, fun q u hq => ?_, fun l m kv hl c u hq => ?_⟩, x⟩
  · by_cases eb : b = a
    · subst eb; exact .inr (.inr ⟨_, upd_same⟩)
    · rw [upd_ne eb]; exact w.cov b z
  · by_cases el : i = l
    · subst el
      rw [List.getElem?_set_self hlt] at q
      cases q
      exact ⟨a, o, xs, hk, by simp [Wd.bump], upd_same, DP.map (fun _ _ z => Rep.exs x z) r⟩
    · rw [List.getElem?_set_ne el] at q
      exact MRel.exs x (fun f b hb => upd_ne fun z => el (by have := w.inj _ _ _ hk (z ▸ hb); exact congrArg Prod.fst this)) (w.obj l m q)
  · by_cases el : i = l
    · subst el
      rw [List.getElem?_set_self hlt] at hl
      cases hl
    · rw [List.getElem?_set_ne el] at hl
      exact w.nxt l c fs hl f m b hk'
  · rw [List.length_set]
    unfold Wd.bump at hq
    simp only at hq
    split at hq
    · rename_i z; rw [z]; exact hlt
    · exact w.dbd q u hq
  · unfold Wd.bump at hq
    simp only at hq
    by_cases el : i = l
    · subst el
      rw [List.getElem?_set_self hlt] at hl
      cases hl
      split at hq
      · rename_i z; cases z; exact Nat.le_refl _
      · exact Nat.le_succ_of_le (w.dnx i n kvs hi c u hq)
    · rw [List.getElem?_set_ne el] at hl
      rw [if_neg (fun z => el (by cases z; rfl))] at hq
      exact w.dnx l m kv hl c u hq
theorem SRel.chgD {K : PySem.W.Frag} {cl : Cl} {W' : Wd} {a : Addr} {u : HO} (w : WOk K cl W h H) (s : SRel K W H oA ss σ) (hf : W.fp a) (x : ExS W H W' (upd H a u)) (hF : ∀ b, W'.F b → W.F b) (hp : ∀ b, W'.fp b → W.fp b) : SRel K W' (upd H a u) oA ss σ := by
  refine ⟨fun j d q => ?_, fun j xs q => ?_, fun j xs q => ?_, s.inj, fun j b q => ?_, s.len⟩
  · obtain ⟨v, e1, e2⟩ := s.vs j d q
    exact ⟨v, e1, Rep.exs x e2⟩
  · obtain ⟨b, ws, e1, e2, e3, e4⟩ := s.own j xs q
    have nb : b ≠ a := fun z => (s.free j b e1).1 (z ▸ hf)
    exact ⟨b, ws, e1, e2, by rw [upd_ne nb]; exact e3, RepL.exs x e4⟩
  · obtain ⟨b, ws, e2, e3, e4, e5, e6⟩ := s.bw j xs q
    have nb : b ≠ a := fun z => e5 (z ▸ hf)
    exact ⟨b, ws, e2, by rw [upd_ne nb]; exact e3, RepL.exs x e4, fun z => e5 (hp b z), e6⟩
  · obtain ⟨h1, h2, h3⟩ := s.free j b q
    have nb : b ≠ a := fun z => h1 (z ▸ hf)
    exact ⟨fun z => h1 (hp b z), fun z => h2 (hF b z), by rw [upd_ne nb]; exact h3⟩
theorem SSt.setDic {i n : Nat} {a : Addr} {o : Obj} {φ : Heap → Prop} {kvs kvs' : List (D × D)} {xs : List (NestedKey × Addr × Value)} (st : SSt A Wi Hi W h oA ss σ H) (hi : h[i]? = some (.dic n kvs)) (hk : W.k (i, none) = some a) (e : H a = some (.ext φ)) (r : Paired (DP A.K W H) kvs' xs) :
    SSt A Wi Hi (W.bump i (n + 1) (o, xs)) (h.set i (.dic (n + 1) kvs')) oA ss σ (upd H a (DicO A.cl.w a o xs)) ∧ ExS W H (W.bump i (n + 1) (o, xs)) (upd H a (DicO A.cl.w a o xs)) := by
  obtain ⟨w2, x2⟩ := st.w.setDic (o := o) hi hk e r
  have x0 : Ext Wi Hi W (upd H a (DicO A.cl.w a o xs)) := st.x.chgFp ⟨_, hk⟩
  exact ⟨⟨w2, st.s.chgD st.w ⟨_, hk⟩ x2 (fun _ f => f) (fun _ f => f), ⟨x0.keep, x0.there, x0.fpn, x0.ids, x0.fF, x0.fn, fun q u z => x2.ob q u (x0.ob q u z)⟩, st.f⟩, x2⟩
theorem imp_setD {i e : E} (z : tS A Wi Hi Wx (.setD j i e) Dn σ H) : sDset A.K A.cl.w (tVar j) (tE A Wx i) (tE A Wx e) Dn σ H := by
  obtain ⟨W, h, oA, ss, st, p⟩ := z
  rw [evS] at p
  refine S_bind st p fun W1 H1 r h1 v x1 w1 st1 q p1 => ?_
  split at p1
  · rename_i d ed
    have st2 := st.fz x1 w1
    have rq := q.fz ed
    cases e0 : dicAt ss h1 j with
    | none => rw [e0] at p1; exact p1.elim
    | some z0 =>
      obtain ⟨i0, n0, kv0⟩ := z0
      rw [e0] at p1
      obtain ⟨a, o, xs, k1, k2, k3, k4, k5⟩ := dic_at st2.w st2.s e0
      refine ⟨_, k1, ?_⟩
      refine S_bind st2 (PostS.mono (fz_exs2 st.w x1) p1) fun W3 H3 r3 h3 v3 x3 w3 st3 q3 p3 => ?_
      cases e3 : dicAt ss h3 j with
      | none =>
        rw [e3] at p3
        cases r3 <;> exact p3.elim
      | some z3 =>
        obtain ⟨i3, n3, kv3⟩ := z3
        rw [e3] at p3
        obtain ⟨a3, o3, xs3, l1, l2, l3, l4, l5⟩ := dic_at st3.w st3.s e3
        have ea : a3 = a := by rw [k1] at l1; cases l1; rfl
        subst ea
        cases r3 with
        | nl _ => exact p3.elim
        | bw _ => exact p3.elim
        | v kd =>
          simp only at p3
          split at p3
          · rename_i hc
            have hi := (dicAt_at e3).2
            refine ⟨a3, W3, kv3, kd, d, rfl, ⟨o3, xs3, l4, l5⟩, ?_, q3, hc.1, Rep.ext st2.w x3 rq, fun o' xs' pr => ?_⟩
            · have := small_le hc.2
              omega
            · obtain ⟨st4, y4⟩ := st3.setDic (o := o') hi l2 l4 pr
              exact p3 _ _ _ _ st4 ((x3.exs st2.w).trans y4)
          · exact p3.elim
  · exact p1.elim
theorem sameD_at {i n : Nat} {kvs : List (D × D)} (e : sameD i n kvs h = true) : h[i]? = some (.dic n kvs) := by
  unfold sameD at e
  split at e
  · rename_i n' kvs' e1
    have z : n' = n ∧ kvs' = kvs := by simpa using e
    obtain ⟨rfl, rfl⟩ := z
    exact e1
  · cases e
theorem same_dic {i n : Nat} {a : Addr} {o : Obj} {xs : List (NestedKey × Addr × Value)} {kvs : List (D × D)} (w : WOkA A W h H) (e : sameD i n kvs h = true) (hk : W.k (i, none) = some a) (ho : W.ob (i, n) = some (o, xs)) : H a = some (DicO A.cl.w a o xs) ∧ Paired (DP A.K W H) kvs xs := by
  obtain ⟨a', o', xs', m1, m2, m3, m4⟩ := w.obj i _ (sameD_at e)
  rw [hk] at m1
  cases m1
  rw [ho] at m2
  cases m2
  exact ⟨m3, m4⟩
theorem paired_at {F : D × D → NestedKey × Addr × Value → Prop} : ∀ {kvs : List (D × D)} {xs : List (NestedKey × Addr × Value)} {k : Nat} {y : NestedKey × Addr × Value}, Paired F kvs xs → xs[k]? = some y → ∃ p, kvs[k]? = some p ∧ F p y
  | _, _, _, _, .nil, e => by simp at e
  | _, _, 0, _, .cons a _, e => by simp at e; subst e; exact ⟨_, rfl, a⟩
  | _, _, k + 1, _, .cons _ b, e => by simpa using paired_at (k := k) b (by simpa using e)
theorem imp_forD {t : Tg} {b : List S} (z : tS A Wi Hi Wx (.forD j t b) Dn σ H) : tFor (iDic A.cl.w (tVar j)) (gTg A.K t) (tBk A Wi Hi Wx b) Dn σ H := by
  obtain ⟨W, h, oA, ss, st, p⟩ := z
  rw [evS] at p
  cases e3 : dicAt ss h j with
  | none => rw [e3] at p; exact p.elim
  | some z3 =>
    obtain ⟨i, n, kvs⟩ := z3
    rw [e3] at p
    simp only at p
    obtain ⟨a, o, xs, k1, k2, k3, k4, k5⟩ := dic_at st.w st.s e3
    have hlen : kvs.length = xs.length := Paired.length k5
    refine ⟨_, k1, a, o, xs, rfl, k4, ?_⟩
    generalize hds : kvs.map (·.1) = ds at p
    have hdl : ds.length = xs.length := by rw [← hds, List.length_map]; exact hlen
    let Pv : Nat → L2.St → Hp → Prop := fun k σ' H' => ∃ W' h' oA' ss', SSt A Wi Hi W' h' oA' ss' σ' H' ∧ ExS W H W' H' ∧ PostS A Wi Hi W' H' Wx Dn (evForD (evB A.G b) t i n kvs (ds.drop k) ss' h')
    refine ⟨fun k m σ' H' => m = ds.length - k ∧ k ≤ ds.length ∧ Pv k σ' H', ⟨ds.length, by simp, Nat.zero_le _, W, h, oA, ss, st, ExS.refl _ _, by simpa using p⟩, ?_⟩
    rintro k m σ' H' ⟨rfl, hk, W', h', oA', ss', st', y', pp⟩
    by_cases hlt : k < ds.length
    · have dr : ds.drop k = ds[k] :: ds.drop (k + 1) := List.drop_eq_getElem_cons hlt
      rw [dr, evForD] at pp
      cases hs : sameD i n kvs h' with
      | false => rw [hs] at pp; simp at pp; exact pp.elim
      | true =>
        rw [hs] at pp
        simp only [if_true] at pp
        obtain ⟨v1, v2⟩ := same_dic st'.w hs (y'.ids _ _ k2) (y'.ob _ _ k3)
        refine .inr ⟨⟨v1, by omega⟩, Pv (k + 1), fun σ2 H2 pv => ⟨ds.length - (k + 1), by omega, rfl, hlt, pv⟩, fun x H'' hy => ?_⟩
        obtain ⟨rfl, y, ey, rfl⟩ := hy
        obtain ⟨pr, ep, d1, d2, d3, d4⟩ := paired_at v2 ey
        have ed : ds[k] = pr.1 := by
          have : ds[k]? = some pr.1 := by rw [← hds, List.getElem?_map, ep]; rfl
          rw [List.getElem?_eq_getElem hlt] at this
          exact Option.some.inj this
        rw [ed] at pp
        cases ea : asgT t pr.1 ss' with
        | none => rw [ea] at pp; exact pp.elim
        | some ss1 =>
          rw [ea] at pp
          refine tg_ok st'.s d3 ea fun σ2 s2 _ => ⟨W', h', oA', ss1, ⟨st'.w, s2, st'.x, st'.f⟩, ?_⟩
          simp only [O.of_some, O.bind_ok] at pp
          cases eb : evB A.G b ss1 h' with
          | ok fl h2 =>
            rw [eb] at pp
            cases fl with
            | nx ss2 => exact fun W4 H4 oA4 σ4 st4 y4 => ⟨W4, h2, oA4, ss2, st4, y'.trans y4, PostS.mono y4 pp⟩
            | rt r => exact pp
          | ex c h2 => rw [eb] at pp; exact pp
          | no => rw [eb] at pp; exact pp
    · have ek : k = ds.length := by omega
      subst ek
      rw [List.drop_length, evForD] at pp
      cases hs : sameD i n kvs h' with
      | false => rw [hs] at pp; simp at pp; exact pp.elim
      | true =>
        rw [hs] at pp
        simp only [if_true] at pp
        obtain ⟨v1, v2⟩ := same_dic st'.w hs (y'.ids _ _ k2) (y'.ob _ _ k3)
        exact .inl ⟨⟨v1, by omega⟩, pp W' H' oA' σ' st' (ExS.refl _ _)⟩
theorem imp_par2T {o o' : Bool} {i j : Nat} {a b : E} (z : tS A Wi Hi Wx (.par2 o o' i j a b) Dn σ H) :
    tAsg (tTup (tCons (tE A Wx a) (tCons (tE A Wx b) tNil))) (gTup A.K 2 (gCons (gName i) (gCons (gName j) gNil))) Dn σ H := by
  obtain ⟨W, h, oA, ss, st, p⟩ := z
  rw [evS] at p
  refine S_bind st p fun W1 H1 r h1 v x1 w1 st1 q p1 => ?_
  have stB : SSt A Wi Hi (W1.put o H H1) h1 oA ss σ H1 := st.put x1 w1
  refine S_bind stB (PostS.mono (put_exs st.w x1) p1) fun W2 H2 r' h2 v' x2 w2 st2 q2 p2 => ?_
  cases e1 : putS o i r ss with
  | none => rw [e1] at p2; exact p2.elim
  | some ss1 =>
    rw [e1] at p2
    simp only [Option.bind_some] at p2
    cases e2 : putS o' j r' ss1 with
    | none => rw [e2] at p2; exact p2.elim
    | some ss2 =>
      rw [e2] at p2
      obtain ⟨oA1, stN⟩ := put_set st x1 w1 q e1
      obtain ⟨oA2, stM⟩ := put_set stN x2 w2 q2 e2
      refine ⟨by rw [sizeLine_eq]; show (2 : Nat) ≤ _; decide, fun pp np => ?_⟩
      refine ⟨pp, [v, v'], rfl, SqT.of upd_same, rfl, v, _, rfl, v', _, rfl, rfl, ?_⟩
      have xl : Ext (W2.put o' H1 H2) H2 (W2.put o' H1 H2) (upd H2 pp (.tup [v, v'])) := Ext.laid np
      have stE := stM.ext xl (stM.w.laid np)
      exact p2 _ _ oA2 _ stE ((put_exs stB.w x2).trans (xl.exs stM.w))
theorem imp_par4 {o o' o'' o3 : Bool} {i j l m : Nat} {a b c d : E} (z : tS A Wi Hi Wx (.par4 o o' o'' o3 i j l m a b c d) Dn σ H) :
    tAsg (tTup (tCons (tE A Wx a) (tCons (tE A Wx b) (tCons (tE A Wx c) (tCons (tE A Wx d) tNil))))) (gTup A.K 4 (gCons (gName i) (gCons (gName j) (gCons (gName l) (gCons (gName m) gNil))))) Dn σ H := by
  obtain ⟨W, h, oA, ss, st, p⟩ := z
  rw [evS] at p
  refine S_bind st p fun W1 H1 r h1 v x1 w1 st1 q p1 => ?_
  have stB : SSt A Wi Hi (W1.put o H H1) h1 oA ss σ H1 := st.put x1 w1
  refine S_bind stB (PostS.mono (put_exs st.w x1) p1) fun W2 H2 r' h2 v' x2 w2 st2 q2 p2 => ?_
  have stC : SSt A Wi Hi (W2.put o' H1 H2) h2 oA ss σ H2 := stB.put x2 w2
  refine S_bind stC (PostS.mono (put_exs stB.w x2) p2) fun W3 H3 r'' h3 v'' x3 w3 st3 q3 p3 => ?_
  have stD : SSt A Wi Hi (W3.put o'' H2 H3) h3 oA ss σ H3 := stC.put x3 w3
  refine S_bind stD (PostS.mono (put_exs stC.w x3) p3) fun W4 H4 r3 h4 v3 x4 w4 st4 q4 p4 => ?_
  cases e1 : putS o i r ss with
  | none => rw [e1] at p4; exact p4.elim
  | some ss1 =>
    rw [e1] at p4
    simp only [Option.bind_some] at p4
    cases e2 : putS o' j r' ss1 with
    | none => rw [e2] at p4; exact p4.elim
    | some ss2 =>
      rw [e2] at p4
      simp only [Option.bind_some] at p4
      cases e3 : putS o'' l r'' ss2 with
      | none => rw [e3] at p4; exact p4.elim
      | some ss3 =>
        rw [e3] at p4
        simp only [Option.bind_some] at p4
        cases e4 : putS o3 m r3 ss3 with
        | none => rw [e4] at p4; exact p4.elim
        | some ss4 =>
          rw [e4] at p4
          obtain ⟨oA1, stN⟩ := put_set st x1 w1 q e1
          obtain ⟨oA2, stM⟩ := put_set stN x2 w2 q2 e2
          obtain ⟨oA3, stL⟩ := put_set stM x3 w3 q3 e3
          obtain ⟨oA4, stK⟩ := put_set stL x4 w4 q4 e4
          refine ⟨by rw [sizeLine_eq]; show (4 : Nat) ≤ _; decide, fun pp np => ?_⟩
          refine ⟨pp, [v, v', v'', v3], rfl, SqT.of upd_same, rfl, v, _, rfl, v', _, rfl, v'', _, rfl, v3, _, rfl, rfl, ?_⟩
          have xl : Ext (W4.put o3 H3 H4) H4 (W4.put o3 H3 H4) (upd H4 pp (.tup [v, v', v'', v3])) := Ext.laid np
          have stE := stK.ext xl (stK.w.laid np)
          exact p4 _ _ oA4 _ stE ((put_exs stD.w x4).trans (xl.exs stK.w))
end
end GV
set_option Elab.async false
set_option linter.all false
set_option maxRecDepth 100000
set_option maxHeartbeats 4000000
/-! GV17: the program's statements against the small language's; functions. -/
namespace GV
open PySem L2
def notComp : Expr → Bool
  | .ListComp _ _ _ _ => false
  | .SetComp _ _ _ _ => false
  | .DictComp _ _ _ _ _ => false
  | _ => true
def isNm : Expr → Bool
  | .Name _ _ => true
  | _ => false
/-- the store happens within the comprehension's frame -/
def swC (sc : Scope) (y : Str) (py pos : Pos) (scope : Scope) : Bool :=
  sc.names.lookup y == some .local && (py.line == pos.line) && !(scope.names.any fun (n, k) => n == y && (k == .local || k == .cell))
/-- not all targets are plain local names of one line -/
def notPar (sc : Scope) (ts : List Expr) : Bool := (ts.filterMap fun
    | .Name id pos => if sc.names.lookup id == some .local && pos.line == (ts.head?.map (·.pos.line)).getD 0 then some id else none
    | _ => none).length != ts.length
/-- an ordinary store -/
def plainA (sc : Scope) : Expr → Expr → Bool
  | .Name y py, v => match v with
    | .ListComp _ _ scope pos => !swC sc y py pos scope
    | v => notComp v
  | .Tuple ts _ _, v => notComp v && (match v with
    | .Tuple _ _ _ => !(ts.length == 2 || ts.length == 3) || notPar sc ts
    | _ => true)
  | _, _ => false
def isLc : Expr → Bool
  | .ListComp _ _ _ _ => true
  | _ => false
def parB (sc : Scope) (x y : Str) (px py : Pos) (a b : Expr) : Bool :=
  sc.names.lookup x == some .local && sc.names.lookup y == some .local && !(x == y) && (px.line == py.line) && notStar a && notStar b && !([a, b].all (foldedForSure 8)) && !([a, b].all (constantsAlone 8))
/-- the body of a try: returns, each but the last under an if -/
def chkTry (T : Tab) (N : List Str) (sc : Scope) : E → List Stmt → Bool
  | e, [.Return (some v) _] => chkE T N e sc v
  | .ite c a b, .If t [.Return (some v) _] [] _ :: rest => notIf t && chkE T N c sc t && chkE T N a sc v && chkTry T N sc b rest
  | _, _ => false
def parB3 (sc : Scope) (x y z : Str) (px py pz : Pos) (a b c : Expr) : Bool :=
  sc.names.lookup x == some .local && sc.names.lookup y == some .local && sc.names.lookup z == some .local && !(x == y) && !(x == z) && !(y == z) && (px.line == py.line) && (px.line == pz.line) && notStar a && notStar b && notStar c && !([a, b, c].all (foldedForSure 8)) && !([a, b, c].all (constantsAlone 8))
mutual
def chkS (T : Tab) (N : List Str) (fnB : Str → Bool) (sc : Scope) : S → Stmt → Bool
  | .wall, _ => true
  | .asg t e, st => match st with
    | .Assign [tg] v _ => chkG N fnB sc t tg && chkE T N e sc v && (plainA sc tg v || (isNm tg && isLc v))
    | _ => false
  | .asgO j e, st => match st with
    | .Assign [tg] v _ => isNm tg && chkG N fnB sc (.n j) tg && chkE T N e sc v && (plainA sc tg v || isLc v)
    | _ => false
  | .asgR j e, st => match st with
    | .Assign [tg] v _ => isNm tg && chkG N fnB sc (.n j) tg && chkE T N e sc v && plainA sc tg v
    | _ => false
  | .par js es, st => match js, es, st with
    | [i, j], [a, b], .Assign [.Tuple [.Name x px, .Name y py] _ _] (.Tuple [p, q] _ _) _ => N[i]? == some x && N[j]? == some y && parB sc x y px py p q && chkE T N a sc p && chkE T N b sc q
    | _, _, _ => false
  | .par2 _ _ i j a b, st => match st with
    | .Assign [.Tuple [.Name x px, .Name y py] kt pt] (.Tuple [p, q] k2 pt2) _ => (N[i]? == some x && N[j]? == some y && parB sc x y px py p q && chkE T N a sc p && chkE T N b sc q) || (plainA sc (.Tuple [.Name x px, .Name y py] kt pt) (.Tuple [p, q] k2 pt2) && (chkG N fnB sc (.n i) (.Name x px) && chkG N fnB sc (.n j) (.Name y py)) && (notStar p && notStar q) && (chkE T N a sc p && chkE T N b sc q))
    | _ => false
  | .par3 _ _ _ i j l a b c, st => match st with
    | .Assign [.Tuple [.Name x px, .Name y py, .Name z pz] _ _] (.Tuple [p, q, w] _ _) _ => N[i]? == some x && N[j]? == some y && N[l]? == some z && parB3 sc x y z px py pz p q w && chkE T N a sc p && chkE T N b sc q && chkE T N c sc w
    | _ => false
  | .setT j a b e, st => match st with
    | .Assign [.Tuple [.Subscript (.Name x px) (.Name u pu) p1, .Subscript (.Name y py) (.Name w pw) p2] kt pt] v _ => N[j]? == some x && N[j]? == some y && visB sc x && nmOk x && visB sc y && nmOk y && (N[a]? == some u && visB sc u && nmOk u) && (N[b]? == some w && visB sc w && nmOk w) && plainA sc (.Tuple [.Subscript (.Name x px) (.Name u pu) p1, .Subscript (.Name y py) (.Name w pw) p2] kt pt) v && chkE T N e sc v
    | _ => false
  | .setD j i e, st => match st with
    | .Assign [.Subscript (.Name x _) ix _] v _ => N[j]? == some x && visB sc x && nmOk x && chkE T N i sc ix && chkE T N e sc v
    | _ => false
  | .forD j t b, st => match st with
    | .For tg (.Name x _) body [] _ => N[j]? == some x && visB sc x && nmOk x && chkG N fnB sc t tg && chkB T N fnB sc b body
    | _ => false
  | .par4 _ _ _ _ i j l m a b c d, st => match st with
    | .Assign [.Tuple [t1, t2, t3, t4] _ _] (.Tuple [p, q, w, u] _ _) _ => (isNm t1 && isNm t2 && isNm t3 && isNm t4) && (chkG N fnB sc (.n i) t1 && chkG N fnB sc (.n j) t2 && chkG N fnB sc (.n l) t3 && chkG N fnB sc (.n m) t4) && (notStar p && notStar q && notStar w && notStar u) && (chkE T N a sc p && chkE T N b sc q && chkE T N c sc w && chkE T N d sc u)
    | _ => false
  | .setI j i e, st => match st with
    | .Assign [.Subscript (.Name x _) ix _] v _ => N[j]? == some x && visB sc x && nmOk x && notSlice ix && notComp v && chkE T N i sc ix && chkE T N e sc v
    | _ => false
  | .appPop j l e, st => match st with
    | .Expr (.Call (.Attribute (.Name x _) m apos) [.Call (.Attribute (.Name y _) m2 apos2) [z] [] cpos2] [] cpos) _ => m == "append" && N[j]? == some x && visB sc x && nmOk x && (apos.endLine == cpos.line) &&
        m2 == "pop" && N[l]? == some y && visB sc y && nmOk y && (apos2.endLine == cpos2.line) && notStar z && chkE T N e sc z
    | _ => false
  | .popX l e, st => match st with
    | .Expr (.Call (.Attribute (.Name y _) m2 apos2) [z] [] cpos2) _ => m2 == "pop" && N[l]? == some y && visB sc y && nmOk y && (apos2.endLine == cpos2.line) && notStar z && chkE T N e sc z
    | _ => false
  | .while_ c b, st => match st with
    | .While t xs [] _ => notIf t && chkE T N c sc t && chkB T N fnB sc b xs
    | _ => false
  | .augI j o i e, st => match st with
    | .AugAssign (.Subscript (.Name x _) ix _) op v _ => N[j]? == some x && visB sc x && nmOk x && notSlice ix && bopB o op && (o == .add || o == .sub) && chkE T N i sc ix && chkE T N e sc v
    | _ => false
  | .raise c, st => match st with
    | .Raise (some (.Call (.Name x _) [.Constant (.str _) _ _] [] _)) none _ => T.cn.lookup c == some x && glB sc x && nmOk x
    | _ => false
  | .tryW e i, st => match st with
    | .Try bd [.ExceptHandler (some (.Name b _)) (some n) [.Return (some (.Call (.Name x _) [.Name m _] [] _)) _] _] [] [] _ => b == T.be && glB sc b && nmOk b && N[i]? == some n && decide (sc.names.lookup n = some .local) && nmOk n && m == n && T.wh == some x && glB sc x && nmOk x && chkTry T N sc e bd
    | _ => false
  | .aug j o e, st => match st with
    | .AugAssign (.Name x _) op v _ => N[j]? == some x && locB sc x && (fnB x || sc.names.lookup x == some .local) && bopB o op && (o == .add || o == .sub) && chkE T N e sc v
    | _ => false
  | .app j e, st => match st with
    | .Expr (.Call (.Attribute (.Name x _) m apos) [y] [] cpos) _ => m == "append" && N[j]? == some x && visB sc x && nmOk x && (apos.endLine == cpos.line) && notStar y && chkE T N e sc y
    | _ => false
  | .ext j e, st => match st with
    | .Expr (.Call (.Attribute (.Name x _) m apos) [y] [] cpos) _ => m == "extend" && N[j]? == some x && visB sc x && nmOk x && (apos.endLine == cpos.line) && notStar y && chkE T N e sc y
    | _ => false
  | .pop t l es, st => match es, st with
    | [], .Assign [tg] (.Call (.Attribute (.Name x xp) m apos) [] [] cpos) _ => m == "pop" && N[l]? == some x && visB sc x && nmOk x && (apos.endLine == cpos.line) && chkG N fnB sc t tg && plainA sc tg (.Call (.Attribute (.Name x xp) m apos) [] [] cpos)
    | _, _ => false
  | .fldV j f e, st => match st with
    | .Assign [.Attribute (.Name x _) f' _] v _ => f == f' && decide (f ∈ T.fl) && N[j]? == some x && visB sc x && nmOk x && chkE T N e sc v
    | _ => false
  | .fldO j f e, st => match st with
    | .Assign [.Attribute (.Name x _) f' _] v _ => f == f' && decide (f ∈ T.fl) && N[j]? == some x && visB sc x && nmOk x && chkE T N e sc v
    | _ => false
  | .fldSet j f i e, st => match st with
    | .Assign [.Subscript (.Attribute (.Name x _) f' _) ix _] v _ => f == f' && decide (f ∈ T.fl) && N[j]? == some x && visB sc x && nmOk x && notSlice ix && chkE T N i sc ix && chkE T N e sc v
    | _ => false
  | .fldApp j f e, st => match st with
    | .Expr (.Call (.Attribute (.Attribute (.Name x _) f' _) m apos) [y] [] cpos) _ => m == "append" && f == f' && decide (f ∈ T.fl) && N[j]? == some x && visB sc x && nmOk x && (apos.endLine == cpos.line) && notStar y && chkE T N e sc y
    | _ => false
  | .forF k j f t b, st => match k, st with
    | .enum, .For tg (.Call (.Name z _) [.Attribute (.Name x _) f' _] [] _) body [] _ => z == "enumerate" && glB sc z && isTup tg && f == f' && decide (f ∈ T.fl) && N[j]? == some x && visB sc x && nmOk x && chkG N fnB sc t tg && chkB T N fnB sc b body
    | _, _ => false
  | .expr e, st => match st with
    | .Expr v _ => notComp v && chkE T N e sc v
    | _ => false
  | .ifs c a b, st => match st with
    | .If t xs ys _ => notIf t && chkE T N c sc t && chkB T N fnB sc a xs && chkB T N fnB sc b ys
    | _ => false
  | .for_ k src t b, st => match st with
    | .For tg iter body [] _ => chkI T N k src sc tg iter && chkG N fnB sc t tg && chkB T N fnB sc b body
    | _ => false
  | .ret e, st => match st with
    | .Return (some v) _ => chkE T N e sc v
    | _ => false
  | .retN, st => match st with
    | .Return none _ => true
    | _ => false
  | .retO j, st => match st with
    | .Return (some (.Name x _)) _ => N[j]? == some x && visB sc x && nmOk x
    | _ => false
  | .pass, st => match st with
    | .Pass _ => true
    | _ => false
  | _, _ => false
def chkB (T : Tab) (N : List Str) (fnB : Str → Bool) (sc : Scope) : List S → List Stmt → Bool
  | [], sts => match sts with
    | [] => true
    | _ => false
  | c :: r, sts => match c with
    | .frz _ => chkB T N fnB sc r sts
    | c => match sts with
      | st :: sts => chkS T N fnB sc c st && chkB T N fnB sc r sts
      | [] => false
end
structure CtxS (A : Stat) (k : Nat) (Wx : WX) (fnB : Str → Bool) (sc : Scope) (N : List Str) (X : Cx) : Prop where
  g : CtxG A k Wx fnB sc N X
  pown : PassesOwn (model X.prog X.w) X.A X.env X.xe
  kind : sc.kind = .function
  stk : X.stack = X.env :: X.outer
  frm : X.env.frame = some X.env.locals
section
variable {A : Stat} {k : Nat} {Wx : WX} {fnB : Str → Bool} {sc : Scope} {N : List Str} {X : Cx} {Wi : Wd} {Hi : Hp}
theorem sw_false {v : Expr} {t : Option Expr} {l : Nat} {env : Env} (h : notComp v = true) : swapsWith v t l env = pure false := by
  cases v <;> first | rfl | cases h
theorem sw_attr {o : Expr} {f : Str} {p : Pos} {l : Nat} {env : Env} (v : Expr) : swapsWith v (some (.Attribute o f p)) l env = pure false := by
  cases v <;> rfl
theorem sw_sub {o i : Expr} {p : Pos} {l : Nat} {env : Env} (v : Expr) : swapsWith v (some (.Subscript o i p)) l env = pure false := by
  cases v <;> rfl
theorem sw_lc {elt : Expr} {gs : List Comprehension} {scope : Scope} {pos py : Pos} {y : Str} {l : Nat} (c : CtxS A k Wx fnB sc N X) (h : swC sc y py pos scope = false) : swapsWith (.ListComp elt gs scope pos) (some (.Name y py)) l X.env = pure false := by
  have hb : X.env.blockKind = .function := by unfold Env.blockKind; rw [c.g.sc, c.kind]; rfl
  have e : swapsWith (.ListComp elt gs scope pos) (some (.Name y py)) l X.env = pure (X.env.blockKind == .function && X.env.kindOf y == some .local && py.line == pos.line && !(scope.names.any fun (n, k) => n == y && (k == .local || k == .cell))) := rfl
  rw [e, hb]
  unfold swC at h
  have ek : X.env.kindOf y = sc.names.lookup y := by unfold Env.kindOf; rw [c.g.sc]
  rw [ek]
  simp only [BEq.rfl, Bool.true_and]
  rw [h]
theorem plain_ok {tg v : Expr} {l : Nat} (c : CtxS A k Wx fnB sc N X) (h : plainA sc tg v = true) : swapsWithSole [tg] v l X.env = pure false ∧ swappedStores [tg] v X.env = pure none ∧ (assignEach [tg] X.env).map (·.2) = [assign tg X.env] := by
  unfold plainA at h
  split at h
  · rename_i y py
    refine ⟨?_, ?_, rfl⟩
    · split at h
      · unfold swapsWithSole
        exact sw_lc c (by simpa using h)
      · unfold swapsWithSole
        exact sw_false h
    · unfold swappedStores
      rfl
  · rename_i ts _ _
    simp only [Bool.and_eq_true] at h
    refine ⟨(by unfold swapsWithSole; exact sw_false h.1), ?_, rfl⟩
    have h2 := h.2
    unfold swappedStores
    cases v <;> first | rfl | skip
    simp only at h2 ⊢
    cases h3 : !(ts.length == 2 || ts.length == 3) with
    | true => rw [if_pos (by simp only [Bool.true_or])]
    | false =>
      rw [h3, Bool.false_or] at h2
      have hk : ∀ id, X.env.kindOf id = sc.names.lookup id := fun id => by unfold Env.kindOf; rw [c.g.sc]
      unfold notPar at h2
      simp only [hk]
      split
      · rfl
      · split
        · rfl
        · split
          · rfl
          · rename_i hne
            exact absurd (Bool.or_eq_true_iff.mpr (.inl h2)) hne
  · cases h
theorem snA {t : Tg} {e : E} {tg v : Expr} {pos : Pos} (S : StatOk A k) (c : CtxS A k Wx fnB sc N X) (h1 : chkG N fnB sc t tg = true) (h2 : chkE A.T N e sc v = true) (h3 : plainA sc tg v = true) : PS X (.Assign [tg] v pos) (tAsg (tE A Wx e) (gTg A.K t)) := by
  obtain ⟨k1, k2, k3⟩ := plain_ok (l := pos.line) c h3
  exact ps_asg (snE S e v c.g h2).pe (snG c.g t tg h1) k1 k2 k3
/-- name = [..], stored within the comprehension's frame -/
theorem snLc {j : Nat} {e : E} {y : Str} {py pos : Pos} {v : Expr} (S : StatOk A k) (c : CtxS A k Wx fnB sc N X) (h1 : chkG N fnB sc (.n j) (.Name y py) = true) (h2 : chkE A.T N e sc v = true) (h3 : isLc v = true) :
    PS X (.Assign [.Name y py] v pos) (tAsg (tE A Wx e) (gName j)) := by
  by_cases hp : plainA sc (.Name y py) v = true
  · have q := snA (pos := pos) S c h1 h2 hp
    rw [gTg] at q
    exact q
  · cases v with
    | ListComp elt gs scope lpos =>
      have hsw : swC sc y py lpos scope = true := by
        unfold plainA at hp
        simpa using hp
      unfold swC at hsw
      simp only [Bool.and_eq_true, beq_iff_eq, Bool.not_eq_true'] at hsw
      cases e with
      | comp kk src t own ifs e' =>
        unfold chkE at h2
        split at h2
        · rename_i elt' tg iter ifs' scope' pos' heq2
          cases heq2
          simp only [Bool.and_eq_true, decide_eq_true_eq] at h2
          obtain ⟨⟨⟨⟨⟨⟨⟨g1, g2⟩, g3⟩, g4⟩, g5⟩, g6⟩, g7⟩, g8⟩ := h2
          obtain ⟨i1, i2, i3⟩ := snI S kk src tg iter c.g g3
          have bo := blkOk_by g1
          rw [← c.g.nN, ← c.g.sc] at bo
          have hN : X.N.Nodup := by rw [c.g.nN]; exact c.g.nd
          simp only [chkG, Bool.and_eq_true, beq_iff_eq] at h1
          have q := ps_setLc (i := j) (own := own.map fun i => (X.N.getD i "", i)) (py := py) (spos := pos) (pos := lpos) c.g.calm hN (by rw [c.g.nN]; exact h1.1.1) (by rw [c.g.sc]; exact hsw.1.1)
            (sw_true (by rw [c.g.sc]; exact c.kind) (by rw [c.g.sc]; exact hsw.1.1) (by simp [hsw.1.2]) hsw.2) i1 bo
            (fun s H C cl fp => snG (ctx_blk (scope := scope) (s := s) (H := H) (C := C) (cl := cl) (fp := fp) c.g) t tg g4)
            (fun s H C cl fp => snTs S ifs ifs' (ctx_blk (scope := scope) (s := s) (H := H) (C := C) (cl := cl) (fp := fp) c.g) g5 g6 g7)
            (fun s H C cl fp => (snE S e' _ (ctx_blk (scope := scope) (s := s) (H := H) (C := C) (cl := cl) (fp := fp) c.g) g8).pe) i3
          rw [own_map] at q
          refine PS.mono q fun Dn σ H z => ?_
          exact imp_comp i2 (fun j hj => by
            have := List.all_eq_true.mp g2 j hj
            simpa using this) z
        · cases h2
      | _ => simp [chkE] at h2
    | _ => cases h3
end
end GV
set_option Elab.async false
set_option linter.all false
set_option maxRecDepth 100000
set_option maxHeartbeats 4000000
/-! GV18: statements run as the evaluator says. -/
namespace GV
open PySem L2
section
variable {A : Stat} {k : Nat} {Wx : WX} {fnB : Str → Bool} {sc : Scope} {N : List Str} {X : Cx} {Wi : Wd} {Hi : Hp}
theorem swapped_par {x y : Str} {px py pt pt2 : Pos} {kt k2 : Nat} {a b : Expr} (c : CtxS A k Wx fnB sc N X) (h : parB sc x y px py a b = true) :
    swappedStores [.Tuple [.Name x px, .Name y py] kt pt] (.Tuple [a, b] k2 pt2) X.env = pure (some [x, y]) := by
  have hb : X.env.blockKind = .function := by unfold Env.blockKind; rw [c.g.sc, c.kind]; rfl
  unfold parB at h
  simp only [Bool.and_eq_true, beq_iff_eq, Bool.not_eq_true'] at h
  obtain ⟨⟨⟨⟨⟨⟨⟨h1, h2⟩, h3⟩, h4⟩, h5⟩, h6⟩, h7⟩, h8⟩ := h
  have ex : X.env.kindOf x = some .local := by unfold Env.kindOf; rw [c.g.sc]; exact h1
  have ey : X.env.kindOf y = some .local := by unfold Env.kindOf; rw [c.g.sc]; exact h2
  have hne : (x == y) = false := h3
  have s1 : ∀ e : Expr, notStar e = true → (match e with | .Starred .. => true | _ => false) = false := fun e he => by cases e <;> first | rfl | cases he
  have e2 : (y == x) = false := by
    rw [Bool.eq_false_iff]
    intro z
    have := eq_of_beq z
    subst this
    simp at hne
  unfold swappedStores
  simp [hb, ex, ey, h4, Expr.pos, hne, e2, List.eraseDups_cons]
  have k7 : ¬ (foldedForSure 8 a = true ∧ foldedForSure 8 b = true) := fun z => by simp [z.1, z.2] at h7
  have k8 : ¬ (constantsAlone 8 a = true ∧ constantsAlone 8 b = true) := fun z => by simp [z.1, z.2] at h8
  rw [if_neg (fun z => by
    rcases z with z | z
    · exact Bool.false_ne_true ((s1 a h5).symm.trans z)
    · exact Bool.false_ne_true ((s1 b h6).symm.trans z)), if_neg k7, if_neg k8]
theorem bne_sym {x y : Str} (h : (x == y) = false) : (y == x) = false := by
  rw [Bool.eq_false_iff]
  intro z
  have := eq_of_beq z
  subst this
  simp at h
theorem swapped_par3 {x y z : Str} {px py pz pt pt2 : Pos} {kt k2 : Nat} {a b d : Expr} (c : CtxS A k Wx fnB sc N X) (h : parB3 sc x y z px py pz a b d = true) :
    swappedStores [.Tuple [.Name x px, .Name y py, .Name z pz] kt pt] (.Tuple [a, b, d] k2 pt2) X.env = pure (some [x, y, z]) := by
  have hb : X.env.blockKind = .function := by unfold Env.blockKind; rw [c.g.sc, c.kind]; rfl
  unfold parB3 at h
  simp only [Bool.and_eq_true, beq_iff_eq, Bool.not_eq_true'] at h
  obtain ⟨⟨⟨⟨⟨⟨⟨⟨⟨⟨⟨⟨h1, h2⟩, hz⟩, h3⟩, h3b⟩, h3c⟩, h4⟩, h4b⟩, h5⟩, h6⟩, h6b⟩, h7⟩, h8⟩ := h
  have ex : X.env.kindOf x = some .local := by unfold Env.kindOf; rw [c.g.sc]; exact h1
  have ey : X.env.kindOf y = some .local := by unfold Env.kindOf; rw [c.g.sc]; exact h2
  have ez : X.env.kindOf z = some .local := by unfold Env.kindOf; rw [c.g.sc]; exact hz
  have s1 : ∀ e : Expr, notStar e = true → (match e with | .Starred .. => true | _ => false) = false := fun e he => by cases e <;> first | rfl | cases he
  have e2 := bne_sym h3
  have e3 := bne_sym h3b
  have e4 := bne_sym h3c
  unfold swappedStores
  simp [hb, ex, ey, ez, ← h4, ← h4b, Expr.pos, h3, h3b, h3c, e2, e3, e4, List.eraseDups_cons]
  have k7 : ¬ (foldedForSure 8 a = true ∧ foldedForSure 8 b = true ∧ foldedForSure 8 d = true) := fun z => by simp [z.1, z.2.1, z.2.2] at h7
  have k8 : ¬ (constantsAlone 8 a = true ∧ constantsAlone 8 b = true ∧ constantsAlone 8 d = true) := fun z => by simp [z.1, z.2.1, z.2.2] at h8
  rw [if_neg (fun z => by
    rcases z with z | z | z
    · exact Bool.false_ne_true ((s1 a h5).symm.trans z)
    · exact Bool.false_ne_true ((s1 b h6).symm.trans z)
    · exact Bool.false_ne_true ((s1 d h6b).symm.trans z)), if_neg k7, if_neg k8]
theorem name_of {x : Str} {p : Pos} {j : Nat} (c : CtxS A k Wx fnB sc N X) (h1 : N[j]? = some x) (h2 : visB sc x = true) (h3 : nmOk x = true) : PE X (.Name x p) (tVar j) := by
  obtain ⟨n1, n2, n3⟩ := nm_of h3
  exact pe_var (i := j) (by rw [c.g.nN]; exact h1) (by rw [c.g.sc]; exact vis_of h2) n1 n2
theorem chkB_cons {T : Tab} {s : S} {r : List S} {sts : List Stmt} (hf : ∀ j, s ≠ .frz j) (h : chkB T N fnB sc (s :: r) sts = true) : ∃ st sts', sts = st :: sts' ∧ chkS T N fnB sc s st = true ∧ chkB T N fnB sc r sts' = true := by
  cases sts with
  | nil => cases s <;> first | exact absurd rfl (hf _) | (simp [chkB] at h)
  | cons st sts => cases s <;> first | exact absurd rfl (hf _) | (simp only [chkB, Bool.and_eq_true] at h; exact ⟨st, sts, rfl, h.1, h.2⟩)
theorem get_list {X : Cx} : PGet X (rIxL X.K) := by
  intro pins s σ H x y v u Q I rx ry h
  obtain ⟨p, xs, i, z, rfl, rfl, hq, he, q⟩ := h
  cases rx
  obtain ⟨t, rfl⟩ := ry
  obtain ⟨its, r, pl, hz⟩ := I.list hq
  obtain ⟨j, h1, h2, h3, h4, h5⟩ := atI_get he
  obtain ⟨w, ew, rw'⟩ := r.get h2
  have hl := r.length
  have hn := line63
  have fin : EP X pins σ Q w s := ⟨z, H, I, rw', q⟩
  by_cases h0 : 0 ≤ i
  · have hj : i.toNat = j := by
      rw [PySem.seqIndex_of h0 h5] at h1
      exact Option.some.inj h1
    exact PySem.wpAny_getItem_list pl.isList h0 (by omega) (by rw [hj]; simpa using ew) fin
  · have hj : (i + (its.toArray.size : Int)).toNat = j := by
      rw [PySem.seqIndex_neg (by omega) h4] at h1
      rw [List.size_toArray, ← hl]
      exact Option.some.inj h1
    exact PySem.wpAny_getItem_list_neg pl.isList (by omega) (by rw [List.size_toArray] <;> omega) (by omega) (by rw [hj]; simpa using ew) fin
theorem snTry {Wx : WX} {X : Cx} (SO : StatOk A k) (c : CtxG A k Wx fnB sc N X) : ∀ (e : E) (bd : List Stmt), chkTry A.T N sc e bd = true → PSs X bd (fun D σ H => tE A Wx e σ H D.rt)
  | e, [], h => by unfold chkTry at h; cases h
  | e, st :: rest, h => by
    unfold chkTry at h
    split at h
    · rename_i v' p' heq
      obtain ⟨rfl, rfl⟩ := List.cons.inj heq
      exact PSs.mono (pss_cons (ps_ret (snE SO _ v' c h).pe) pss_nil) fun D σ H z => z
    · rename_i cc a b t v p1 p2 rest' heq
      obtain ⟨rfl, rfl⟩ := List.cons.inj heq
      simp only [Bool.and_eq_true] at h
      obtain ⟨⟨⟨h1, h2⟩, h3⟩, h4⟩ := h
      exact PSs.mono (pss_cons (ps_if ((snE SO cc t c h2).pt h1) (pss_cons (ps_ret (snE SO a v c h3).pe) pss_nil) pss_nil) (snTry SO c b rest h4)) fun D σ H z => imp_ite z
    · cases h
mutual
theorem snS (SO : StatOk A k) (c : CtxS A k Wx fnB sc N X) : ∀ (s : S) (st : Stmt), chkS A.T N fnB sc s st = true → PS X st (tS A Wi Hi Wx s)
  | .wall, st, h => PS.mono ps_never fun Dn σ H z => by
    obtain ⟨W, h, oA, ss, st, p⟩ := z
    rw [evS] at p
    exact p
  | .asg t e, st, h => by
    unfold chkS at h
    split at h
    · rename_i tg v pos
      simp only [Bool.and_eq_true, Bool.or_eq_true] at h
      obtain ⟨⟨h1, h2⟩, h3⟩ := h
      rcases h3 with h3 | ⟨h3, h4⟩
      · exact PS.mono (snA SO c h1 h2 h3) fun Dn σ H z => imp_asg z
      · cases tg with
        | Name y py =>
          cases t with
          | n j =>
            refine PS.mono (snLc SO c h1 h2 h4) fun Dn σ H z => ?_
            have := imp_asg z
            rw [gTg] at this
            exact this
          | t ts => simp [chkG] at h1
        | _ => cases h3
    · cases h
  | .asgO j e, st, h => by
    unfold chkS at h
    split at h
    · rename_i tg v pos
      simp only [Bool.and_eq_true, Bool.or_eq_true] at h
      obtain ⟨⟨⟨h0, h1⟩, h2⟩, h3⟩ := h
      rcases h3 with h3 | h4
      · have q := snA (pos := pos) SO c h1 h2 h3
        rw [gTg] at q
        exact PS.mono q fun Dn σ H z => imp_asgO z
      · cases tg with
        | Name y py => exact PS.mono (snLc SO c h1 h2 h4) fun Dn σ H z => imp_asgO z
        | _ => cases h0
    · cases h
  | .asgR j e, st, h => by
    unfold chkS at h
    split at h
    · rename_i tg v pos
      simp only [Bool.and_eq_true] at h
      obtain ⟨⟨⟨h0, h1⟩, h2⟩, h3⟩ := h
      have q := snA (pos := pos) SO c h1 h2 h3
      rw [gTg] at q
      exact PS.mono q fun Dn σ H z => imp_asgR z
    · cases h
  | .par js es, st, h => by
    unfold chkS at h
    split at h
    · rename_i i j a b x px y py kt pt p q k2 pt2 pos
      simp only [Bool.and_eq_true, beq_iff_eq] at h
      obtain ⟨⟨⟨⟨h1, h2⟩, h3⟩, h4⟩, h5⟩ := h
      have hp := h3
      unfold parB at hp
      simp only [Bool.and_eq_true, beq_iff_eq, Bool.not_eq_true'] at hp
      obtain ⟨⟨⟨⟨⟨⟨⟨l1, l2⟩, l3⟩, l4⟩, l5⟩, l6⟩, l7⟩, l8⟩ := hp
      have hij : i ≠ j := fun e => by
        rw [e, h2] at h1
        cases h1
        simp at l3
      refine PS.mono (ps_par c.g.calm (by rw [c.g.nN]; exact c.g.nd) (by rw [c.g.nN]; exact h1) (by rw [c.g.nN]; exact h2) hij (by rw [c.g.sc]; exact l1) (by rw [c.g.sc]; exact l2)
        (snL SO [a, b] [p, q] c.g (by simp [chkL, l5, l6, h4, h5])) (swapped_par c h3) (by unfold swapsWithSole; rfl)) fun Dn σ H z => imp_par2 z
    · cases h
  | .par2 o o' i j a b, st, h => by
    unfold chkS at h
    split at h
    · rename_i x px y py kt pt p q k2 pt2 pos
      rcases (Bool.or_eq_true _ _).mp h with h | h
      rotate_left
      · simp only [Bool.and_eq_true] at h
        obtain ⟨⟨⟨hpl, ⟨g1, g2⟩⟩, ⟨s1, s2⟩⟩, ⟨h1, h2⟩⟩ := h
        obtain ⟨k1, k2', k3⟩ := plain_ok (l := pos.line) (tg := .Tuple [.Name x px, .Name y py] kt pt) (v := .Tuple [p, q] k2 pt2) c hpl
        have y1 := snG c.g (.n i) (.Name x px) g1
        have y2 := snG c.g (.n j) (.Name y py) g2
        rw [gTg] at y1 y2
        refine PS.mono (ps_asg (pe_tup (pa_cons (snE SO a _ c.g h1).pe (pa_cons (snE SO b _ c.g h2).pe pa_nil (star_of s2)) (star_of s1))) (pg_tup c.g.calm (pgs_cons y1 (pgs_cons y2 pgs_nil)) rfl rfl) k1 k2' k3) fun Dn σ H z => by rw [c.g.K]; exact imp_par2T z
      simp only [Bool.and_eq_true, beq_iff_eq] at h
      obtain ⟨⟨⟨⟨h1, h2⟩, h3⟩, h4⟩, h5⟩ := h
      have hp := h3
      unfold parB at hp
      simp only [Bool.and_eq_true, beq_iff_eq, Bool.not_eq_true'] at hp
      obtain ⟨⟨⟨⟨⟨⟨⟨l1, l2⟩, l3⟩, l4⟩, l5⟩, l6⟩, l7⟩, l8⟩ := hp
      have hij : i ≠ j := fun e => by
        rw [e, h2] at h1
        cases h1
        simp at l3
      refine PS.mono (ps_par c.g.calm (by rw [c.g.nN]; exact c.g.nd) (by rw [c.g.nN]; exact h1) (by rw [c.g.nN]; exact h2) hij (by rw [c.g.sc]; exact l1) (by rw [c.g.sc]; exact l2)
        (pa_cons (snE SO a _ c.g h4).pe (pa_cons (snE SO b _ c.g h5).pe pa_nil (star_of l6)) (star_of l5)) (swapped_par c h3) (by unfold swapsWithSole; rfl)) fun Dn σ H z => imp_parO z
    · cases h
  | .par3 o o' o'' i j l a b e, st, h => by
    unfold chkS at h
    split at h
    · rename_i x px y py z pz kt pt p q w k2 pt2 pos
      simp only [Bool.and_eq_true, beq_iff_eq] at h
      obtain ⟨⟨⟨⟨⟨⟨h1, h2⟩, hz⟩, h3⟩, h4⟩, h5⟩, h6⟩ := h
      have hp := h3
      unfold parB3 at hp
      simp only [Bool.and_eq_true, beq_iff_eq, Bool.not_eq_true'] at hp
      obtain ⟨⟨⟨⟨⟨⟨⟨⟨⟨⟨⟨⟨l1, l2⟩, lz⟩, l3⟩, l3b⟩, l3c⟩, l4⟩, l4b⟩, l5⟩, l6⟩, l6b⟩, l7⟩, l8⟩ := hp
      have hij : i ≠ j := fun e => by
        rw [e, h2] at h1
        cases h1
        simp at l3
      have hil : i ≠ l := fun e => by
        rw [e, hz] at h1
        cases h1
        simp at l3b
      have hjl : j ≠ l := fun e => by
        rw [e, hz] at h2
        cases h2
        simp at l3c
      refine PS.mono (ps_par3 c.g.calm (by rw [c.g.nN]; exact c.g.nd) (by rw [c.g.nN]; exact h1) (by rw [c.g.nN]; exact h2) (by rw [c.g.nN]; exact hz) hij hil hjl (by rw [c.g.sc]; exact l1) (by rw [c.g.sc]; exact l2) (by rw [c.g.sc]; exact lz)
        (pa_cons (snE SO a _ c.g h4).pe (pa_cons (snE SO b _ c.g h5).pe (pa_cons (snE SO e _ c.g h6).pe pa_nil (star_of l6b)) (star_of l6)) (star_of l5)) (swapped_par3 c h3) (by unfold swapsWithSole; rfl)) fun Dn σ H z => imp_par3 z
    · cases h
  | .setT j a b e, st, h => by
    unfold chkS at h
    split at h
    · rename_i x px u pu p1 y py w pw p2 kt pt v pos
      simp only [Bool.and_eq_true, beq_iff_eq] at h
      obtain ⟨⟨⟨⟨⟨⟨⟨⟨⟨h1, h1b⟩, h2⟩, h3⟩, h2b⟩, h3b⟩, ⟨⟨u1, u2⟩, u3⟩⟩, ⟨⟨w1, w2⟩, w3⟩⟩, h5⟩, h7⟩ := h
      obtain ⟨k1, k2, k3⟩ := plain_ok (l := pos.line) c h5
      refine PS.mono (ps_asg (snE SO e _ c.g h7).pe (pg_tup c.g.calm (pgs_cons (pg_sub (name_of c h1 h2 h3) (name_of c u1 u2 u3) set_list (by intro v; rfl)) (pgs_cons (pg_sub (name_of c h1b h2b h3b) (name_of c w1 w2 w3) set_list (by intro v; rfl)) pgs_nil)) rfl rfl) k1 k2 k3) fun Dn σ H z => by rw [c.g.K]; exact imp_setT z
    · cases h
  | .setD j i e, st, h => by
    unfold chkS at h
    split at h
    · rename_i x _ ix _ v _
      simp only [Bool.and_eq_true, beq_iff_eq] at h
      obtain ⟨⟨⟨⟨h1, h2⟩, h3⟩, h4⟩, h5⟩ := h
      have hr := fun p1 p2 p3 => ps_dset (X := X) (pos := p1) (pos' := p2) (units_of c.g) (name_of (p := p3) c h1 h2 h3) (snE SO i _ c.g h4).pe (snE SO e _ c.g h5).pe (sw_sub _)
      rw [c.g.w, ← SO.wd, c.g.K] at hr
      exact PS.mono (hr _ _ _) fun Dn σ H z => imp_setD z
    · cases h
  | .forD j t b, st, h => by
    unfold chkS at h
    split at h
    · simp only [Bool.and_eq_true, beq_iff_eq] at h
      obtain ⟨⟨⟨⟨h1, h2⟩, h3⟩, h4⟩, h5⟩ := h
      have pi := fun tg p => pi_dic (X := X) (tg := tg) (name_of (p := p) c h1 h2 h3)
      rw [c.g.w, ← SO.wd] at pi
      exact PS.mono (ps_for c.pown c.g.calm (pi _ _) (snG c.g t _ h4) (snB SO c b _ h5) (fun _ => rfl)) fun Dn σ H z => imp_forD z
    · cases h
  | .par4 o o' o'' o3 i j l m a b d e, st, h => by
    unfold chkS at h
    split at h
    · rename_i t1 t2 t3 t4 kt pt p q w u k2 pt2 pos
      simp only [Bool.and_eq_true] at h
      obtain ⟨⟨⟨⟨⟨⟨n1, n2⟩, n3⟩, n4⟩, ⟨⟨⟨g1, g2⟩, g3⟩, g4⟩⟩, ⟨⟨⟨s1, s2⟩, s3⟩, s4⟩⟩, ⟨⟨⟨h1, h2⟩, h3⟩, h4⟩⟩ := h
      obtain ⟨k1, k2, k3⟩ := plain_ok (l := pos.line) (tg := .Tuple [t1, t2, t3, t4] kt pt) (v := .Tuple [p, q, w, u] k2 pt2) c (by unfold plainA; rfl)
      have y1 := snG c.g (.n i) t1 g1
      have y2 := snG c.g (.n j) t2 g2
      have y3 := snG c.g (.n l) t3 g3
      have y4 := snG c.g (.n m) t4 g4
      rw [gTg] at y1 y2 y3 y4
      have st : ∀ t : Expr, isNm t = true → (assignEach [t] X.env).map (·.1) = [false] := fun t ht => by
        cases t <;> first | rfl | cases ht
      cases t1 <;> first | cases n1 | skip
      cases t2 <;> first | cases n2 | skip
      cases t3 <;> first | cases n3 | skip
      cases t4 <;> first | cases n4 | skip
      refine PS.mono (ps_asg (pe_tup (pa_cons (snE SO a _ c.g h1).pe (pa_cons (snE SO b _ c.g h2).pe (pa_cons (snE SO d _ c.g h3).pe (pa_cons (snE SO e _ c.g h4).pe pa_nil (star_of s4)) (star_of s3)) (star_of s2)) (star_of s1))) (pg_tup c.g.calm (pgs_cons y1 (pgs_cons y2 (pgs_cons y3 (pgs_cons y4 pgs_nil)))) rfl rfl) k1 k2 k3) fun Dn σ H z => by rw [c.g.K]; exact imp_par4 z
    · cases h
  | .setI j i e, st, h => by
    unfold chkS at h
    split at h
    · rename_i x _ ix _ v _
      simp only [Bool.and_eq_true, beq_iff_eq] at h
      obtain ⟨⟨⟨⟨⟨⟨h1, h2⟩, h3⟩, h4⟩, h5⟩, h6⟩, h7⟩ := h
      refine PS.mono (ps_asg (snE SO e _ c.g h7).pe (pg_sub (name_of c h1 h2 h3) (snE SO i _ c.g h6).pe set_list (by
        intro v
        cases ix <;> first | rfl | cases h4)) (by unfold swapsWithSole; exact sw_false h5) (by unfold swappedStores; rfl) rfl) fun Dn σ H z => imp_setI z
    · cases h
  | .appPop j l e, st, h => by
    unfold chkS at h
    split at h
    · simp only [Bool.and_eq_true, beq_iff_eq] at h
      obtain ⟨⟨⟨⟨⟨⟨⟨⟨⟨⟨⟨h1, h2⟩, h3⟩, h4⟩, h5⟩, g1⟩, g2⟩, g3⟩, g4⟩, g5⟩, h6⟩, h7⟩ := h
      subst h1
      subst g1
      refine PS.mono (t := tDrop (tBM A.K "list" rAppend (tVar j) (tCons (tBM A.K "list" rPopAt (tVar l) (tCons (tE A Wx e) tNil)) tNil))) ?_ fun Dn σ H z => imp_appPop z
      rw [← c.g.K]
      exact ps_expr (pe_bm PySem.F.plainAttrs_list PySem.F.slot_list_append PySem.F.type_list_append mt_append (name_of c h2 h3 h4) (pa_cons (pe_bm PySem.F.plainAttrs_list PySem.F.slot_list_pop PySem.F.type_list_pop mt_popAt (name_of c g2 g3 g4) (pa_cons (snE SO e _ c.g h7).pe pa_nil (star_of h6)) rfl (by rw [star_of h6]; rfl) (by simpa using g5) (star_of h6) rfl) pa_nil (star_of rfl)) rfl (by rw [star_of rfl]; rfl) (by simpa using h5) (star_of rfl) rfl) rfl
    · cases h
  | .popX l e, st, h => by
    unfold chkS at h
    split at h
    · simp only [Bool.and_eq_true, beq_iff_eq] at h
      obtain ⟨⟨⟨⟨⟨⟨g1, g2⟩, g3⟩, g4⟩, g5⟩, h6⟩, h7⟩ := h
      subst g1
      refine PS.mono (t := tDrop (tBM A.K "list" rPopAt (tVar l) (tCons (tE A Wx e) tNil))) ?_ fun Dn σ H z => imp_popX z
      rw [← c.g.K]
      exact ps_expr (pe_bm PySem.F.plainAttrs_list PySem.F.slot_list_pop PySem.F.type_list_pop mt_popAt (name_of c g2 g3 g4) (pa_cons (snE SO e _ c.g h7).pe pa_nil (star_of h6)) rfl (by rw [star_of h6]; rfl) (by simpa using g5) (star_of h6) rfl) rfl
    · cases h
  | .augI j o i e, st, h => by
    unfold chkS at h
    split at h
    · rename_i x _ ix _ op v _
      simp only [Bool.and_eq_true, beq_iff_eq, Bool.or_eq_true] at h
      obtain ⟨⟨⟨⟨⟨⟨⟨h1, h2⟩, h3⟩, h4⟩, h5⟩, h6⟩, h7⟩, h8⟩ := h
      have e1 := bop_of h5
      subst e1
      have hg : PGet X (rIxL A.K) := by rw [← c.g.K]; exact get_list
      have ha : ∀ ov iv new, augStore ix ov iv new = (do holding [new, ov, iv] (setItem ov iv new); release [new, ov, iv] []; pure .next) := by
        intro ov iv new
        cases ix <;> first | rfl | cases h4
      rcases h6 with rfl | rfl
      · exact PS.mono (ps_augS (name_of c h1 h2 h3) (snE SO i _ c.g h7).pe hg (snE SO e _ c.g h8).pe ip_add set_list ha) fun Dn σ H z => imp_augI (.inl ⟨rfl, rfl⟩) z
      · exact PS.mono (ps_augS (name_of c h1 h2 h3) (snE SO i _ c.g h7).pe hg (snE SO e _ c.g h8).pe ip_sub set_list ha) fun Dn σ H z => imp_augI (.inr ⟨rfl, rfl⟩) z
    · cases h
  | .raise cc, st, h => by
    unfold chkS at h
    split at h
    · simp only [Bool.and_eq_true, beq_iff_eq] at h
      obtain ⟨⟨h1, h2⟩, h3⟩ := h
      obtain ⟨n1, n2, n3⟩ := nm_of h3
      obtain ⟨C, m1, m2, m3, m4, m5, m6⟩ := SO.exc cc _ h1
      refine PS.mono (ps_raise c.g.calm c.g.tk (pmk_own (C := C) PySem.F.excBase_ValueError (by rw [c.g.K]; exact m3) (by rw [c.g.mg]; exact m1) (by rw [c.g.K]; exact m4) (raises_own (by rw [c.g.K]; exact m5) (by rw [c.g.K]; exact m6)) (gl_of c.g h2) n1)) fun Dn σ H z => ?_
      have := imp_raise z
      rw [m2] at this
      exact this
    · cases h
  | .tryW e i, st, h => by
    unfold chkS at h
    split at h
    · rename_i bd b _ n x _ m _ _ _ _ _
      simp only [Bool.and_eq_true, beq_iff_eq, decide_eq_true_eq] at h
      obtain ⟨⟨⟨⟨⟨⟨⟨⟨⟨⟨rfl, h2⟩, h3⟩, h4⟩, h5⟩, h6⟩, rfl⟩, h8⟩, h9⟩, h10⟩, h11⟩ := h
      obtain ⟨n1, n2, n3⟩ := nm_of h3
      obtain ⟨l1, l2, l3⟩ := nm_of h6
      obtain ⟨o1, o2, o3⟩ := nm_of h10
      obtain ⟨B, ad, fd, b1, b2, b3, b4, b5⟩ := SO.tr _ h8
      have hi : X.N[i]? = some m := by rw [c.g.nN]; exact h4
      have hln : X.env.kindOf m = some .local := by unfold Env.kindOf; rw [c.g.sc]; exact h5
      have hv : Vis X.env.scope m := by rw [c.g.sc]; exact .inl h5
      refine PS.mono (ps_try_as (X := X) (c := .ref B) (tb := fun W D σ H => tE A W e σ H D.rt) (ts := tsW A i) (Wout := Wx) c.stk c.frm (by rw [c.g.nN]; exact c.g.nd) hi hln ⟨gl_of c.g h2, n1, .inl (by rw [c.g.mg]; exact b1)⟩ c.g.tk
        (fun W pn xe tk' _ => snTry SO (X := X.tr pn xe) ⟨c.g.prog, c.g.w, c.g.K, c.g.mg, c.g.base, c.g.sc, c.g.fn, c.g.nN, c.g.nd, c.g.calm, c.g.room, tk'⟩ e bd h11)
        (fun a oe cls d pn hz hf => by
          refine ⟨fun pins s σ H Dn I z => ?_⟩
          obtain ⟨cc, dd, z1, rfl, rfl, z4, z5⟩ := z
          obtain ⟨_, C, y1, y2, y3⟩ := b5 cc dd z1
          rw [y1] at hz
          have F' : FnW X.prog X.w X.K X.mg X.base (L2.CX X.prog X.w) k ad fd C (rWh cc) := by rw [c.g.prog, c.g.w, c.g.K, c.g.mg, c.g.base]; exact y3
          exact (pss_cons (ps_ret (pe_callW F' c.g.rm hz hf (gl_of c.g h9) (by rw [c.g.mg]; exact b2) (by rw [c.g.K]; exact b3) (by rw [c.g.K]; exact b4) o1 hi hv l1 l2)) pss_nil).run pins s σ H Dn I ⟨z4, z5⟩)) fun Dn σ H z => ?_
      have := imp_tryW (B := .ref B) (fun cc dd z1 => ⟨(b5 cc dd z1).1, by obtain ⟨_, C, y1, y2, _⟩ := b5 cc dd z1; rw [y1]; exact y2⟩) z
      rw [← c.g.K] at this
      exact this
    · cases h
  | .while_ t b, st, h => by
    unfold chkS at h
    split at h
    · simp only [Bool.and_eq_true] at h
      obtain ⟨⟨h1, h2⟩, h3⟩ := h
      exact PS.mono (ps_while c.pown ((snE SO t _ c.g h2).pt h1) (snB SO c b _ h3)) fun Dn σ H z => imp_while z
    · cases h
  | .aug j o e, st, h => by
    unfold chkS at h
    split at h
    · rename_i x _ op v _
      simp only [Bool.and_eq_true, beq_iff_eq, Bool.or_eq_true] at h
      obtain ⟨⟨⟨⟨⟨h1, h2⟩, h3⟩, h4⟩, h5⟩, h6⟩ := h
      have e1 := bop_of h4
      subst e1
      have hf : X.fn x = true ∨ X.env.scope.names.lookup x = some .local := by rw [c.g.fn, c.g.sc]; exact h3
      rcases h5 with rfl | rfl
      · exact PS.mono (ps_aug (i := j) (by rw [c.g.nN]; exact c.g.nd) (by rw [c.g.nN]; exact h1) (by rw [c.g.sc]; exact loc_of h2) (snE SO e _ c.g h6).pe ip_add hf) fun Dn σ H z => imp_augA z
      · exact PS.mono (ps_aug (i := j) (by rw [c.g.nN]; exact c.g.nd) (by rw [c.g.nN]; exact h1) (by rw [c.g.sc]; exact loc_of h2) (snE SO e _ c.g h6).pe ip_sub hf) fun Dn σ H z => imp_augS z
    · cases h
  | .app j e, st, h => by
    unfold chkS at h
    split at h
    · simp only [Bool.and_eq_true, beq_iff_eq] at h
      obtain ⟨⟨⟨⟨⟨⟨h1, h2⟩, h3⟩, h4⟩, h5⟩, h6⟩, h7⟩ := h
      subst h1
      refine PS.mono (t := tDrop (tBM A.K "list" rAppend (tVar j) (tCons (tE A Wx e) tNil))) ?_ fun Dn σ H z => imp_app z
      rw [← c.g.K]
      exact ps_expr (pe_bm PySem.F.plainAttrs_list PySem.F.slot_list_append PySem.F.type_list_append mt_append (name_of c h2 h3 h4) (pa_cons (snE SO e _ c.g h7).pe pa_nil (star_of h6)) rfl (by rw [star_of h6]; rfl) (by simpa using h5) (star_of h6) rfl) rfl
    · cases h
  | .ext j e, st, h => by
    unfold chkS at h
    split at h
    · simp only [Bool.and_eq_true, beq_iff_eq] at h
      obtain ⟨⟨⟨⟨⟨⟨h1, h2⟩, h3⟩, h4⟩, h5⟩, h6⟩, h7⟩ := h
      subst h1
      refine PS.mono (t := tDrop (tBM A.K "list" rExtend (tVar j) (tCons (tE A Wx e) tNil))) ?_ fun Dn σ H z => imp_ext z
      rw [← c.g.K]
      exact ps_expr (pe_bm PySem.F.plainAttrs_list PySem.F.slot_list_extend PySem.F.type_list_extend mt_extend (name_of c h2 h3 h4) (pa_cons (snE SO e _ c.g h7).pe pa_nil (star_of h6)) rfl (by rw [star_of h6]; rfl) (by simpa using h5) (star_of h6) rfl) rfl
    · cases h
  | .expr e, st, h => by
    unfold chkS at h
    split at h
    · simp only [Bool.and_eq_true] at h
      exact PS.mono (ps_expr (snE SO e _ c.g h.2).pe (sw_false h.1)) fun Dn σ H z => imp_expr z
    · cases h
  | .ifs t a b, st, h => by
    unfold chkS at h
    split at h
    · simp only [Bool.and_eq_true] at h
      obtain ⟨⟨⟨h1, h2⟩, h3⟩, h4⟩ := h
      exact PS.mono (ps_if ((snE SO t _ c.g h2).pt h1) (snB SO c a _ h3) (snB SO c b _ h4)) fun Dn σ H z => imp_if z
    · cases h
  | .for_ kk src t b, st, h => by
    unfold chkS at h
    split at h
    · simp only [Bool.and_eq_true] at h
      obtain ⟨⟨h1, h2⟩, h3⟩ := h
      obtain ⟨i1, i2, i3⟩ := snI SO kk src _ _ c.g h1
      exact PS.mono (ps_for c.pown c.g.calm i1 (snG c.g t _ h2) (snB SO c b _ h3) i3) fun Dn σ H z => imp_for i2 z
    · cases h
  | .ret e, st, h => by
    unfold chkS at h
    split at h
    · exact PS.mono (ps_ret (snE SO e _ c.g h).pe) fun Dn σ H z => imp_ret z
    · cases h
  | .retN, st, h => by
    unfold chkS at h
    split at h
    · exact PS.mono ps_retN fun Dn σ H z => imp_retN z
    · cases h
  | .retO j, st, h => by
    unfold chkS at h
    split at h
    · simp only [Bool.and_eq_true, beq_iff_eq] at h
      exact PS.mono (ps_ret (name_of c h.1.1 h.1.2 h.2)) fun Dn σ H z => imp_retO z
    · cases h
  | .pass, st, h => by
    unfold chkS at h
    split at h
    · exact PS.mono ps_pass fun Dn σ H z => imp_pass z
    · cases h
  | .pop t l es, st, h => by
    unfold chkS at h
    split at h
    · rename_i tg x xp m apos cpos pos
      simp only [Bool.and_eq_true, beq_iff_eq] at h
      obtain ⟨⟨⟨⟨⟨⟨rfl, h2⟩, h3⟩, h4⟩, h5⟩, h6⟩, h7⟩ := h
      obtain ⟨k1, k2, k3⟩ := plain_ok (l := pos.line) c h7
      refine PS.mono (t := tAsg (tBM0 A.K "list" rPop (tVar l)) (gTg A.K t)) ?_ fun Dn σ H z => imp_pop z
      have hg := snG c.g t tg h6
      have hp := pe_bm0 (X := X) (cpos := cpos) (apos := apos) PySem.F.plainAttrs_list PySem.F.slot_list_pop PySem.F.type_list_pop mt_pop (name_of (p := xp) c h2 h3 h4) rfl (by simpa using h5)
      rw [c.g.K] at hp
      exact ps_asg hp hg k1 k2 k3
    · cases h
  | .fldV j f e, st, h => by
    unfold chkS at h
    split at h
    · simp only [Bool.and_eq_true, beq_iff_eq, decide_eq_true_eq] at h
      obtain ⟨⟨⟨⟨⟨rfl, h2⟩, h3⟩, h4⟩, h5⟩, h6⟩ := h
      have q := fun p1 p2 p3 => ps_fld (X := X) (f := f) (pos' := p2) (pos := p3) (name_of (p := p1) c h3 h4 h5) (snE SO e _ c.g h6).pe (sw_attr _)
      rw [c.g.K] at q
      exact PS.mono (q _ _ _) fun Dn σ H z => imp_fldV (SO.cls f h2) z
    · cases h
  | .fldO j f e, st, h => by
    unfold chkS at h
    split at h
    · simp only [Bool.and_eq_true, beq_iff_eq, decide_eq_true_eq] at h
      obtain ⟨⟨⟨⟨⟨rfl, h2⟩, h3⟩, h4⟩, h5⟩, h6⟩ := h
      have q := fun p1 p2 p3 => ps_fld (X := X) (f := f) (pos' := p2) (pos := p3) (name_of (p := p1) c h3 h4 h5) (snE SO e _ c.g h6).pe (sw_attr _)
      rw [c.g.K] at q
      exact PS.mono (q _ _ _) fun Dn σ H z => imp_fldO (SO.cls f h2) z
    · cases h
  | .fldSet j f i e, st, h => by
    unfold chkS at h
    split at h
    · rename_i x _ f' _ ix _ v _
      simp only [Bool.and_eq_true, beq_iff_eq, decide_eq_true_eq] at h
      obtain ⟨⟨⟨⟨⟨⟨⟨rfl, h2⟩, h3⟩, h4⟩, h5⟩, h6⟩, h7⟩, h8⟩ := h
      have q := fun p1 p2 => pe_fld (X := X) (f := f) (pos := p1) (name_of (p := p2) c h3 h4 h5) attr_name
      rw [c.g.K] at q
      exact PS.mono (ps_asg (snE SO e _ c.g h8).pe (pg_sub (q _ _) (snE SO i _ c.g h7).pe set_list (by
        intro v
        cases ix <;> first | rfl | cases h6)) (by unfold swapsWithSole; exact sw_sub _) (by unfold swappedStores; rfl) rfl) fun Dn σ H z => imp_fldSet (SO.cls f h2) z
    · cases h
  | .fldApp j f e, st, h => by
    unfold chkS at h
    split at h
    · simp only [Bool.and_eq_true, beq_iff_eq, decide_eq_true_eq] at h
      obtain ⟨⟨⟨⟨⟨⟨⟨⟨rfl, rfl⟩, h2⟩, h3⟩, h4⟩, h5⟩, h6⟩, h7⟩, h8⟩ := h
      refine PS.mono (t := tDrop (tBM A.K "list" rAppend (tFld A.K (tVar j) f) (tCons (tE A Wx e) tNil))) ?_ fun Dn σ H z => imp_fldApp (SO.cls f h2) z
      have q := fun p1 p2 => pe_fld (X := X) (f := f) (pos := p1) (name_of (p := p2) c h3 h4 h5) attr_name
      rw [← c.g.K]
      exact ps_expr (pe_bm PySem.F.plainAttrs_list PySem.F.slot_list_append PySem.F.type_list_append mt_append (q _ _) (pa_cons (snE SO e _ c.g h8).pe pa_nil (star_of h7)) rfl (by rw [star_of h7]; rfl) (by simpa using h6) (star_of h7) rfl) rfl
    · cases h
  | .forF kk j f t b, st, h => by
    unfold chkS at h
    split at h
    · rename_i tg z _ x _ f' _ _ body _
      simp only [Bool.and_eq_true, beq_iff_eq, decide_eq_true_eq] at h
      obtain ⟨⟨⟨⟨⟨⟨⟨⟨⟨rfl, h0⟩, h1⟩, rfl⟩, h2⟩, h3⟩, h4⟩, h5⟩, h6⟩, h7⟩ := h
      have fr := free_of SO c.g (x := "enumerate") (by decide +kernel)
      have q := fun p1 p2 => pe_fld (X := X) (f := f) (pos := p1) (name_of (p := p2) c h3 h4 h5) attr_name
      cases tg with
      | Tuple elts kt tpos =>
        have pi := fun p1 p2 p3 p4 => pi_enumA (X := X) (tpos := tpos) (elts := elts) (kk := kt) (p := p3) (pos := p4) (gl_of c.g h0) fr (pa_cons (q p1 p2) pa_nil rfl) rfl
        rw [c.g.K] at pi
        exact PS.mono (ps_for c.pown c.g.calm (pi _ _ _ _) (snG c.g t _ h6) (snB SO c b _ h7) (fun _ => rfl)) fun Dn σ H z => imp_forF (SO.cls f h2) z
      | _ => cases h1
    · cases h
  | .frz _, st, h => by simp [chkS] at h
theorem snB (SO : StatOk A k) (c : CtxS A k Wx fnB sc N X) : ∀ (b : List S) (sts : List Stmt), chkB A.T N fnB sc b sts = true → PSs X sts (tBk A Wi Hi Wx b)
  | [], [], _ => PSs.mono pss_nil fun Dn σ H z => imp_bnil z
  | [], _ :: _, h => by simp [chkB] at h
  | s :: r, sts, h => by
    by_cases hf : ∃ j, s = .frz j
    · obtain ⟨j, rfl⟩ := hf
      simp only [chkB] at h
      exact PSs.mono (snB SO c r sts h) fun Dn σ H z => imp_frz z
    · obtain ⟨st, sts', rfl, h1, h2⟩ := chkB_cons (fun j e => hf ⟨j, e⟩) h
      exact PSs.mono (pss_cons (snS SO c s st h1) (snB SO c r sts' h2)) fun Dn σ H z => imp_bcons z
end
end
end GV
set_option Elab.async false
set_option linter.all false
set_option maxRecDepth 100000
set_option maxHeartbeats 4000000
/-! GV19: functions. -/
namespace GV
open PySem L2
/-! ### what is pure does not look at the ids -/
section
variable {K : PySem.W.Frag} {cl : Cl} {W W' : Wd} {H : Hp} {h : MH}
mutual
theorem Rep.pure (e : ∀ a, W.F a → W'.F a) : ∀ {v : V} {d : D} {n : Nat}, Rep K W H v d → d.okN n = true → Rep K W' H v d
  | _, _, _, .non, _ => .non
  | _, _, _, .bl b, _ => .bl b
  | _, _, _, .int i, _ => .int i
  | _, _, _, .str x, _ => .str x
  | _, _, 0, .tup _ _, h => by simp [D.okN] at h
  | _, _, n + 1, .tup q r, h => .tup q (RepL.pure (n := n) e r (by simpa [D.okN] using h))
  | _, _, 0, .lst _ _ _, h => by simp [D.okN] at h
  | _, _, n + 1, .lst q f r, h => .lst q (e _ f) (RepL.pure (n := n) e r (by simpa [D.okN] using h))
  | _, _, n, .obj _, h => by simp [D.okN] at h
theorem RepL.pure (e : ∀ a, W.F a → W'.F a) : ∀ {vs : List V} {ds : List D} {n : Nat}, RepL K W H vs ds → (∀ d ∈ ds, d.okN n = true) → RepL K W' H vs ds
  | _, _, _, .nil, _ => .nil
  | _, _, n, .cons a b, h => .cons (Rep.pure e a (h _ (by simp))) (RepL.pure (n := n) e b fun d hd => h d (by simp [hd]))
end
def Wd.cut (W : Wd) (n : Nat) : Wd := { W with k := fun q => if q.1 < n then W.k q else none, ob := fun q => if q.1 < n then W.ob q else none }
theorem cut_fp {n : Nat} {a : Addr} (z : (W.cut n).fp a) : W.fp a := by
  obtain ⟨q, e⟩ := z
  unfold Wd.cut at e
  simp only at e
  split at e
  · exact ⟨q, e⟩
  · cases e
theorem cut_ok {n : Nat} (w : WOk K cl W h H) (hp : (h.take n).all MO.pure = true) : WOk K cl (W.cut n) (h.take n) H := by
  refine ⟨fun q q' a h1 h2 => ?_, fun a f z => w.dis a f (cut_fp z), fun a z => w.cov a (cut_fp z), w.frz, fun i o q => ?_, fun q a e => ?_, fun i c fs hi f m a hk => ?_, fun q o e => ?_, fun i m kvs hi l o e => ?_⟩
  · unfold Wd.cut at h1 h2
    simp only at h1 h2
    split at h1
    · split at h2
      · exact w.inj q q' a h1 h2
      · cases h2
    · cases h1
  · have hi : i < n := by
      have := (List.getElem?_eq_some_iff.mp q).1
      simp at this
      omega
    have hpo : o.pure = true := List.all_eq_true.mp hp o (List.mem_of_getElem? q)
    rw [List.getElem?_take_of_lt hi] at q
    have m := w.obj i o q
    have kk : ∀ f, (W.cut n).k (i, f) = W.k (i, f) := fun f => by unfold Wd.cut; simp [hi]
    cases o with
    | lst xs =>
      obtain ⟨a, vs, e1, e2, e3⟩ := m
      exact ⟨a, vs, by rw [kk]; exact e1, e2, RepL.pure (W := W) (W' := W.cut n) (fun _ f => f) e3 (List.all_eq_true.mp hpo)⟩
    | ins c fs =>
      obtain ⟨a, C, dx, gs, e1, e2, e3, e4⟩ := m
      refine ⟨a, C, dx, gs, by rw [kk]; exact e1, e2, e3, ?_⟩
      have hfs : ∀ p ∈ fs, p.2.pure = true := List.all_eq_true.mp hpo
      clear hpo q e3
      induction e4 with
      | nil => exact .nil
      | @cons pp qq l1 l2 z _ ih =>
        refine .cons ?_ (ih fun p hp => hfs p (by simp [hp]))
        have hz := hfs pp (by simp)
        obtain ⟨f, fd⟩ := pp
        cases fd with
        | v d => exact ⟨z.1, Rep.pure (W := W) (W' := W.cut n) (fun _ f => f) z.2 hz⟩
        | own m ys =>
          obtain ⟨z1, c, ws, z2, z3, z4, z5⟩ := z
          exact ⟨z1, c, ws, by rw [kk]; exact z2, z3, z4, RepL.pure (W := W) (W' := W.cut n) (fun _ f => f) z5 (List.all_eq_true.mp hz)⟩
    | dic m' kvs =>
      obtain ⟨a, ob, xs, e1, e2, e3, e4⟩ := m
      refine ⟨a, ob, xs, by rw [kk]; exact e1, by unfold Wd.cut; simp [hi, e2], e3, ?_⟩
      have hfs : ∀ p ∈ kvs, (p.1.okN 60 && p.2.okN 60) = true := List.all_eq_true.mp hpo
      clear hpo q e2 e3
      induction e4 with
      | nil => exact .nil
      | @cons pp qq l1 l2 z _ ih =>
        refine .cons ?_ (ih fun p hp => hfs p (by simp [hp]))
        have hz := hfs pp (by simp)
        simp only [Bool.and_eq_true] at hz
        obtain ⟨z1, z2, z3, v, z4, z5⟩ := z
        exact ⟨z1, z2, Rep.pure (W := W) (W' := W.cut n) (fun _ f => f) z3 hz.1, v, z4, Rep.pure (W := W) (W' := W.cut n) (fun _ f => f) z5 hz.2⟩
  · unfold Wd.cut at e
    simp only at e
    split at e
    · rename_i hq
      have := w.bnd q a e
      simp
      omega
    · cases e
  · have hin : i < n := by
      have := (List.getElem?_eq_some_iff.mp hi).1
      simp at this
      omega
    rw [List.getElem?_take_of_lt hin] at hi
    unfold Wd.cut at hk
    simp only [hin, if_true] at hk
    exact w.nxt i c fs hi f m a hk
  · unfold Wd.cut at e
    simp only at e
    split at e
    · rename_i hq
      have := w.dbd q o e
      simp
      omega
    · cases e
  · have hin : i < n := by
      have := (List.getElem?_eq_some_iff.mp hi).1
      simp at this
      omega
    rw [List.getElem?_take_of_lt hin] at hi
    unfold Wd.cut at e
    simp only [hin, if_true] at e
    exact w.dnx i m kvs hi l o e
theorem cut_ext {W0 : Wd} {H0 : Hp} {h0 : MH} (w0 : WOk K cl W0 h0 H0) (x : Ext W0 H0 W H) : Ext W0 H0 (W.cut h0.length) H :=
  ⟨x.keep, x.there, fun a z => x.fpn a (cut_fp z), fun q a e => by
    unfold Wd.cut
    simp only
    rw [if_pos (w0.bnd q a e)]
    exact x.ids q a e, x.fF, x.fn, fun q o e => by
    unfold Wd.cut
    simp only
    rw [if_pos (w0.dbd q o e)]
    exact x.ob q o e⟩
theorem cut_rrel {H0 : Hp} {v : V} {r : R} {n : Nat} (q : RRel K W H0 H v r) (hp : r.pure = true) : RRel K (W.cut n) H0 H v r := by
  cases r with
  | v d => exact Rep.pure (W := W) (W' := W.cut n) (fun _ f => f) q hp
  | nl xs =>
    obtain ⟨p, vs, e1, e2, e3, e4, e5, e6⟩ := q
    exact ⟨p, vs, e1, e2, e3, RepL.pure (W := W) (W' := W.cut n) (fun _ f => f) e4 (List.all_eq_true.mp hp), e5, fun z => e6 (cut_fp z)⟩
  | bw xs => cases hp
end
/-! ### a call -/
structure Base where
  P : Program
  w : World
  K : PySem.W.Frag
  mg : Str → Option Value
  base : Heap
  cl : Cl
  xc : Nat → Value
  T : Tab
  Pt : Nat → Option FD
  gc : Nat → Option D
  srt : List D → Option (List D)
  wf : Nat
  wh : Nat → Option D
noncomputable def Base.at (B : Base) (n : Nat) : Stat where
  P := B.P
  w := B.w
  K := B.K
  mg := B.mg
  base := B.base
  G := ⟨evCall B.Pt B.gc B.srt B.wf B.wh n, B.gc, B.srt, B.wf, whAt B.wh n⟩
  cl := B.cl
  xc := B.xc
  T := B.T
theorem start_rel {K : PySem.W.Frag} {W : Wd} {H : Hp} {vs : List V} {args : List Sl} {n : Nat} {N : List Str} (q : Paired (AR K W H) vs args) (hN : N.length = n) : SRel K W H (fun _ => none) (startS n args) (L2.start N vs) := by
  have hl : vs.length = args.length := Paired.length q
  have get : ∀ (j : Nat) x, (startS n args)[j]? = some (some x) → ∃ v, (L2.start N vs)[j]? = some (some v) ∧ AR K W H v x := by
    intro j x e
    unfold startS at e
    by_cases hj : j < args.length
    · rw [List.getElem?_append_left (by simpa using hj)] at e
      simp only [List.getElem?_map, Option.map_eq_some_iff, Option.some.injEq] at e
      obtain ⟨y, e1, rfl⟩ := e
      have : ∀ {vs : List V} {args : List Sl} {j : Nat}, Paired (AR K W H) vs args → args[j]? = some y → ∃ v, vs[j]? = some v ∧ AR K W H v y := by
        intro vs args j q
        induction q generalizing j with
        | nil => intro e; simp at e
        | cons a b ih =>
          intro e
          cases j with
          | zero => simp at e; subst e; exact ⟨_, rfl, a⟩
          | succ j => simpa using ih (j := j) (by simpa using e)
      obtain ⟨v, e2, e3⟩ := this q e1
      refine ⟨v, ?_, e3⟩
      unfold L2.start
      rw [List.getElem?_append_left (by simp [hl, hj])]
      simp [e2]
    · rw [List.getElem?_append_right (by simpa using hj)] at e
      rw [List.getElem?_replicate] at e
      split at e
      · cases e
      · cases e
  refine ⟨fun j d e => ?_, fun j xs e => ?_, fun j xs e => ?_, fun i j a h1 => (by cases h1), fun j a h1 => (by cases h1), ?_⟩
  · obtain ⟨v, e1, e2⟩ := get j _ e
    exact ⟨v, e1, e2⟩
  · obtain ⟨v, e1, e2⟩ := get j _ e
    exact e2.elim
  · obtain ⟨v, e1, a, us, rfl, e2, e3, e4⟩ := get j _ e
    exact ⟨a, us, e1, e2, e3, e4, fun i z => by cases z⟩
  · unfold startS L2.start
    simp [hl, hN]
structure DefOk (B : Base) (f : Nat) (x qu : Str) (ad : Addr) (fd : FuncData) (params : Arguments) (body : List Stmt) (scope : Scope) (N ps : List Str) (d : FD) : Prop where
  F : FunD B.K x qu params body scope [] [] ad fd
  sc : FnScope N ps scope
  b : Binds B.K fd ps []
  p : B.Pt f = some d
  dn : N.length = d.n
  dp : ps.length = d.p
  chk : chkB B.T N (fun _ => true) scope d.body body = true
theorem fn_zero {P : Program} {w : World} {K : PySem.W.Frag} {mg : Str → Option Value} {base : Heap} {CX : CXT} {k : Nat} {f : Addr} {fd : FuncData} {ps : List Str} {sp : Sp} (h : ∀ vs H Q E, ¬ sp vs H Q E) : FnOk P w K mg base CX k f fd ps sp :=
  ⟨fun vs H Q E z => (h vs H Q E z).elim, fun A outer s H args us vs Q E _ _ _ _ z => (h vs H Q E z).elim⟩
theorem fn_step {B : Base} {n k f : Nat} {x qu : Str} {ad : Addr} {fd : FuncData} {params : Arguments} {body : List Stmt} {scope : Scope} {N ps : List Str} {d : FD} (D : DefOk B f x qu ad fd params body scope N ps d) (S : StatOk (B.at n) k) :
    FnOk B.P B.w B.K B.mg B.base (L2.CX B.P B.w) (k + 2) ad fd ps (spF (B.at (n + 1)) f) := by
  refine D.F.ok D.sc (fun vs H Q E z => ?_) fun cdv A outer s H vs Q E hr z => ?_
  · obtain ⟨W, h, args, w, q, p⟩ := z
    have e : (B.at (n + 1)).G.cf f args h = if args.length = d.p then finish h.length (evB (B.at n).G d.body (startS d.n args) h) else .no := by
      show evCall B.Pt B.gc B.srt B.wf B.wh (n + 1) f args h = _
      rw [evCall, D.p]
      rfl
    rw [e] at p
    split at p
    · rename_i hl
      have := Paired.length q
      rw [this, hl, D.dp]
    · exact p.elim
  · obtain ⟨W, h, args, w, q, p⟩ := z
    have e : (B.at (n + 1)).G.cf f args h = if args.length = d.p then finish h.length (evB (B.at n).G d.body (startS d.n args) h) else .no := by
      show evCall B.Pt B.gc B.srt B.wf B.wh (n + 1) f args h = _
      rw [evCall, D.p]
      rfl
    rw [e] at p
    split at p
    · have c : CtxS (B.at n) k (fun cls d _ H => E cls d H) (fun _ => true) scope N (cxOf (L2.CX B.P B.w) B.P B.w B.K B.mg B.base N qu scope ad cdv A outer s H E) :=
        ⟨⟨rfl, rfl, rfl, rfl, rfl, rfl, rfl, rfl, D.sc.nd, rfl, hr, takes_of rfl rfl rfl rfl⟩, passes_of rfl, D.sc.kind, rfl, rfl⟩
      refine ⟨tBk (B.at n) W H (fun cls d _ H => E cls d H) d.body, snB S c d.body body D.chk, W, h, fun _ => none, startS d.n args, ⟨w, start_rel q D.dn, Ext.refl _ _, fun j a z => by cases z⟩, ?_⟩
      cases eb : evB (B.at n).G d.body (startS d.n args) h with
      | no => rw [eb] at p; exact p
      | ex c h' =>
        rw [eb] at p
        simp only [finish] at p
        split at p
        · exact fun W' H' σ' x' w' => p W' H' x' w'
        · split at p
          · rename_i hp
            exact fun W' H' σ' x' w' => p _ H' (cut_ext w x') (cut_ok w' hp)
          · exact p.elim
      | ok fl h' =>
        rw [eb] at p
        cases fl with
        | nx ss' =>
          simp only [finish] at p
          split at p
          · exact fun W' H' oA' σ' st y => p W' H' .non st.x st.w .non
          · split at p
            · rename_i hp
              exact fun W' H' oA' σ' st y => p _ H' .non (cut_ext w st.x) (cut_ok st.w hp) .non
            · exact p.elim
        | rt r =>
          simp only [finish] at p
          split at p
          · exact fun W' H' v x' w' rr => p W' H' v x' w' rr
          · split at p
            · rename_i hp
              simp only [Bool.and_eq_true] at hp
              exact fun W' H' v x' w' rr => p _ H' v (cut_ext w x') (cut_ok w' hp.2) (cut_rrel rr hp.1)
            · exact fun W' H' v x' w' rr => p W' H' v x' w' rr
    · exact p.elim
/-- all levels -/
structure BaseOk (B : Base) : Prop where
  wd : B.cl.w = B.w
  free : ∀ x ∈ bnames, B.mg x = none
  cst : ∀ (c : Nat) x, B.T.gn[c]? = some x → ∃ v u, B.mg x = some u ∧ RelV v u ∧ ∀ d W H, B.gc c = some d → Rep B.K W H v d
  fns : ∀ (f : Nat) x, B.T.fn f = some x → ∃ ad fd params body scope N ps d qu, B.mg x = some (.ref ad) ∧ DefOk B f x qu ad fd params body scope N ps d
  cls : ∀ f, f ∈ B.T.fl → ∀ c C, B.cl c = some C → Cls B.K C ∧ NoAttr B.K C f
  mts : ∀ (f c : Nat) m, B.T.mt f = some (c, m) → ∃ C ad fd params body scope N ps d x qu, B.cl c = some C ∧ Cls B.K C ∧ Meth B.K C m ad ∧ DefOk B f x qu ad fd params body scope N ps d
  mkr : ∀ (c f : Nat) x, B.T.ct c = some (x, f) → ∃ C ad fd params body scope N ps d nm qu, B.mg x = some (.ref C) ∧ B.cl c = some C ∧ Mk B.K C ad ∧ DefOk B f nm qu ad fd params body scope N ps d
  exc : ∀ (c : Nat) x, B.T.cn.lookup c = some x → ∃ C, B.mg x = some (.ref C) ∧ B.xc c = .ref C ∧ PySem.W.excIn B.K C He.veBase "ValueError.__new__" = true ∧ PySem.W.keepIn B.K (.ref C) = true ∧ PySem.W.subIn B.K (.ref C) (.type "BaseException") = some true ∧ PySem.W.typeIn B.K (.ref C) = some (.type "type")
  tr : ∀ x, B.T.wh = some x → ∃ Bc ad fd params body scope, B.mg B.T.be = some (.ref Bc) ∧ B.mg x = some (.ref ad) ∧ FunD B.K x x params body scope [] [] ad fd ∧ Binds B.K fd ["e"] [] ∧ FnScope ["e", "own"] ["e"] scope ∧ whB scope body = true ∧ B.mg "ValueError" = none ∧
    ∀ c d, B.wh c = some d → c < 21 ∧ d = .tup [.str "raised", .int (c : Nat)] ∧ ∃ C, B.xc c = .ref C ∧ PySem.W.exmOne B.K (.ref C) (.ref Bc) = some true ∧ ClsOk B.K B.mg C c
theorem tr_at {B : Base} (O : BaseOk B) (n : Nat) : ∀ x, (B.at n).T.wh = some x → ∃ Bc ad fd, (B.at n).mg (B.at n).T.be = some (.ref Bc) ∧ (B.at n).mg x = some (.ref ad) ∧ PySem.W.keepIn (B.at n).K (.ref ad) = true ∧ Binds (B.at n).K fd ["e"] [] ∧
    ∀ c d, (B.at n).G.wh c = some d → d = .tup [.str "raised", .int (c : Nat)] ∧ ∃ C, (B.at n).xc c = .ref C ∧ PySem.W.exmOne (B.at n).K (.ref C) (.ref Bc) = some true ∧ FnW (B.at n).P (B.at n).w (B.at n).K (B.at n).mg (B.at n).base (L2.CX (B.at n).P (B.at n).w) (2 * n) ad fd C (rWh c) := fun x hx => by
  obtain ⟨Bc, ad, fd, params, body, scope, h1, h2, h3, h4, h5, h6, h7, h8⟩ := O.tr x hx
  refine ⟨Bc, ad, fd, h1, h2, h3.kp, h4, fun c d e => ?_⟩
  have e' : whAt B.wh n c = some d := e
  cases n with
  | zero => cases e'
  | succ m =>
    obtain ⟨g1, g2, C, g3, g4, g5⟩ := h8 c d e'
    exact ⟨g2, C, g3, g4, fn_wh g1 h3 h5 h6 g5 (O.free "isinstance" (by decide +kernel)) h7⟩
theorem stat_ok {B : Base} (O : BaseOk B) : ∀ n, StatOk (B.at n) (2 * n)
  | 0 => by
    have z : ∀ {ad : Addr} {fd : FuncData} {ps : List Str} {f : Nat}, FnOk (B.at 0).P (B.at 0).w (B.at 0).K (B.at 0).mg (B.at 0).base (L2.CX (B.at 0).P (B.at 0).w) (2 * 0) ad fd ps (spF (B.at 0) f) := fn_zero fun vs H Q E z => by
      obtain ⟨W, h, args, w, q, p⟩ := z
      exact p
    refine ⟨O.wd, O.free, O.cst, fun f x e => ?_, O.cls, fun f c m e => ?_, fun c f x e => ?_, O.exc, tr_at O 0⟩
    · obtain ⟨ad, fd, params, body, scope, N, ps, d, qu, g, D⟩ := O.fns f x e
      exact ⟨ad, fd, ps, g, D.F.kp, D.b, z⟩
    · obtain ⟨C, ad, fd, params, body, scope, N, ps, d, x, qu, g1, g2, g3, D⟩ := O.mts f c m e
      exact ⟨C, ad, fd, ps, g1, g2, g3, D.b, z⟩
    · obtain ⟨C, ad, fd, params, body, scope, N, ps, d, nm, qu, g1, g2, g3, D⟩ := O.mkr c f x e
      exact ⟨C, ad, fd, ps, g1, g2, g3, D.b, z⟩
  | n + 1 => by
    refine ⟨O.wd, O.free, O.cst, fun f x e => ?_, O.cls, fun f c m e => ?_, fun c f x e => ?_, O.exc, tr_at O (n + 1)⟩
    · obtain ⟨ad, fd, params, body, scope, N, ps, d, qu, g, D⟩ := O.fns f x e
      exact ⟨ad, fd, ps, g, D.F.kp, D.b, fn_step D (stat_ok O n)⟩
    · obtain ⟨C, ad, fd, params, body, scope, N, ps, d, x, qu, g1, g2, g3, D⟩ := O.mts f c m e
      exact ⟨C, ad, fd, ps, g1, g2, g3, D.b, fn_step D (stat_ok O n)⟩
    · obtain ⟨C, ad, fd, params, body, scope, N, ps, d, nm, qu, g1, g2, g3, D⟩ := O.mkr c f x e
      exact ⟨C, ad, fd, ps, g1, g2, g3, D.b, fn_step D (stat_ok O n)⟩
end GV
set_option Elab.async false
set_option linter.all false
set_option maxRecDepth 100000
set_option maxHeartbeats 4000000
/-! GV20: a law's defs, constants, head. -/
namespace GV
open PySem L2
/-! ### binding of plain parameters -/
theorem fm_congr {α β : Type} {f g : α → Option β} : ∀ {l : List α}, (∀ a ∈ l, f a = g a) → l.filterMap f = l.filterMap g
  | [], _ => rfl
  | a :: l, h => by
    rw [List.filterMap_cons, List.filterMap_cons, h a (by simp), fm_congr fun b hb => h b (by simp [hb])]
theorem lookup_zip {β : Type} : ∀ {ps : List Str} {us : List β}, ps.Nodup → us.length = ps.length → ps.filterMap (fun n => ((ps.zip us).lookup n).map (n, ·)) = ps.zip us
  | [], [], _, _ => rfl
  | p :: ps, u :: us, hn, hl => by
    have hn' := List.nodup_cons.mp hn
    have e : ∀ n ∈ ps, (((p :: ps).zip (u :: us)).lookup n).map (n, ·) = ((ps.zip us).lookup n).map (n, ·) := fun n hm => by
      have : (n == p) = false := by
        cases q : n == p with
        | false => rfl
        | true => exact absurd (eq_of_beq q ▸ hm) hn'.1
      simp [List.zip_cons_cons, List.lookup_cons, this]
    rw [List.filterMap_cons]
    have e0 : (((p :: ps).zip (u :: us)).lookup p).map (p, ·) = some (p, u) := by simp [List.lookup_cons]
    rw [e0]
    simp only [List.zip_cons_cons]
    congr 1
    refine Eq.trans ?_ (lookup_zip (ps := ps) (us := us) hn'.2 (by simpa using hl))
    exact fm_congr e
  | [], _ :: _, _, hl => by simp at hl
  | _ :: _, [], _, hl => by simp at hl
theorem lookup_some {β : Type} : ∀ {ps : List Str} {us : List β}, us.length = ps.length → ∀ n ∈ ps, ((ps.zip us).lookup n).isNone = false
  | [], _, _, n, h => by cases h
  | p :: ps, [], hl, _, _ => by simp at hl
  | p :: ps, u :: us, hl, n, h => by
    simp only [List.zip_cons_cons, List.lookup_cons]
    cases q : n == p with
    | true => rfl
    | false =>
      rcases List.mem_cons.mp h with e | e
      · simp [e] at q
      · exact lookup_some (by simpa using hl) n e
def plainB (p : Arguments) (ps : List Str) : Bool := p.posonlyargs.isEmpty && p.vararg.isNone && p.kwonlyargs.isEmpty && p.kwarg.isNone && decide (p.args.map (·.arg) = ps)
theorem bind_plain {fd : FuncData} {us : List Value} {ps : List Str} (h : plainB fd.params ps = true) (hd : fd.defaults = .none) (hn : ps.Nodup) (hl : us.length = ps.length) : bindArgs fd ⟨us, []⟩ = pure (ps.zip us) := by
  unfold plainB at h
  simp only [Bool.and_eq_true, List.isEmpty_iff, Option.isNone_iff_eq_none, decide_eq_true_eq] at h
  obtain ⟨⟨⟨⟨h1, h2⟩, h3⟩, h4⟩, h5⟩ := h
  have e1 : (ps.filter fun n => ((ps.zip us).lookup n).isNone) = [] := by
    rw [List.filter_eq_nil_iff]
    intro n hm
    rw [lookup_some hl n hm]
    simp
  unfold bindArgs
  simp only [h1, h2, h3, h4, h5, hd, seqItems?, notAStandIn, List.map_nil, List.nil_append, List.append_nil, List.forIn_nil, List.forIn'_nil, pure_bind, Option.getD_none, Array.toList_empty, hl, gt_iff_lt, Nat.lt_irrefl, decide_false, Bool.false_and, Bool.false_eq_true, if_false, List.length_nil, List.drop_nil, Nat.sub_zero, List.take_length, e1, List.isEmpty_nil, Bool.not_true, List.drop_length, List.zip_nil_right, Nat.zero_sub, lookup_zip hn hl]

/-! ### one def -/
structure DI where
  x : Str
  st : Stmt
  N : List Str
  p : Nat
  body : List S
  q : Str := x
  o : Option Str := none
def DI.ps (d : DI) : List Str := d.N.take d.p
def DI.fd (d : DI) : FD := ⟨d.N.length, d.p, d.body⟩
def DI.at_ (d : DI) : Str × Option Str := match d.o with
  | none => (d.x, none)
  | some c => (c, some d.x)
/-- a method's text -/
def clsM (st : Stmt) (i : Nat) : Stmt := match st with
  | .ClassDef _ _ _ body _ _ _ _ _ _ _ => body.getD i (.Pass ⟨0, 0, 0, 0⟩)
  | _ => .Pass ⟨0, 0, 0, 0⟩
def DI.dd (d : DI) : He.DefD := ⟨d.at_, d.x, d.q, defArgs d.st, defBody d.st, defScope d.st, [], []⟩
def scB (N P : List Str) (sc : Scope) : Bool :=
  decide (sc.kind = .function) && (!sc.isCoroutine && (!sc.isGenerator && (decide N.Nodup && ((P.all fun x => decide (sc.names.lookup x = some .local) || decide (sc.names.lookup x = some .cell)) && sc.names.all fun y => !decide (y.2 = .free)))))
theorem scB_ok {N : List Str} {p : Nat} {sc : Scope} (h : scB N (N.take p) sc = true) : FnScope N (N.take p) sc := by
  unfold scB at h
  simp only [Bool.and_eq_true, decide_eq_true_eq, Bool.not_eq_true', List.all_eq_true, Bool.or_eq_true, decide_eq_false_iff_not] at h
  obtain ⟨h1, h2, h3, h4, h5, h6⟩ := h
  refine ⟨h1, h2, h3, h4, ?_, h5, fun y hy => h6 y hy⟩
  rw [List.length_take]
  by_cases hp : p ≤ N.length
  · rw [Nat.min_eq_left hp]
  · rw [Nat.min_eq_right (by omega), List.take_length, List.take_of_length_le (by omega)]
def DI.ok (T : Tab) (d : DI) : Bool := scB d.N (d.N.take d.p) (defScope d.st) && (plainB (defArgs d.st) (d.N.take d.p) && (decide (d.p ≤ d.N.length) && chkB T d.N (fun _ => true) (defScope d.st) d.body (defBody d.st)))
/-! ### constants -/
def dvOf : D → He.Dv
  | .int i => .int i
  | .str x => .str x
  | _ => .non
def flatB : D → Bool
  | .int _ => true
  | .str _ => true
  | _ => false
def cB (K : PySem.W.Frag) (x : Str) : D → Bool
  | .int i => (He.Fa.int x i).ok K
  | .str z => (He.Fa.str x z).ok K
  | .tup ds => (He.Fa.glo x).ok K && (ds.all flatB && He.tupB K x (ds.map dvOf))
  | _ => false
theorem repL_flat {K : PySem.W.Frag} {W : Wd} {H : Hp} : ∀ {ds : List D}, ds.all flatB = true → RepL K W H ((ds.map dvOf).map (He.Dv.v K)) ds
  | [], _ => .nil
  | d :: ds, h => by
    simp only [List.all_cons, Bool.and_eq_true] at h
    refine .cons ?_ (repL_flat h.2)
    have h1 := h.1
    cases d with
    | int i => exact .int i
    | str x => exact .str x
    | _ => cases h1
theorem cB_ok {K : PySem.W.Frag} {h : Heap} {mg : Str → Option Value} (X : K.In h) (G : h.Ns mainGlobals mg) {x : Str} {d : D} (c : cB K x d = true) : ∃ v u, mg x = some u ∧ RelV v u ∧ ∀ W H, Rep K W H v d := by
  cases d with
  | int i => obtain ⟨t, e⟩ := He.int_ok X G c; exact ⟨.int i, _, e, ⟨t, rfl⟩, fun _ _ => .int i⟩
  | str z => obtain ⟨t, e⟩ := He.str_ok X G c; exact ⟨.str z, _, e, ⟨t, rfl⟩, fun _ _ => .str z⟩
  | tup ds =>
    simp only [cB, Bool.and_eq_true] at c
    obtain ⟨c1, c2, c3⟩ := c
    exact ⟨.ref (He.ga K x), _, He.glo_ok X G c1, rfl, fun W H => .tup (He.tupB_ok c3 H) (repL_flat c2)⟩
  | _ => cases c
/-! ### the head's Hook -/
def lstO (o : Obj) : Bool := match o.cls with
  | .type c => decide (c = "list")
  | _ => false
def noLst (K : PySem.W.Frag) : Bool := K.all fun p => !lstO p.2
theorem noLst_ok {K : PySem.W.Frag} (h : noLst K = true) {a : Addr} {o : Obj} (e : K.lookup a = some o) : o.cls ≠ .type "list" := by
  have : ∀ (K : PySem.W.Frag), noLst K = true → K.lookup a = some o → lstO o = false := by
    intro K
    induction K with
    | nil => intro _ e; cases e
    | cons p K ih =>
      intro h e
      simp only [noLst, List.all_cons, Bool.and_eq_true, Bool.not_eq_true'] at h
      have e' : (match a == p.1 with | true => some p.2 | false => K.lookup a) = some o := e
      cases q : (a == p.1) with
      | true =>
        rw [q] at e'
        have e2 : some p.2 = some o := e'
        cases e2
        exact h.1
      | false =>
        rw [q] at e'
        exact ih h.2 e'
  have z := this K h e
  intro q
  unfold lstO at z
  rw [q] at z
  simp at z
structure HI where
  ds : List (Nat × DI)
  cs : List (Str × D)
  xs : List (Nat × Str)
  wh : Option DI
  cls : List (Str × Nat) := []
  fl : List Str := []
def beN : Str := "BoardError"
def DI.fnN (d : DI) : Option Str := match d.o with
  | none => some d.x
  | some _ => none
def HI.mtN (I : HI) (d : DI) : Option (Nat × Str) := d.o.bind fun c => (I.cls.findIdx? fun p => p.1 == c).map fun n => (n, d.x)
def HI.T (I : HI) : Tab := ⟨fun f => (I.ds.lookup f).bind DI.fnN, I.cs.map (·.1), I.xs, I.wh.map (·.x), beN, fun f => (I.ds.lookup f).bind I.mtN, fun c => I.cls[c]?, I.fl⟩
def DI.fa (d : DI) : He.Fa := match d.o with
  | none => .glo d.x
  | some c => .meth c d.x
def HI.faC (I : HI) : List He.Fa := I.cls.flatMap fun p => [.glo p.1, .cls p.1, .mkr p.1] ++ I.fl.map fun f => .noat p.1 f
def HI.fa (I : HI) : List He.Fa := I.ds.map (fun d => d.2.fa) ++ (I.faC ++ (bnames.map He.Fa.free ++ ((I.xs.map fun x => .glo x.2) ++ ((I.xs.map fun x => .exc x.2) ++ (match I.wh with
  | none => []
  | some d => [.glo d.x, .glo beN, .free "ValueError"] ++ (I.xs.map fun x => .exm x.2 beN true))))))
def HI.fn (I : HI) : List He.DefD := (I.ds.map fun d => d.2.dd) ++ (I.wh.map fun d => d.dd).toList
abbrev AlG : Type := Bool × He.AlD
/-- what isinstance asks of the classes -/
def excB (K : PySem.W.Frag) (D : Addr) : Bool :=
  He.eqO (PySem.W.findIn K (.ref D) "__getattribute__") (some (some (.builtin "BaseException.__getattribute__"))) && (He.eqO (PySem.W.findIn K (.ref D) "__getattr__") (some none) &&
  (decide (PySem.W.subIn K (.ref D) (.type "BaseException") = some true) && (PySem.W.hasDictIn K D && (He.eqO (PySem.W.findIn K (.ref D) "__class__") (some (some (.builtin "object.__class__"))) &&
  (He.eqO (PySem.W.specialIn K (.builtin "object.__class__") "__get__") (some (some (.builtin "getset_descriptor.__get__"))) && (decide (PySem.W.takesIn K (.builtin "object.__class__") = some true) && decide (PySem.W.mroIn K D (.type "object") = some true)))))))
theorem excB_ok {K : PySem.W.Frag} {D : Addr} (h : excB K D = true) : ExcC K D := by
  unfold excB at h
  simp only [Bool.and_eq_true, decide_eq_true_eq] at h
  obtain ⟨h1, h2, h3, h4, h5, h6, h7, h8⟩ := h
  exact ⟨He.eqO_ok h1, He.eqO_ok h2, h3, h4, He.eqO_ok h5, He.eqO_ok h6, h7, h8⟩
def HI.clsB (I : HI) (K : PySem.W.Frag) : Bool := match I.wh with
  | none => true
  | some _ => I.xs.all fun x => decide (x.1 < 21) && (excB K (He.ga K x.2) && (wNames.all (fun y => decide (y ∈ I.xs.map (·.2)) && decide (PySem.W.kitOne K (.ref (He.ga K x.2)) (.ref (He.ga K y)) = some (bvOf x.1 y))) && decide (PySem.W.kitOne K (.ref (He.ga K x.2)) (.type "ValueError") = some true)))
/-- each class is made by the def that its number tells -/
def HI.mkB (I : HI) : Bool := I.cls.all fun p => match I.ds.lookup p.2 with
  | some d => decide (d.o = some p.1) && decide (d.x = "__init__")
  | none => false
def HI.obK (I : HI) (K : PySem.W.Frag) : AlG := (noLst K && (I.cs.all (fun c => cB K c.1 c.2) && I.clsB K), He.obsD I.fa I.fn K)
/-- the which-def itself -/
def HI.whOk (I : HI) : Bool := match I.wh with
  | none => true
  | some d => decide (d.N = (["e", "own"] : List Str)) && (decide (d.p = 1) && (scB d.N (d.N.take d.p) (defScope d.st) && (plainB (defArgs d.st) (d.N.take d.p) && (whB (defScope d.st) (defBody d.st) && (decide (d.q = d.x) && decide (d.o = none))))))
def HI.whF (I : HI) (c : Nat) : Option D := if I.wh.isSome && (I.xs.lookup c).isSome then some (.tup [.str "raised", .int (c : Nat)]) else none
def HI.xc (I : HI) (K : PySem.W.Frag) (c : Nat) : Value := match I.xs.lookup c with
  | some x => .ref (He.ga K x)
  | none => .none
def HI.val (I : HI) : AlG := (true, He.valD I.fn)
/-- the addresses of these that are new, and the marks -/
def newM : List Addr → Nat → List Addr → Nat × List Addr
  | [], m, acc => (m, acc)
  | a :: r, m, acc => match Nat.land (Nat.shiftRight m a) 1 with
    | 0 => newM r (Nat.lor m (Nat.shiftLeft 1 a)) (a :: acc)
    | _ + 1 => newM r m acc
def refsM (g : Addr → Option Obj) (a : Addr) : List Addr := match g a with
  | some o => He.refsD o
  | none => []
/-- what is reached in n steps, level by level (marks: one number) -/
def levM (g : Addr → Option Obj) : Nat → Nat → List Addr → List Addr
  | 0, _, new => new
  | n + 1, m, new => match newM (new.flatMap (refsM g)) m [] with
    | (m', nxt) => new ++ levM g n m' nxt
def asM (g : Addr → Option Obj) (n : Nat) : List Addr := levM g n (Nat.shiftLeft 1 mainGlobals) [mainGlobals]
def HI.obG (I : HI) (n : Nat) (g : Addr → Option Obj) : AlG := I.obK (He.frG g (asM g n))
def HI.hook (I : HI) (n : Nat) : PySem.W.Hook where
  α := AlG
  obs := fun s => I.obG n s.heap.get?
  val := fun _ => I.val
  says := fun _ h => ∃ K : PySem.W.Frag, K.In h ∧ I.obK K = I.val
  of := fun _ _ e => ⟨_, He.frG_in, e⟩
  keeps := fun _ _ _ ⟨K, hK, c⟩ k => ⟨K, PySem.W.Frag.In.keeps hK k, c⟩
def HI.ob (I : HI) (n : Nat) (s : PySem.W.SharedT) : AlG := I.obG n (HandSHeadRun.getT s)
theorem HI.ob_eq (I : HI) (n : Nat) (s : PySem.W.SharedT) : I.ob n s = (I.hook n).obs s.abs := by
  have e : HandSHeadRun.getT s = s.abs.heap.get? := funext (HandSHeadRun.getT_eq s)
  unfold HI.ob
  rw [e] <;> rfl
/-! ### the walk -/
noncomputable def HI.base (I : HI) (P : Program) (w : World) (K : PySem.W.Frag) (mg : Str → Option Value) (base : Heap) (cl : Cl) (srt : List D → Option (List D)) (wf : Nat) : Base :=
  ⟨P, w, K, mg, base, cl, I.xc K, I.T, fun f => (I.ds.lookup f).map DI.fd, fun c => (I.cs[c]?).map (·.2), srt, wf, I.whF⟩
theorem lookup_at {β : Type} {f : Nat} {d : β} : ∀ {l : List (Nat × β)}, l.lookup f = some d → ∃ j : Nat, l[j]? = some (f, d)
  | [], h => by cases h
  | (g, e) :: l, h => by
    rw [List.lookup_cons] at h
    cases q : f == g with
    | true =>
      rw [q] at h
      cases h
      exact ⟨0, by rw [eq_of_beq q]; rfl⟩
    | false =>
      rw [q] at h
      obtain ⟨j, e⟩ := lookup_at h
      exact ⟨j + 1, e⟩
theorem HI.facts {I : HI} {K : PySem.W.Frag} (e : I.obK K = I.val) {f : He.Fa} (hf : f ∈ I.fa) : f.ok K = true := by
  have e2 : He.obsD I.fa I.fn K = He.valD I.fn := congrArg (fun z : AlG => z.2) e
  have e3 : ((I.fa.all fun f => f.ok K) && I.fn.all fun d => d.ok K) = true := congrArg (fun z : He.AlD => z.1) e2
  exact List.all_eq_true.mp (Bool.and_eq_true_iff.mp e3).1 _ hf
theorem HI.defd {I : HI} {K : PySem.W.Frag} (e : I.obK K = I.val) {f : Nat} {d : DI} (hf : I.ds.lookup f = some d) :
    (∃ fd, FunD K d.x d.q (defArgs d.st) (defBody d.st) (defScope d.st) [] [] (He.fAd K d.at_) fd) ∧ d.fa.ok K = true := by
  have e2 : He.obsD I.fa I.fn K = He.valD I.fn := congrArg (fun z : AlG => z.2) e
  have s : He.SaysD I.fa I.fn K := e2
  obtain ⟨j, hj⟩ := lookup_at hf
  obtain ⟨fd, F⟩ := s.def_ j (d := d.dd) (by unfold HI.fn; rw [List.getElem?_append_left (by simpa using (List.getElem?_eq_some_iff.mp hj).1), List.getElem?_map, hj]; rfl)
  exact ⟨⟨fd, F⟩, I.facts e (by unfold HI.fa; exact List.mem_append_left _ (List.mem_map.mpr ⟨(f, d), List.mem_of_getElem? hj, rfl⟩))⟩
theorem HI.free {I : HI} {K : PySem.W.Frag} {h : Heap} {mg : Str → Option Value} (X : K.In h) (G : h.Ns mainGlobals mg) (e : I.obK K = I.val) : ∀ x ∈ bnames, mg x = none := by
  have e2 : He.obsD I.fa I.fn K = He.valD I.fn := congrArg (fun z : AlG => z.2) e
  have e3 : ((I.fa.all fun f => f.ok K) && I.fn.all fun d => d.ok K) = true := congrArg (fun z : He.AlD => z.1) e2
  intro x hx
  refine He.free_ok X G (List.all_eq_true.mp (Bool.and_eq_true_iff.mp e3).1 _ ?_)
  unfold HI.fa
  exact List.mem_append_right _ (List.mem_append_right _ (List.mem_append_left _ (List.mem_map_of_mem hx)))
theorem HI.defOk {I : HI} {P : Program} {w : World} {K : PySem.W.Frag} {base : Heap} {mg : Str → Option Value} {cl : Cl} {srt : List D → Option (List D)} {wf : Nat} {f : Nat} {d : DI} {fd : FuncData} {ad : Addr}
    (q : I.ds.lookup f = some d) (F : FunD K d.x d.q (defArgs d.st) (defBody d.st) (defScope d.st) [] [] ad fd) (k : d.ok I.T = true) :
    DefOk (I.base P w K mg base cl srt wf) f d.x d.q ad fd (defArgs d.st) (defBody d.st) (defScope d.st) d.N (d.N.take d.p) d.fd := by
  unfold DI.ok at k
  simp only [Bool.and_eq_true, decide_eq_true_eq] at k
  obtain ⟨k1, k2, k3, k4⟩ := k
  have sc := scB_ok k1
  refine ⟨F, sc, F.bindsN fun kV doc pm an cdv ct us hl => bind_plain k2 rfl (sc.nd.sublist (List.take_sublist _ _)) hl, ?_, rfl, ?_, k4⟩
  · show (I.ds.lookup f).map DI.fd = some d.fd
    rw [q] <;> rfl
  · rw [List.length_take, Nat.min_eq_left k3] <;> rfl
theorem HI.excOk {I : HI} {K : PySem.W.Frag} {h : Heap} {mg : Str → Option Value} (X : K.In h) (G : h.Ns mainGlobals mg) (e : I.obK K = I.val) {c : Nat} {x : Str} (hx : I.xs.lookup c = some x) :
    mg x = some (.ref (He.ga K x)) ∧ PySem.W.excIn K (He.ga K x) He.veBase "ValueError.__new__" = true ∧ PySem.W.keepIn K (.ref (He.ga K x)) = true ∧ PySem.W.subIn K (.ref (He.ga K x)) (.type "BaseException") = some true ∧ PySem.W.typeIn K (.ref (He.ga K x)) = some (.type "type") := by
  obtain ⟨j, hj⟩ := lookup_at hx
  have m := List.mem_of_getElem? hj
  refine ⟨He.glo_ok X G (I.facts e ?_), He.exc_ok (I.facts e ?_)⟩
  · unfold HI.fa
    exact List.mem_append_right _ (List.mem_append_right _ (List.mem_append_right _ (List.mem_append_left _ (List.mem_map.mpr ⟨(c, x), m, rfl⟩))))
  · unfold HI.fa
    exact List.mem_append_right _ (List.mem_append_right _ (List.mem_append_right _ (List.mem_append_right _ (List.mem_append_left _ (List.mem_map.mpr ⟨(c, x), m, rfl⟩)))))
theorem mem_lookup {β : Type} {l : List (Nat × β)} {y : β} (h : y ∈ l.map (·.2)) : ∃ c, (c, y) ∈ l := by
  obtain ⟨⟨c, z⟩, hm, e⟩ := List.mem_map.mp h
  have e' : z = y := e
  subst e'
  exact ⟨c, hm⟩
theorem HI.trOk {I : HI} {P : Program} {w : World} {K : PySem.W.Frag} {h base : Heap} {mg : Str → Option Value} {cl : Cl} {srt : List D → Option (List D)} {wf : Nat} (X : K.In h) (G : h.Ns mainGlobals mg) (e : I.obK K = I.val) (hw : I.whOk = true) {x : Str} (hx : (I.base P w K mg base cl srt wf).T.wh = some x) :
    ∃ Bc ad fd params body scope, (I.base P w K mg base cl srt wf).mg (I.base P w K mg base cl srt wf).T.be = some (.ref Bc) ∧ (I.base P w K mg base cl srt wf).mg x = some (.ref ad) ∧ FunD (I.base P w K mg base cl srt wf).K x x params body scope [] [] ad fd ∧ Binds (I.base P w K mg base cl srt wf).K fd ["e"] [] ∧ FnScope ["e", "own"] ["e"] scope ∧ whB scope body = true ∧ (I.base P w K mg base cl srt wf).mg "ValueError" = none ∧
    ∀ c d, (I.base P w K mg base cl srt wf).wh c = some d → c < 21 ∧ d = .tup [.str "raised", .int (c : Nat)] ∧ ∃ C, (I.base P w K mg base cl srt wf).xc c = .ref C ∧ PySem.W.exmOne (I.base P w K mg base cl srt wf).K (.ref C) (.ref Bc) = some true ∧ ClsOk (I.base P w K mg base cl srt wf).K (I.base P w K mg base cl srt wf).mg C c := by
  have hx' : I.wh.map (·.x) = some x := hx
  cases q : I.wh with
  | none => rw [q] at hx'; cases hx'
  | some d =>
    rw [q] at hx'
    cases hx'
    have fa1 : ∀ f ∈ ([.glo d.x, .glo beN, .free "ValueError"] ++ (I.xs.map fun x => .exm x.2 beN true) : List He.Fa), f.ok K = true := fun f hf => I.facts e (by
      unfold HI.fa
      rw [q]
      exact List.mem_append_right _ (List.mem_append_right _ (List.mem_append_right _ (List.mem_append_right _ (List.mem_append_right _ hf)))))
    have e2 : He.obsD I.fa I.fn K = He.valD I.fn := congrArg (fun z : AlG => z.2) e
    have s : He.SaysD I.fa I.fn K := e2
    obtain ⟨fd, F⟩ := s.def_ I.ds.length (d := d.dd) (by unfold HI.fn; rw [List.getElem?_append_right (by simp), q]; simp)
    unfold HI.whOk at hw
    rw [q] at hw
    simp only [Bool.and_eq_true, decide_eq_true_eq] at hw
    obtain ⟨w1, w2, w3, w4, w5, w6⟩ := hw
    have sc := scB_ok w3
    have et : d.N.take d.p = (["e"] : List Str) := by rw [w1, w2]; rfl
    rw [et] at sc w4
    rw [w1] at sc
    have e1 : (noLst K && (I.cs.all (fun c => cB K c.1 c.2) && I.clsB K)) = true := congrArg (fun z : AlG => z.1) e
    have ec := (Bool.and_eq_true_iff.mp (Bool.and_eq_true_iff.mp e1).2).2
    unfold HI.clsB at ec
    rw [q] at ec
    have F' : FunD K d.x d.x (defArgs d.st) (defBody d.st) (defScope d.st) [] [] (He.ga K d.x) fd := by
      have F2 : FunD K d.x d.q (defArgs d.st) (defBody d.st) (defScope d.st) [] [] (He.fAd K d.at_) fd := F
      have ea : d.at_ = (d.x, none) := by unfold DI.at_; rw [w6.2]
      rw [w6.1, ea] at F2
      exact F2
    refine ⟨He.ga K beN, He.ga K d.x, fd, _, _, _, He.glo_ok X G (fa1 (.glo beN) (by simp)), He.glo_ok X G (fa1 (.glo d.x) (by simp)), F', F'.bindsN fun kV doc pm an cdv ct us hl => bind_plain w4 rfl (by decide +kernel) hl, sc, w5, He.free_ok X G (fa1 (.free "ValueError") (by simp)), fun c dd hc => ?_⟩
    have hc' : I.whF c = some dd := hc
    unfold HI.whF at hc'
    split at hc'
    · rename_i hh
      cases hc'
      simp only [Bool.and_eq_true] at hh
      obtain ⟨y, hy⟩ := Option.isSome_iff_exists.mp hh.2
      obtain ⟨j, hj⟩ := lookup_at hy
      have m := List.mem_of_getElem? hj
      have k := List.all_eq_true.mp ec (c, y) m
      simp only [Bool.and_eq_true, decide_eq_true_eq, List.all_eq_true] at k
      obtain ⟨k1, k2, k3, k4⟩ := k
      refine ⟨k1, rfl, He.ga K y, ?_, He.exm_ok (fa1 _ (List.mem_append_right _ (List.mem_map.mpr ⟨(c, y), m, rfl⟩))), excB_ok k2, fun z hz => ?_, k4⟩
      · show I.xc K c = _
        unfold HI.xc
        rw [hy]
      · obtain ⟨m1, m2⟩ := k3 z hz
        obtain ⟨c2, hm2⟩ := mem_lookup m1
        exact ⟨He.ga K z, He.glo_ok X G (I.facts e (by unfold HI.fa; exact List.mem_append_right _ (List.mem_append_right _ (List.mem_append_right _ (List.mem_append_left _ (List.mem_map.mpr ⟨(c2, z), hm2, rfl⟩)))))), m2⟩
    · cases hc'
noncomputable def HI.cl (I : HI) (K : PySem.W.Frag) (w : World) : Cl := ⟨fun c => (I.cls[c]?).map fun p => He.ga K p.1, w⟩
theorem HI.clsF {I : HI} {K : PySem.W.Frag} (e : I.obK K = I.val) {c : Nat} {p : Str × Nat} (hp : I.cls[c]? = some p) : (He.Fa.glo p.1).ok K = true ∧ (He.Fa.cls p.1).ok K = true ∧ (He.Fa.mkr p.1).ok K = true ∧ ∀ f ∈ I.fl, (He.Fa.noat p.1 f).ok K = true := by
  have m : ∀ fa, fa ∈ ([.glo p.1, .cls p.1, .mkr p.1] ++ I.fl.map (fun f => .noat p.1 f) : List He.Fa) → fa.ok K = true := fun fa hf => I.facts e (by
    unfold HI.fa
    refine List.mem_append_right _ (List.mem_append_left _ ?_)
    unfold HI.faC
    exact List.mem_flatMap.mpr ⟨p, List.mem_of_getElem? hp, hf⟩)
  exact ⟨m _ (by simp), m _ (by simp), m _ (by simp), fun f hf => m _ (List.mem_append_right _ (List.mem_map_of_mem hf))⟩
theorem HI.ok {I : HI} {P : Program} {w : World} {K : PySem.W.Frag} {h base : Heap} {mg : Str → Option Value} {srt : List D → Option (List D)} {wf : Nat}
    (X : K.In h) (G : h.Ns mainGlobals mg) (e : I.obK K = I.val) (hd : (I.ds.all fun d => d.2.ok I.T) = true) (hw : I.whOk = true) (hm : I.mkB = true) : BaseOk (I.base P w K mg base (I.cl K w) srt wf) := by
  have dok : ∀ {f : Nat} {d : DI}, I.ds.lookup f = some d → d.ok I.T = true := fun q => by
    obtain ⟨j, hj⟩ := lookup_at q
    exact List.all_eq_true.mp hd _ (List.mem_of_getElem? hj)
  refine ⟨rfl, I.free X G e, fun c x hc => ?_, fun f x hf => ?_, fun f hf c C hc => ?_, fun f c m hf => ?_, fun c f x hc => ?_, fun c x hx => ?_, fun x hx => I.trOk X G e hw hx⟩
  · have e1 : (noLst K && (I.cs.all (fun c => cB K c.1 c.2) && I.clsB K)) = true := congrArg (fun z : AlG => z.1) e
    have hc' : (I.cs.map (·.1))[c]? = some x := hc
    rw [List.getElem?_map] at hc'
    cases q : I.cs[c]? with
    | none => rw [q] at hc'; cases hc'
    | some p =>
      rw [q] at hc'
      cases hc'
      obtain ⟨v, u, h1, h2, h3⟩ := cB_ok X G (List.all_eq_true.mp (Bool.and_eq_true_iff.mp (Bool.and_eq_true_iff.mp e1).2).1 p (List.mem_of_getElem? q))
      refine ⟨v, u, h1, h2, fun d W H hg => ?_⟩
      have hg' : (I.cs[c]?).map (·.2) = some d := hg
      rw [q] at hg'
      cases hg'
      exact h3 W H
  · have hf' : (I.ds.lookup f).bind DI.fnN = some x := hf
    cases q : I.ds.lookup f with
    | none => rw [q] at hf'; cases hf'
    | some d =>
      rw [q] at hf'
      have hf2 : d.fnN = some x := hf'
      obtain ⟨⟨fd, F⟩, g⟩ := I.defd e q
      unfold DI.fnN at hf2
      unfold DI.fa at g
      unfold DI.at_ at F
      split at hf2
      · rename_i ho
        cases hf2
        rw [ho] at g F
        exact ⟨_, fd, _, _, _, _, _, _, d.q, He.glo_ok X G g, HI.defOk q F (dok q)⟩
      · cases hf2
  · have hc' : (I.cls[c]?).map (fun p => He.ga K p.1) = some C := hc
    cases q : I.cls[c]? with
    | none => rw [q] at hc'; cases hc'
    | some p =>
      rw [q] at hc'
      cases hc'
      obtain ⟨c1, c2, c3, c4⟩ := I.clsF e q
      exact ⟨He.cls_ok c2, He.noat_ok (c4 f hf)⟩
  · have hf' : (I.ds.lookup f).bind I.mtN = some (c, m) := hf
    cases q : I.ds.lookup f with
    | none => rw [q] at hf'; cases hf'
    | some d =>
      rw [q] at hf'
      have hf2 : I.mtN d = some (c, m) := hf'
      obtain ⟨⟨fd, F⟩, g⟩ := I.defd e q
      unfold HI.mtN at hf2
      unfold DI.fa at g
      unfold DI.at_ at F
      cases ho : d.o with
      | none => rw [ho] at hf2; cases hf2
      | some cn =>
        rw [ho] at hf2 g F
        simp only [Option.bind_some] at hf2
        cases qi : I.cls.findIdx? fun p => p.1 == cn with
        | none => rw [qi] at hf2; cases hf2
        | some n =>
          rw [qi] at hf2
          cases hf2
          obtain ⟨⟨p, p1, p2⟩, _⟩ := findIdx_spec qi
          have p2 := eq_of_beq p2
          subst p2
          obtain ⟨c1, c2, c3, c4⟩ := I.clsF e p1
          refine ⟨He.ga K p.1, _, fd, _, _, _, _, _, _, d.x, d.q, ?_, He.cls_ok c2, He.meth_ok g, HI.defOk q F (dok q)⟩
          show (I.cls[c]?).map (fun p => He.ga K p.1) = _
          rw [p1] <;> rfl
  · have hc' : I.cls[c]? = some (x, f) := hc
    obtain ⟨c1, c2, c3, c4⟩ := I.clsF e hc'
    have mk := List.all_eq_true.mp hm _ (List.mem_of_getElem? hc')
    simp only at mk
    cases q : I.ds.lookup f with
    | none => rw [q] at mk; cases mk
    | some d =>
      rw [q] at mk
      simp only [Bool.and_eq_true, decide_eq_true_eq] at mk
      obtain ⟨⟨fd, F⟩, g⟩ := I.defd e q
      unfold DI.at_ at F
      rw [mk.1] at F
      have F2 : FunD K d.x d.q (defArgs d.st) (defBody d.st) (defScope d.st) [] [] (He.ma K (He.ga K x) d.x) fd := F
      rw [mk.2] at F2
      refine ⟨He.ga K x, _, fd, _, _, _, _, _, _, d.x, d.q, He.glo_ok X G c1, ?_, He.mkr_ok c3, HI.defOk q (by rw [mk.2]; exact F2) (dok q)⟩
      show (I.cls[c]?).map (fun p => He.ga K p.1) = _
      rw [hc'] <;> rfl
  · obtain ⟨h1, h2⟩ := I.excOk X G e hx
    have ex : (I.base P w K mg base (I.cl K w) srt wf).xc c = .ref (He.ga K x) := by
      show I.xc K c = _
      unfold HI.xc
      rw [show I.xs.lookup c = some x from hx]
    exact ⟨_, h1, ex, h2⟩
theorem law_sp {B : Base} {n f : Nat} {h' : MH} (nl : noLst B.K = true) {H : Hp} {a : Addr} {ns : List Int} (hS : SqL B.K H a (ns.map V.int)) (hc : evCall B.Pt B.gc B.srt B.wf B.wh n f [.v (.lst (ns.map D.int))] [] = .ok (.v (.bl true)) h') :
    spF (B.at n) f [.ref a] H (fun v _ => v = .bl true) fun _ _ _ => False := by
  have hr : Rd H a (.lst (ns.map V.int)) := by
    rcases hS with h | ⟨o, its, m, h1, h2, _⟩
    · exact h
    · exact absurd h2 (noLst_ok nl h1)
  have ha : H a ≠ none := by
    rcases hr with e | ⟨o, e⟩ <;> rw [e] <;> exact Option.some_ne_none _
  have rl : ∀ ns : List Int, RepL B.K ⟨fun _ => none, fun b => b = a, fun _ => none⟩ H (ns.map V.int) (ns.map D.int) := fun ns => by
    induction ns with
    | nil => exact .nil
    | cons i ns ih => exact .cons (.int i) ih
  have wk : WOkA (B.at n) ⟨fun _ => none, fun b => b = a, fun _ => none⟩ [] H :=
    { inj := fun q q' b h1 _ => by cases h1
      dis := fun b _ z => by obtain ⟨q, z⟩ := z; cases z
      cov := fun b z => by obtain ⟨q, z⟩ := z; cases z
      frz := fun b hb => by
        have hb' : b = a := hb
        rw [hb']; exact ha
      obj := fun i o q => by simp at q
      bnd := fun q b z => by cases z
      nxt := fun i c fs q => by simp at q
      dbd := fun q o z => by cases z
      dnx := fun i n kvs q => by simp at q }
  refine ⟨⟨fun _ => none, fun b => b = a, fun _ => none⟩, [], [.v (.lst (ns.map D.int))], wk, .cons ?_ .nil, ?_⟩
  · exact Rep.lst hr rfl (rl ns)
  · show PostF (B.at n) _ H _ _ (evCall B.Pt B.gc B.srt B.wf B.wh n f [.v (.lst (ns.map D.int))] [])
    rw [hc]
    intro W' H' v _ _ q
    have q' : Rep _ W' H' v (.bl true) := q
    cases q'
    rfl
/-- THE LAW, from the evaluator -/
theorem HI.walk {l : PySem.W.OpenLaw} {I : HI} {m n f : Nat} {q : Program} {loose : List Str} {XP : (Str → Option Value) → Heap → Prop} {d : DefRec} {x : Str} {dl : DI} {srt : List D → Option (List D)}
    (hn : l.most = some 63) (hdf : d.params.defaults = []) (hr : Room (2 * n + 2) callerA) (hds : (I.ds.all fun d => d.2.ok I.T) = true) (hwo : I.whOk = true) (hmk : I.mkB = true) (hf : I.ds.lookup f = some dl) (hx : dl.x = d.name) (ho : dl.o = none) (hp : dl.N.take dl.p = [x])
    (hc : ∀ ns : List Int, ns.length ≤ 63 → ∃ wf h', evCall (fun f => (I.ds.lookup f).map DI.fd) (fun c => (I.cs[c]?).map (·.2)) srt wf I.whF (n + 1) f [.v (.lst (ns.map D.int))] [] = .ok (.v (.bl true)) h') :
    PySem.W.WalkO q loose XP (I.hook m).says l.row.toRowW d [] (fun f vs => PySem.call f vs) := by
  refine Att.attach_call hn hdf fun w s0 s1 mg mb fa o pm cd doc a vs ns G Y ho' hd hcd hmg hobj hints hlen hg => ?_
  obtain ⟨K, KX, e⟩ := Y
  obtain ⟨wf, h', hc'⟩ := hc ns hlen
  have e1 : (noLst K && (I.cs.all (fun c => cB K c.1 c.2) && I.clsB K)) = true := congrArg (fun z : AlG => z.1) e
  have nl := (Bool.and_eq_true_iff.mp e1).1
  let B : Heap → Base := fun base => I.base l.prog w K mg base (I.cl K w) srt wf
  have BO : ∀ base, BaseOk (B base) := fun base => I.ok KX G.T.g e hds hwo hmk
  obtain ⟨⟨fd, F⟩, hgl⟩ := I.defd e hf
  unfold DI.at_ at F
  unfold DI.fa at hgl
  rw [ho] at F hgl
  have hgl2 := He.glo_ok KX G.T.g hgl
  have efa : fa = He.ga K dl.x := by
    rw [hx] at hgl2
    have := hmg.symm.trans hgl2
    cases this
    rw [hx]
  subst efa
  obtain ⟨jl, hjl⟩ := lookup_at hf
  have k := List.all_eq_true.mp hds (f, dl) (List.mem_of_getElem? hjl)
  have kk : dl.ok I.T = true := k
  unfold DI.ok at k
  simp only [Bool.and_eq_true, decide_eq_true_eq] at k
  obtain ⟨k1, k2, k3, k4⟩ := k
  have sc := scB_ok k1
  have hb := FunD.bindsA (ps := dl.N.take dl.p) F fun kV doc pm an cdv ct us hl => bind_plain k2 rfl (sc.nd.sublist (List.take_sublist _ _)) hl
  have ft : ∀ base : Heap, FnOk l.prog w K mg base (L2.CX l.prog w) (2 * n + 2) (He.ga K dl.x) fd [x] (spF ((B base).at (n + 1)) f) := fun base => by
    have D := HI.defOk (P := l.prog) (w := w) (mg := mg) (base := base) (cl := I.cl K w) (srt := srt) (wf := wf) hf F kk
    have S := fn_step D (stat_ok (BO base) n)
    rw [hp] at S
    exact S
  have X := law_call (CX := L2.CX l.prog w) (sp := spF ((B s1.heap).at (n + 1)) f) KX G.T.g G.T.b G.T.builtins G.T.nolimit hg hobj hints (Nat.le_trans hlen (by decide)) hr (fun base _ _ => ft base) (fun s u => by have := hb s [u]; rw [hp] at this; exact this rfl) (fun H _ hS => law_sp nl hS hc') fun H e s' z => by
    obtain ⟨_, _, _, _, _, _, _, _, _, _, _, _, z⟩ := z
    exact z
  exact X
theorem lookup_snd {β γ : Type} {g : β → γ} {f : Nat} : ∀ {l : List (Nat × β)}, (l.lookup f).map g = (l.map fun p => (p.1, g p.2)).lookup f
  | [] => rfl
  | (a, b) :: l => by
    simp only [List.map_cons, List.lookup_cons]
    cases f == a with
    | true => rfl
    | false => exact lookup_snd
theorem HI.pt {I : HI} {fds : List (Nat × FD)} (h : (I.ds.map fun p => (p.1, p.2.fd)) = fds) : (fun f => (I.ds.lookup f).map DI.fd) = fun f => fds.lookup f := by
  funext f
  rw [lookup_snd, h]
end GV
set_option Elab.async false
set_option linter.all false
set_option maxRecDepth 100000
set_option maxHeartbeats 4000000
/-! GV21: tools for evaluating. -/
namespace GV
open PySem L2
structure Pg where
  Pt : Nat → Option FD
  gc : Nat → Option D
  srt : List D → Option (List D)
  wf : Nat
  wh : Nat → Option D
@[irreducible] noncomputable def Pg.c (p : Pg) (n f : Nat) (args : List Sl) (h : MH) : O R := evCall p.Pt p.gc p.srt p.wf p.wh n f args h
theorem Pg.c_def (p : Pg) (n f : Nat) (args : List Sl) (h : MH) : p.c n f args h = evCall p.Pt p.gc p.srt p.wf p.wh n f args h := by unfold Pg.c; rfl
noncomputable def Pg.G (p : Pg) (n : Nat) : Cfg := ⟨p.c n, p.gc, p.srt, p.wf, whAt p.wh n⟩
@[simp] theorem Pg.G_cf (p : Pg) (n : Nat) : (p.G n).cf = p.c n := rfl
@[simp] theorem Pg.G_gc (p : Pg) (n : Nat) : (p.G n).gc = p.gc := rfl
@[simp] theorem Pg.G_wf (p : Pg) (n : Nat) : (p.G n).wf = p.wf := rfl
@[simp] theorem Pg.G_srt (p : Pg) (n : Nat) : (p.G n).srt = p.srt := rfl
theorem Pg.call {p : Pg} {f : Nat} {d : FD} (e : p.Pt f = some d) {n : Nat} {args : List Sl} {h : MH} (hl : args.length = d.p) : p.c (n + 1) f args h = finish h.length (evB (p.G n) d.body (startS d.n args) h) := by
  rw [Pg.c_def, evCall, e]
  simp only [hl, if_true]
  have : (⟨evCall p.Pt p.gc p.srt p.wf p.wh n, p.gc, p.srt, p.wf, whAt p.wh n⟩ : Cfg) = p.G n := by
    unfold Pg.G
    congr 1
    funext f args h
    rw [Pg.c_def]
  rw [this]
@[simp] theorem fin_rt (n : Nat) (r : R) (h : MH) (e : h.length = n) : finish n (.ok (.rt r) h) = .ok r h := by simp [finish, e]
@[simp] theorem fin_nx (n : Nat) (s : SS) (h : MH) (e : h.length = n) : finish n (.ok (.nx s) h) = .ok (.v .non) h := by simp [finish, e]
def O.wp {α : Type} (o : O α) (Q : α → MH → Prop) : Prop := match o with
  | .ok a h => Q a h
  | _ => False
section
variable {α β : Type} {o : O α} {Q Q' : α → MH → Prop} {h : MH}
@[simp] theorem O.wp_ok (a : α) : (O.ok a h).wp Q = Q a h := rfl
@[simp] theorem O.wp_no : (O.no : O α).wp Q = False := rfl
@[simp] theorem O.wp_ex (c : Nat) : (O.ex c h : O α).wp Q = False := rfl
@[simp] theorem O.wp_bind {k : α → MH → O β} {Q : β → MH → Prop} : (o.bind k).wp Q = o.wp fun a h => (k a h).wp Q := by cases o <;> rfl
theorem O.wp_iff : o.wp Q ↔ ∃ a h, o = .ok a h ∧ Q a h := by
  cases o with
  | ok a h => exact ⟨fun z => ⟨a, h, rfl, z⟩, fun ⟨_, _, e, z⟩ => by cases e; exact z⟩
  | ex c h => exact ⟨fun z => z.elim, fun ⟨_, _, e, _⟩ => by cases e⟩
  | no => exact ⟨fun z => z.elim, fun ⟨_, _, e, _⟩ => by cases e⟩
theorem O.wp_mono (z : o.wp Q) (m : ∀ a h, Q a h → Q' a h) : o.wp Q' := by
  cases o with
  | ok a h => exact m a h z
  | ex c h => exact z
  | no => exact z
theorem O.wp_eq {a : α} (e : o = .ok a h) (z : Q a h) : o.wp Q := by rw [e]; exact z
end
/-! ### loops, comprehensions -/
theorem evItems_map {f : D → MH → O (Option D)} {g : D → D} {h : MH} : ∀ {ds acc : List D}, (∀ d ∈ ds, f d h = .ok (some (g d)) h) → acc.length + ds.length ≤ 1000000 → evItems f ds acc h = .ok (acc ++ ds.map g) h
  | [], acc, _, _ => by simp [evItems]
  | d :: ds, acc, e, hl => by
    simp only [List.length_cons] at hl
    rw [evItems, e d (by simp)]
    simp only
    rw [if_pos (by unfold small; exact decide_eq_true (by omega)), evItems_map (fun d hd => e d (by simp [hd])) (by simp; omega)]
    simp
theorem evItems_filter {f : D → MH → O (Option D)} {g : D → Option D} {h : MH} : ∀ {ds acc : List D}, (∀ d ∈ ds, f d h = .ok (g d) h) → acc.length + ds.length ≤ 1000000 → evItems f ds acc h = .ok (acc ++ ds.filterMap g) h
  | [], acc, _, _ => by simp [evItems]
  | d :: ds, acc, e, hl => by
    simp only [List.length_cons] at hl
    rw [evItems, e d (by simp)]
    cases q : g d with
    | none =>
      simp only
      rw [evItems_filter (fun d hd => e d (by simp [hd])) (by omega)]
      simp [List.filterMap_cons, q]
    | some y =>
      simp only
      rw [if_pos (by unfold small; exact decide_eq_true (by omega)), evItems_filter (fun d hd => e d (by simp [hd])) (by simp; omega)]
      simp [List.filterMap_cons, q]
/-- a comprehension that changes the heap: J relates what is done, what is built, the heap -/
theorem evItems_inv {f : D → MH → O (Option D)} {J : List D → MH → Prop} {Q : List D → MH → Prop} : ∀ {ds acc : List D} {h : MH}, J acc h → (∀ d ∈ ds, ∀ acc h, J acc h → (f d h).wp fun r h' => ∃ y, r = some y ∧ J (acc ++ [y]) h') → acc.length + ds.length ≤ 1000000 →
    (∀ ys h', ys.length = ds.length → J (acc ++ ys) h' → Q (acc ++ ys) h') → (evItems f ds acc h).wp Q
  | [], acc, h, j, _, _, q => by have := q [] h rfl (by simpa using j); simpa [evItems] using this
  | d :: ds, acc, h, j, e, hl, q => by
    simp only [List.length_cons] at hl
    rw [evItems]
    obtain ⟨r, h1, e1, y, rfl, j1⟩ := O.wp_iff.mp (e d (by simp) acc h j)
    rw [e1]
    simp only
    rw [if_pos (by unfold small; exact decide_eq_true (by omega))]
    refine evItems_inv (J := J) j1 (fun d hd => e d (by simp [hd])) (by simp; omega) fun ys h' hy jy => ?_
    have := q (y :: ys) h' (by simp [hy]) (by simpa using jy)
    simpa using this
theorem evFor_inv {body : SS → MH → O Fl} {t : Tg} {Q : Fl → MH → Prop} (J : Nat → SS → MH → Prop) {ds : List D} {ss : SS} {h : MH} (j0 : J 0 ss h)
    (st : ∀ i d, ds[i]? = some d → ∀ ss h, J i ss h → ∃ ss1, asgT t d ss = some ss1 ∧ (body ss1 h).wp fun f h' => match f with
      | .nx ss2 => J (i + 1) ss2 h'
      | .rt r => Q (.rt r) h')
    (q : ∀ ss h, J ds.length ss h → Q (.nx ss) h) : (evFor body t ds ss h).wp Q := by
  induction ds generalizing J ss h with
  | nil => exact q ss h j0
  | cons d ds ih =>
    obtain ⟨ss1, e1, w⟩ := st 0 d rfl ss h j0
    obtain ⟨f, h1, e2, z⟩ := O.wp_iff.mp w
    rw [evFor, e1]
    simp only [O.of_some, O.bind_ok, e2]
    cases f with
    | rt r => exact z
    | nx ss2 => exact ih (fun i => J (i + 1)) z (fun i d hi => st (i + 1) d (by simpa using hi)) q
end GV
set_option Elab.async false
set_option linter.all false
set_option maxRecDepth 100000
set_option maxHeartbeats 4000000
/-! GV22: rules for evaluating, goal by goal. -/
namespace GV
open PySem L2
theorem O.eq_of {α : Type} {o : O α} {a : α} {h : MH} (q : o.wp fun b h' => b = a ∧ h' = h) : o = .ok a h := by
  obtain ⟨b, h', e, rfl, rfl⟩ := O.wp_iff.mp q
  exact e
def BinW (o : BOp) (x y : R) (Q : R → Prop) : Prop := ∃ z, binR o x y = some z ∧ Q z
def CmpW (o : COp) (x y : R) (Q : Bool → Prop) : Prop := ∃ z, cmpR o x y = some z ∧ Q z
def BlW (x : R) (Q : Bool → Prop) : Prop := ∃ t, blE x = some t ∧ Q t
def IfW (t : Bool) (a b : Prop) : Prop := (t = true → a) ∧ (t = false → b)
def BiW (srt : List D → Option (List D)) (f : Bi) (rs : List R) (h : MH) (Q : R → Prop) : Prop := ∃ r, biR srt f rs h = some r ∧ Q r
def ItW (k : IK) (rs : List R) (Q : List D → Prop) : Prop := ∃ ds, itemsR k rs = some ds ∧ Q ds
def FlW (Q : SS → MH → Prop) (E : R → MH → Prop) (f : Fl) (h : MH) : Prop := match f with
  | .nx ss => Q ss h
  | .rt r => E r h
def O.wpX {α : Type} (X : Nat → MH → Prop) (o : O α) (Q : α → MH → Prop) : Prop := match o with
  | .ok a h => Q a h
  | .ex c h => X c h
  | .no => False
abbrev NX : Nat → MH → Prop := fun _ _ => False
section
variable {α β : Type} {X X' : Nat → MH → Prop} {o : O α} {Q Q' : α → MH → Prop} {h : MH}
@[simp] theorem O.wpX_ok (a : α) : (O.ok a h).wpX X Q = Q a h := rfl
@[simp] theorem O.wpX_no : (O.no : O α).wpX X Q = False := rfl
@[simp] theorem O.wpX_ex (c : Nat) : (O.ex c h : O α).wpX X Q = X c h := rfl
@[simp] theorem O.wpX_bind {k : α → MH → O β} {Q : β → MH → Prop} : (o.bind k).wpX X Q = o.wpX X fun a h => (k a h).wpX X Q := by cases o <;> rfl
theorem O.wpX_mono (z : o.wpX X Q) (m : ∀ a h, Q a h → Q' a h) : o.wpX X Q' := by
  cases o with
  | ok a h => exact m a h z
  | ex c h => exact z
  | no => exact z
theorem O.wpX_of (z : o.wp Q) : o.wpX X Q := by
  cases o with
  | ok a h => exact z
  | ex c h => exact z.elim
  | no => exact z
theorem O.wp_nx (z : o.wpX (fun _ _ => False) Q) : o.wp Q := by
  cases o with
  | ok a h => exact z
  | ex c h => exact z.elim
  | no => exact z
theorem O.wpX_iff (z : o.wpX X Q) : (∃ a h, o = .ok a h ∧ Q a h) ∨ ∃ c h, o = .ex c h ∧ X c h := by
  cases o with
  | ok a h => exact .inl ⟨a, h, rfl, z⟩
  | ex c h => exact .inr ⟨c, h, rfl, z⟩
  | no => exact z.elim
theorem O.wpX_exc {c : Nat} (e : o = .ex c h) (z : X c h) : o.wpX X Q := by rw [e]; exact z
end
@[irreducible] def xE (G : Cfg) (X : Nat → MH → Prop) (e : E) (ss : SS) (h : MH) (Q : R → MH → Prop) : Prop := (evE G e ss h).wpX X Q
@[irreducible] def xL (G : Cfg) (X : Nat → MH → Prop) (e : List E) (ss : SS) (h : MH) (Q : List R → MH → Prop) : Prop := (evL G e ss h).wpX X Q
@[irreducible] def xO (G : Cfg) (X : Nat → MH → Prop) (e : Option E) (ss : SS) (h : MH) (Q : Option Int → MH → Prop) : Prop := (evO G e ss h).wpX X Q
@[irreducible] def xB (G : Cfg) (X : Nat → MH → Prop) (e : List S) (ss : SS) (h : MH) (Q : Fl → MH → Prop) : Prop := (evB G e ss h).wpX X Q
theorem xE_def (G : Cfg) (X : Nat → MH → Prop) (e : E) (ss : SS) (h : MH) (Q : R → MH → Prop) : xE G X e ss h Q = (evE G e ss h).wpX X Q := by unfold xE; rfl
theorem xL_def (G : Cfg) (X : Nat → MH → Prop) (e : List E) (ss : SS) (h : MH) (Q : List R → MH → Prop) : xL G X e ss h Q = (evL G e ss h).wpX X Q := by unfold xL; rfl
theorem xO_def (G : Cfg) (X : Nat → MH → Prop) (e : Option E) (ss : SS) (h : MH) (Q : Option Int → MH → Prop) : xO G X e ss h Q = (evO G e ss h).wpX X Q := by unfold xO; rfl
theorem xB_def (G : Cfg) (X : Nat → MH → Prop) (e : List S) (ss : SS) (h : MH) (Q : Fl → MH → Prop) : xB G X e ss h Q = (evB G e ss h).wpX X Q := by unfold xB; rfl
@[irreducible] def xF (G : Cfg) (X : Nat → MH → Prop) (b : List S) (t : Tg) (ds : List D) (ss : SS) (h : MH) (Q : Fl → MH → Prop) : Prop := (evFor (evB G b) t ds ss h).wpX X Q
theorem xF_def (G : Cfg) (X : Nat → MH → Prop) (b : List S) (t : Tg) (ds : List D) (ss : SS) (h : MH) (Q : Fl → MH → Prop) : xF G X b t ds ss h Q = (evFor (evB G b) t ds ss h).wpX X Q := by unfold xF; rfl
@[irreducible] def xC (G : Cfg) (X : Nat → MH → Prop) (ss : SS) (t : Tg) (own : List Nat) (ifs : List E) (e : E) (ds : List D) (h : MH) (Q : List D → MH → Prop) : Prop := (evItems (fun d h => match asgT t d (wipeS ss own) with
        | none => .no
        | some ss1 => (evT G ifs ss1 h).bind fun b h => match b with
          | true => (evE G e ss1 h).bind fun r h => O.of h (r.toD.map some)
          | false => .ok none h) ds [] h).wpX X Q
theorem xC_def (G : Cfg) (X : Nat → MH → Prop) (ss : SS) (t : Tg) (own : List Nat) (ifs : List E) (e : E) (ds : List D) (h : MH) (Q : List D → MH → Prop) : xC G X ss t own ifs e ds h Q = (evItems (fun d h => match asgT t d (wipeS ss own) with
        | none => .no
        | some ss1 => (evT G ifs ss1 h).bind fun b h => match b with
          | true => (evE G e ss1 h).bind fun r h => O.of h (r.toD.map some)
          | false => .ok none h) ds [] h).wpX X Q := by unfold xC; rfl
section
variable {G : Cfg} {X : Nat → MH → Prop} {ss : SS} {h : MH} {Q : R → MH → Prop}
theorem w_non (q : Q (.v .non) h) : xE G X .non ss h Q := by rw [xE_def, evE]; exact q
theorem w_bl {b : Bool} (q : Q (.v (.bl b)) h) : xE G X (.bl b) ss h Q := by rw [xE_def, evE]; exact q
theorem w_int {i : Int} (q : Q (.v (.int i)) h) : xE G X (.int i) ss h Q := by rw [xE_def, evE]; exact q
theorem w_str {x : Str} (q : Q (.v (.str x)) h) : xE G X (.str x) ss h Q := by rw [xE_def, evE]; exact q
theorem w_v {j : Nat} {r : R} (e : readV ss j = some r) (q : Q r h) : xE G X (.v j) ss h Q := by rw [xE_def, evE, e]; exact q
theorem w_g {c : Nat} {d : D} (e : G.gc c = some d) (q : Q (.v d) h) : xE G X (.g c) ss h Q := by rw [xE_def, evE, e]; exact q
theorem w_bin {o : BOp} {a b : E} (q : xE G X a ss h fun x h => xE G X b ss h fun y h => BinW o x y fun z => Q z h) : xE G X (.bin o a b) ss h Q := by
  simp only [xE_def, xL_def, xO_def, xB_def] at *
  rw [evE]
  simp only [O.wpX_bind]
  refine O.wpX_mono q fun x h q => O.wpX_mono q fun y h q => ?_
  obtain ⟨z, e, q⟩ := q
  rw [e]; exact q
theorem w_neg {a : E} (q : xE G X a ss h fun x h => ∃ i, x = .v (.int i) ∧ Q (.v (.int (-i))) h) : xE G X (.neg a) ss h Q := by
  simp only [xE_def, xL_def, xO_def, xB_def] at *
  rw [evE]
  simp only [O.wpX_bind]
  refine O.wpX_mono q fun x h q => ?_
  obtain ⟨i, rfl, q⟩ := q
  exact q
theorem w_cmp {o : COp} {a b : E} (q : xE G X a ss h fun x h => xE G X b ss h fun y h => CmpW o x y fun z => Q (.v (.bl z)) h) : xE G X (.cmp o a b) ss h Q := by
  simp only [xE_def, xL_def, xO_def, xB_def] at *
  rw [evE]
  simp only [O.wpX_bind]
  refine O.wpX_mono q fun x h q => O.wpX_mono q fun y h q => ?_
  obtain ⟨z, e, q⟩ := q
  rw [e]; exact q
theorem w_chn {o o' : COp} {a b c : E} (q : xE G X a ss h fun x h => xE G X b ss h fun y h => CmpW o x y fun t => IfW t (xE G X c ss h fun z h => CmpW o' y z fun t => Q (.v (.bl t)) h) (Q (.v (.bl false)) h)) : xE G X (.chn o o' a b c) ss h Q := by
  simp only [xE_def, xL_def, xO_def, xB_def] at *
  rw [evE]
  simp only [O.wpX_bind]
  refine O.wpX_mono q fun x h q => O.wpX_mono q fun y h q => ?_
  obtain ⟨t, e, q1, q2⟩ := q
  rw [e]
  cases t with
  | true =>
    simp only [O.of_some, O.wpX_ok, O.wpX_bind]
    refine O.wpX_mono (q1 rfl) fun z h q => ?_
    obtain ⟨t, e, q⟩ := q
    rw [e]; exact q
  | false => exact q2 rfl
theorem w_and {a b : E} (q : xE G X a ss h fun x h => BlW x fun t => IfW t (xE G X b ss h Q) (Q (.v (.bl false)) h)) : xE G X (.and a b) ss h Q := by
  simp only [xE_def, xL_def, xO_def, xB_def] at *
  rw [evE]
  simp only [O.wpX_bind]
  refine O.wpX_mono q fun x h q => ?_
  obtain ⟨t, e, q1, q2⟩ := q
  rw [e]
  cases t with
  | true => exact q1 rfl
  | false => exact q2 rfl
theorem w_or {a b : E} (q : xE G X a ss h fun x h => BlW x fun t => IfW t (Q (.v (.bl true)) h) (xE G X b ss h Q)) : xE G X (.or a b) ss h Q := by
  simp only [xE_def, xL_def, xO_def, xB_def] at *
  rw [evE]
  simp only [O.wpX_bind]
  refine O.wpX_mono q fun x h q => ?_
  obtain ⟨t, e, q1, q2⟩ := q
  rw [e]
  cases t with
  | true => exact q1 rfl
  | false => exact q2 rfl
theorem w_not {a : E} (q : xE G X a ss h fun x h => BlW x fun t => Q (.v (.bl (!t))) h) : xE G X (.not a) ss h Q := by
  simp only [xE_def, xL_def, xO_def, xB_def] at *
  rw [evE]
  simp only [O.wpX_bind]
  refine O.wpX_mono q fun x h q => ?_
  obtain ⟨t, e, q⟩ := q
  rw [e]; exact q
theorem w_ite {c a b : E} (q : xE G X c ss h fun x h => BlW x fun t => IfW t (xE G X a ss h Q) (xE G X b ss h Q)) : xE G X (.ite c a b) ss h Q := by
  simp only [xE_def, xL_def, xO_def, xB_def] at *
  rw [evE]
  simp only [O.wpX_bind]
  refine O.wpX_mono q fun x h q => ?_
  obtain ⟨t, e, q1, q2⟩ := q
  rw [e]
  cases t with
  | true => exact q1 rfl
  | false => exact q2 rfl
theorem w_tup {es : List E} (q : xL G X es ss h fun rs h => ∃ ds, toDs rs = some ds ∧ small ds.length = true ∧ Q (.v (.tup ds)) h) : xE G X (.tup es) ss h Q := by
  simp only [xE_def, xL_def, xO_def, xB_def] at *
  rw [evE]
  simp only [O.wpX_bind]
  refine O.wpX_mono q fun x h q => ?_
  obtain ⟨t, e, e2, q⟩ := q
  rw [e]
  simp only [Option.bind_some, e2, if_true]
  exact q
theorem w_lst {es : List E} (q : xL G X es ss h fun rs h => ∃ ds, toDs rs = some ds ∧ small ds.length = true ∧ Q (.nl ds) h) : xE G X (.lst es) ss h Q := by
  simp only [xE_def, xL_def, xO_def, xB_def] at *
  rw [evE]
  simp only [O.wpX_bind]
  refine O.wpX_mono q fun x h q => ?_
  obtain ⟨t, e, e2, q⟩ := q
  rw [e]
  simp only [Option.bind_some, e2, if_true]
  exact q
theorem w_ix {a i : E} (q : xE G X a ss h fun x h => xE G X i ss h fun y h => ∃ xs k d, x.rd.seq = some xs ∧ y = .v (.int k) ∧ atD xs k = some d ∧ Q (.v d) h) : xE G X (.ix a i) ss h Q := by
  simp only [xE_def, xL_def, xO_def, xB_def] at *
  rw [evE]
  simp only [O.wpX_bind]
  refine O.wpX_mono q fun x h q => O.wpX_mono q fun y h q => ?_
  obtain ⟨xs, k, d, e1, rfl, e2, q⟩ := q
  have e3 : ixR x.rd k = some (.v d) := by
    generalize x.rd = y at e1 ⊢
    cases y <;> first | (cases e1; simp only [ixR, D.seq, Option.bind_some, e2, Option.map_some]) | cases e1
  simp only [e3]
  exact q
/-- an item of a text -/
theorem w_ixS {a i : E} (q : xE G X a ss h fun x h => xE G X i ss h fun y h => ∃ z k c, x = .v (.str z) ∧ y = .v (.int k) ∧ small z.length = true ∧ L2.atI z.cps.toList k = some c ∧ Q (.v (.str ⟨#[c]⟩)) h) : xE G X (.ix a i) ss h Q := by
  simp only [xE_def, xL_def, xO_def, xB_def] at *
  rw [evE]
  simp only [O.wpX_bind]
  refine O.wpX_mono q fun x h q => O.wpX_mono q fun y h q => ?_
  obtain ⟨z, k, c, rfl, rfl, e1, e2, q⟩ := q
  simp only [R.rd, ixR, e1, if_true, e2, Option.map_some]
  exact q
theorem w_slS {a : E} {lo hi : Option E} (q : xE G X a ss h fun x h => xO G X lo ss h fun l h => xO G X hi ss h fun u h => ∃ z, x = .v (.str z) ∧ small z.length = true ∧ Q (.v (.str (PySem.Txt.slice z l u))) h) : xE G X (.sl a lo hi) ss h Q := by
  simp only [xE_def, xL_def, xO_def, xB_def] at *
  rw [evE]
  simp only [O.wpX_bind]
  refine O.wpX_mono q fun x h q => O.wpX_mono q fun l h q => O.wpX_mono q fun u h q => ?_
  obtain ⟨z, rfl, e1, q⟩ := q
  simp only [R.rd, e1, if_true]
  exact q
theorem w_srep {a b : E} (q : xE G X a ss h fun x h => xE G X b ss h fun y h => ∃ z k, x = .v (.str z) ∧ y = .v (.int k) ∧ mulSOk z k = true ∧ Q (.v (.str (PySem.Txt.mul z k))) h) : xE G X (.srep a b) ss h Q := by
  simp only [xE_def, xL_def, xO_def, xB_def] at *
  rw [evE]
  simp only [O.wpX_bind]
  refine O.wpX_mono q fun x h q => O.wpX_mono q fun y h q => ?_
  obtain ⟨z, k, rfl, rfl, e1, q⟩ := q
  simp only [e1, if_true]
  exact q
theorem w_join {a b : E} (q : xE G X a ss h fun x h => xE G X b ss h fun y h => ∃ z ys ns, x = .v (.str z) ∧ y.rd = .lst ys ∧ strs? ys = some ns ∧ (ns.map (·.length)).sum + ns.length * z.length ≤ 1000000 ∧ Q (.v (.str (PySem.Txt.join z ns))) h) (hl : ∀ x h', evE G a ss h = .ok x h' → ∃ z, x = .v (.str z)) : xE G X (.mt .join a [b]) ss h Q := by
  simp only [xE_def] at *
  rw [evE]
  simp only [O.wpX_bind]
  cases e : evE G a ss h with
  | ok x h1 =>
    rw [e] at q
    obtain ⟨z, hx⟩ := hl x h1 e
    subst hx
    simp only [O.wpX_ok] at q ⊢
    simp only [R.rd, mtPre, evL, O.wpX_bind]
    refine O.wpX_mono q fun y h2 q => ?_
    obtain ⟨z', ys, ns, h3, h4, h5, h6, q⟩ := q
    cases h3
    simp only [O.wpX_ok, mtR, h4, h5, decide_eq_true h6, if_true]
    exact q
  | ex c h1 => rw [e] at q; exact q
  | no => rw [e] at q; exact q
theorem w_split {a b : E} (q : xE G X a ss h fun x h => xE G X b ss h fun y h => ∃ z w, x = .v (.str z) ∧ y = .v (.str w) ∧ (w.length == 0) = false ∧ z.length ≤ 1000000 ∧ Q (.nl ((PySem.Txt.split z w).map .str)) h) (hl : ∀ x h', evE G a ss h = .ok x h' → ∃ z, x = .v (.str z)) : xE G X (.mt .split a [b]) ss h Q := by
  simp only [xE_def] at *
  rw [evE]
  simp only [O.wpX_bind]
  cases e : evE G a ss h with
  | ok x h1 =>
    rw [e] at q
    obtain ⟨z, hx⟩ := hl x h1 e
    subst hx
    simp only [O.wpX_ok] at q ⊢
    simp only [R.rd, mtPre, evL, O.wpX_bind]
    refine O.wpX_mono q fun y h2 q => ?_
    obtain ⟨z', w, h3, rfl, h5, h6, q⟩ := q
    cases h3
    simp only [O.wpX_ok, mtR, decide_eq_true (And.intro h5 h6), if_true]
    exact q
  | ex c h1 => rw [e] at q; exact q
  | no => rw [e] at q; exact q
theorem w_upper {a : E} (q : xE G X a ss h fun x h => ∃ z, x = .v (.str z) ∧ z.length ≤ 1000000 ∧ Q (.v (.str (PySem.Txt.upper z))) h) : xE G X (.mt .upper a []) ss h Q := by
  simp only [xE_def] at *
  rw [evE]
  simp only [O.wpX_bind]
  refine O.wpX_mono q fun x h q => ?_
  obtain ⟨z, rfl, h5, q⟩ := q
  simp only [R.rd, mtPre, evL, O.bind_ok, mtR, decide_eq_true h5, if_true]
  exact q
def SlW (x : R) (l u : Option Int) (Q : R → Prop) : Prop := match x.rd with
  | .lst xs => Q (.nl (cutD xs l u))
  | .tup xs => Q (.v (.tup (cutD xs l u)))
  | _ => False
theorem w_sl {a : E} {lo hi : Option E} (q : xE G X a ss h fun x h => xO G X lo ss h fun l h => xO G X hi ss h fun u h => SlW x l u fun r => Q r h) : xE G X (.sl a lo hi) ss h Q := by
  simp only [xE_def, xL_def, xO_def, xB_def] at *
  rw [evE]
  simp only [O.wpX_bind]
  refine O.wpX_mono q fun x h q => O.wpX_mono q fun l h q => O.wpX_mono q fun u h q => ?_
  unfold SlW at q
  generalize x.rd = y at q ⊢
  cases y <;> first | exact q | exact q.elim
theorem w_onone {Q : Option Int → MH → Prop} (q : Q none h) : xO G X none ss h Q := by rw [xO_def, evO]; exact q
theorem w_osome {e : E} {Q : Option Int → MH → Prop} (q : xE G X e ss h fun r h => ∃ i, r = .v (.int i) ∧ Q (some i) h) : xO G X (some e) ss h Q := by
  simp only [xE_def, xL_def, xO_def, xB_def] at *
  rw [evO]
  simp only [O.wpX_bind]
  refine O.wpX_mono q fun r h q => ?_
  obtain ⟨i, rfl, q⟩ := q
  exact q
theorem w_callX {f : Nat} {es : List E} (q : xL G X es ss h fun rs h => (G.cf f (rs.map R.arg) h).wpX X Q) : xE G X (.call f es) ss h Q := by
  simp only [xE_def, xL_def, xO_def, xB_def] at *
  rw [evE]
  simp only [O.wpX_bind]
  exact q
theorem w_call {f : Nat} {es : List E} (q : xL G X es ss h fun rs h => (G.cf f (rs.map R.arg) h).wp Q) : xE G X (.call f es) ss h Q := by
  simp only [xE_def, xL_def, xO_def, xB_def] at *
  rw [evE]
  simp only [O.wpX_bind]
  exact O.wpX_mono q fun rs h q => O.wpX_of q
theorem w_bi {f : Bi} {es : List E} (q : xL G X es ss h fun rs h => BiW G.srt f rs h fun r => Q r h) : xE G X (.bi f es) ss h Q := by
  simp only [xE_def, xL_def, xO_def, xB_def] at *
  rw [evE]
  simp only [O.wpX_bind]
  refine O.wpX_mono q fun rs h q => ?_
  obtain ⟨r, e, q⟩ := q
  rw [e]; exact q
theorem w_isi {a : E} {t : Ty} (q : xE G X a ss h fun x h => x.rd.noObj = true ∧ Q (.v (.bl (tyD t x.rd))) h) : xE G X (.isi a t) ss h Q := by
  simp only [xE_def, xL_def, xO_def, xB_def] at *
  rw [evE]
  simp only [O.wpX_bind]
  refine O.wpX_mono q fun x h q => ?_
  rw [if_pos q.1]; exact q.2
theorem w_comp {k : IK} {src : List E} {t : Tg} {own : List Nat} {ifs : List E} {e : E} (q : xL G X src ss h fun rs h => ItW k rs fun ds => xC G X ss t own ifs e ds h fun xs h => Q (.nl xs) h) : xE G X (.comp k src t own ifs e) ss h Q := by
  simp only [xE_def, xL_def, xC_def] at *
  rw [evE]
  simp only [O.wpX_bind]
  refine O.wpX_mono q fun rs h q => ?_
  obtain ⟨ds, e1, q⟩ := q
  rw [e1]
  exact q
theorem w_nil {Q : List R → MH → Prop} (q : Q [] h) : xL G X [] ss h Q := by rw [xL_def, evL]; exact q
theorem w_cons {e : E} {es : List E} {Q : List R → MH → Prop} (q : xE G X e ss h fun r h => xL G X es ss h fun rs h => Q (r :: rs) h) : xL G X (e :: es) ss h Q := by
  simp only [xE_def, xL_def, xO_def, xB_def] at *
  rw [evL]
  simp only [O.wpX_bind]
  exact q
/-- one turn of a comprehension without a test -/
theorem w_turn {t : Tg} {e : E} {d : D} {ss1 : SS} {Q : Option D → MH → Prop} (e1 : asgT t d ss = some ss1) (q : xE G NX e ss1 h fun r h => ∃ y, r.toD = some y ∧ Q (some y) h) :
    O.wp (match asgT t d ss with
        | none => .no
        | some ss1 => (evT G [] ss1 h).bind fun b h => match b with
          | true => (evE G e ss1 h).bind fun r h => O.of h (r.toD.map some)
          | false => .ok none h) Q := by
  simp only [xE_def, xL_def, xO_def, xB_def] at *
  rw [e1]
  simp only [evT, O.bind_ok, O.wp_bind]
  refine O.wp_mono (O.wp_nx q) fun r h q => ?_
  obtain ⟨y, e2, q⟩ := q
  rw [e2]; exact q
/-- .. with a test -/
theorem w_turnT {t : Tg} {e c : E} {d : D} {ss1 : SS} {Q : Option D → MH → Prop} (e1 : asgT t d ss = some ss1) (q : xE G NX c ss1 h fun x h => BlW x fun b => IfW b (xE G NX e ss1 h fun r h => ∃ y, r.toD = some y ∧ Q (some y) h) (Q none h)) :
    O.wp (match asgT t d ss with
        | none => .no
        | some ss1 => (evT G [c] ss1 h).bind fun b h => match b with
          | true => (evE G e ss1 h).bind fun r h => O.of h (r.toD.map some)
          | false => .ok none h) Q := by
  simp only [xE_def, xL_def, xO_def, xB_def] at *
  rw [e1]
  simp only [evT, O.wp_bind]
  refine O.wp_mono (O.wp_nx q) fun x h q => ?_
  obtain ⟨b, e2, q1, q2⟩ := q
  rw [e2]
  cases b with
  | true =>
    simp only [O.of_some, O.wp_ok, O.wp_bind]
    refine O.wp_mono (O.wp_nx (q1 rfl)) fun r h q => ?_
    obtain ⟨y, e3, q⟩ := q
    rw [e3]; exact q
  | false => exact q2 rfl
end
section
variable {G : Cfg} {X : Nat → MH → Prop} {ss : SS} {h : MH} {t : Tg} {own : List Nat} {e c : E} {ds : List D} {Q : List D → MH → Prop}
/-- a comprehension that leaves the heap alone -/
theorem c_pure (g : D → D) (hs : ∀ d ∈ ds, ∃ ss1, asgT t d (wipeS ss own) = some ss1 ∧ xE G NX e ss1 h fun r h' => r.toD = some (g d) ∧ h' = h) (hl : ds.length ≤ 1000000) (q : Q (ds.map g) h) : xC G X ss t own [] e ds h Q := by
  rw [xC_def, evItems_map (g := g) (fun d hd => ?_) (by simpa using hl)]
  · simpa using q
  · obtain ⟨ss1, e1, w⟩ := hs d hd
    refine O.eq_of (w_turn e1 ?_)
    simp only [xE_def] at *
    exact O.wpX_mono w fun r h' ⟨a, b⟩ => ⟨_, a, rfl, b⟩
theorem c_test (g : D → D) (f : D → Bool) (hs : ∀ d ∈ ds, ∃ ss1, asgT t d (wipeS ss own) = some ss1 ∧ xE G NX c ss1 h fun r h' => r = .v (.bl (f d)) ∧ h' = h ∧ (f d = true → xE G NX e ss1 h fun r h' => r.toD = some (g d) ∧ h' = h)) (hl : ds.length ≤ 1000000) (q : Q ((ds.filter f).map g) h) : xC G X ss t own [c] e ds h Q := by
  rw [xC_def, evItems_filter (g := fun d => if f d then some (g d) else none) (fun d hd => ?_) (by simpa using hl)]
  · have z : ∀ ds : List D, ds.filterMap (fun d => if f d then some (g d) else none) = (ds.filter f).map g := fun ds => by
      induction ds with
      | nil => rfl
      | cons d ds ih => by_cases z : f d = true <;> simp [List.filterMap_cons, List.filter_cons, z, ih]
    simpa [z] using q
  · obtain ⟨ss1, e1, w⟩ := hs d hd
    refine O.eq_of (w_turnT e1 ?_)
    simp only [xE_def] at *
    refine O.wpX_mono w fun r h' z => ?_
    obtain ⟨rfl, rfl, z⟩ := z
    refine ⟨f d, rfl, fun y => ?_, fun y => ?_⟩
    · refine O.wpX_mono (z y) fun r h' ⟨a, b⟩ => ⟨_, a, by simp [y], b⟩
    · simp [y]
theorem c_inv {J : List D → MH → Prop} (j0 : J [] h) (hs : ∀ d ∈ ds, ∀ acc h, acc.length < ds.length → J acc h → ∃ ss1, asgT t d (wipeS ss own) = some ss1 ∧ xE G NX e ss1 h fun r h' => ∃ y, r.toD = some y ∧ J (acc ++ [y]) h') (hl : ds.length ≤ 1000000) (q : ∀ ys h, ys.length = ds.length → J ys h → Q ys h) : xC G X ss t own [] e ds h Q := by
  rw [xC_def]
  have main : ∀ (l acc : List D) (h : MH), (∀ d ∈ l, d ∈ ds) → acc.length + l.length = ds.length → J acc h → O.wp (evItems (fun d h => match asgT t d (wipeS ss own) with
        | none => .no
        | some ss1 => (evT G [] ss1 h).bind fun b h => match b with
          | true => (evE G e ss1 h).bind fun r h => O.of h (r.toD.map some)
          | false => .ok none h) l acc h) Q := by
    intro l
    induction l with
    | nil => intro acc h _ ha j; exact q acc h (by simpa using ha) j
    | cons d l ih =>
      intro acc h hm ha j
      simp only [List.length_cons] at ha
      obtain ⟨ss1, e1, w⟩ := hs d (hm d (by simp)) acc h (by omega) j
      have w2 := w_turn (Q := fun r h' => ∃ y, r = some y ∧ J (acc ++ [y]) h') (t := t) (d := d) e1 (by
        simp only [xE_def] at *
        exact O.wpX_mono w fun r h' ⟨y, a, b⟩ => ⟨y, a, y, rfl, b⟩)
      obtain ⟨r, h1, e2, y, rfl, j1⟩ := O.wp_iff.mp w2
      rw [evItems, e2]
      simp only
      rw [if_pos (by unfold small; exact decide_eq_true (by omega))]
      exact ih (acc ++ [y]) h1 (fun d hd => hm d (by simp [hd])) (by simp; omega) j1
  exact O.wpX_of (main ds [] h (fun d hd => hd) (by simp) j0)
theorem c_invI {J : List D → MH → Prop} (j0 : J [] h) (hs : ∀ d acc h, ds[acc.length]? = some d → J acc h → ∃ ss1, asgT t d (wipeS ss own) = some ss1 ∧ xE G NX e ss1 h fun r h' => ∃ y, r.toD = some y ∧ J (acc ++ [y]) h') (hl : ds.length ≤ 1000000) (q : ∀ ys h, ys.length = ds.length → J ys h → Q ys h) : xC G X ss t own [] e ds h Q := by
  rw [xC_def]
  have main : ∀ (l acc : List D) (h : MH), ds.drop acc.length = l → acc.length + l.length = ds.length → J acc h → O.wp (evItems (fun d h => match asgT t d (wipeS ss own) with
        | none => .no
        | some ss1 => (evT G [] ss1 h).bind fun b h => match b with
          | true => (evE G e ss1 h).bind fun r h => O.of h (r.toD.map some)
          | false => .ok none h) l acc h) Q := by
    intro l
    induction l with
    | nil => intro acc h _ ha j; exact q acc h (by simpa using ha) j
    | cons d l ih =>
      intro acc h hm ha j
      simp only [List.length_cons] at ha
      have hd : ds[acc.length]? = some d := by
        have : (ds.drop acc.length)[0]? = some d := by rw [hm]; rfl
        simpa using this
      have hl2 : ds.drop (acc.length + 1) = l := by
        have : (ds.drop acc.length).drop 1 = l := by rw [hm]; rfl
        simpa [List.drop_drop, Nat.add_comm] using this
      obtain ⟨ss1, e1, w⟩ := hs d acc h hd j
      have w2 := w_turn (Q := fun r h' => ∃ y, r = some y ∧ J (acc ++ [y]) h') (t := t) (d := d) e1 (by
        simp only [xE_def] at *
        exact O.wpX_mono w fun r h' ⟨y, a, b⟩ => ⟨y, a, y, rfl, b⟩)
      obtain ⟨r, h1, e2, y, rfl, j1⟩ := O.wp_iff.mp w2
      rw [evItems, e2]
      simp only
      rw [if_pos (by unfold small; exact decide_eq_true (by omega))]
      exact ih (acc ++ [y]) h1 (by simpa using hl2) (by simp; omega) j1
  exact O.wpX_of (main ds [] h rfl (by simp) j0)
end
/-! ### operators -/
section
variable {Q : R → Prop} {C : Bool → Prop} {i j : Int}
theorem bw_add (q : Q (.v (.int (i + j)))) : BinW .add (.v (.int i)) (.v (.int j)) Q := ⟨_, rfl, q⟩
theorem bw_sub (q : Q (.v (.int (i - j)))) : BinW .sub (.v (.int i)) (.v (.int j)) Q := ⟨_, rfl, q⟩
theorem bw_mul (e : mulOk i j = true) (q : Q (.v (.int (i * j)))) : BinW .mul (.v (.int i)) (.v (.int j)) Q := ⟨_, by simp [binR, binI, e], q⟩
theorem bw_fdiv (e : divOk j = true) (q : Q (.v (.int (i / j)))) : BinW .fdiv (.v (.int i)) (.v (.int j)) Q := ⟨_, by simp [binR, binI, e], q⟩
theorem bw_mod (e : 0 < j) (q : Q (.v (.int (i % j)))) : BinW .mod (.v (.int i)) (.v (.int j)) Q := ⟨_, by simp [binR, binI, e], q⟩
theorem bw_pow (e : powOk i j = true) (q : Q (.v (.int (i ^ j.toNat)))) : BinW .pow (.v (.int i)) (.v (.int j)) Q := ⟨_, by simp [binR, binI, e], q⟩
theorem bw_tadd {xs ys : List D} (e : small (xs.length + ys.length) = true) (q : Q (.v (.tup (xs ++ ys)))) : BinW .add (.v (.tup xs)) (.v (.tup ys)) Q := ⟨_, by simp [binR, e], q⟩
theorem cw_lt (q : C (decide (i < j))) : CmpW .lt (.v (.int i)) (.v (.int j)) C := ⟨_, rfl, q⟩
theorem cw_le (q : C (decide (i ≤ j))) : CmpW .le (.v (.int i)) (.v (.int j)) C := ⟨_, rfl, q⟩
theorem cw_gt (q : C (decide (j < i))) : CmpW .gt (.v (.int i)) (.v (.int j)) C := ⟨_, rfl, q⟩
theorem cw_ge (q : C (decide (j ≤ i))) : CmpW .ge (.v (.int i)) (.v (.int j)) C := ⟨_, rfl, q⟩
theorem beq_dec (i j : Int) : (i == j) = decide (i = j) := by
  by_cases q : i = j <;> simp [q]
theorem cw_eqI (q : C (decide (i = j))) : CmpW .eq (.v (.int i)) (.v (.int j)) C := ⟨decide (i = j), by simp [cmpR, R.rd, D.okN, D.eqb, beq_dec], q⟩
theorem cw_neI (q : C (!decide (i = j))) : CmpW .ne (.v (.int i)) (.v (.int j)) C := ⟨!decide (i = j), by simp [cmpR, R.rd, D.okN, D.eqb, beq_dec], q⟩
theorem cw_eq {x y : R} (e1 : x.rd.okN 60 = true) (e2 : y.rd.okN 60 = true) (q : C (D.eqb x.rd y.rd)) : CmpW .eq x y C := ⟨_, by simp only [cmpR, e1, e2, Bool.and_self, if_true], q⟩
theorem cw_ne {x y : R} (e1 : x.rd.okN 60 = true) (e2 : y.rd.okN 60 = true) (q : C (!D.eqb x.rd y.rd)) : CmpW .ne x y C := ⟨_, by simp only [cmpR, e1, e2, Bool.and_self, if_true], q⟩
theorem sl_t {xs : List D} {l u : Option Int} (q : Q (.v (.tup (cutD xs l u)))) : SlW (.v (.tup xs)) l u Q := q
theorem sl_l {xs : List D} {l u : Option Int} (q : Q (.nl (cutD xs l u))) : SlW (.v (.lst xs)) l u Q := q
theorem sl_n {xs : List D} {l u : Option Int} (q : Q (.nl (cutD xs l u))) : SlW (.nl xs) l u Q := q
theorem sl_b {xs : List D} {l u : Option Int} (q : Q (.nl (cutD xs l u))) : SlW (.bw xs) l u Q := q
theorem bl_w {b : Bool} (q : C b) : BlW (.v (.bl b)) C := ⟨b, rfl, q⟩
theorem if_t {a b : Prop} (q : a) : IfW true a b := ⟨fun _ => q, fun e => by cases e⟩
theorem if_s {t : Bool} {a b : Prop} (x : t = true → a) (y : t = false → b) : IfW t a b := ⟨x, y⟩
theorem if_f {a b : Prop} (q : b) : IfW false a b := ⟨fun e => (by cases e), fun _ => q⟩
end
theorem fl_rt {Q : SS → MH → Prop} {E : R → MH → Prop} {r : R} {h : MH} (q : E r h) : FlW Q E (.rt r) h := q
theorem fl_nx {Q : SS → MH → Prop} {E : R → MH → Prop} {ss : SS} {h : MH} (q : Q ss h) : FlW Q E (.nx ss) h := q
/-! ### blocks -/
section
variable {G : Cfg} {X : Nat → MH → Prop} {ss : SS} {h : MH} {r : List S} {Q : Fl → MH → Prop}
theorem b_nil (q : Q (.nx ss) h) : xB G X [] ss h Q := by rw [xB_def, evB]; exact q
theorem b_step {s : S} (q : (evS G s ss h).wpX X fun f h => match f with
    | .nx ss' => xB G X r ss' h Q
    | .rt x => Q (.rt x) h) : xB G X (s :: r) ss h Q := by
  simp only [xE_def, xL_def, xO_def, xB_def] at *
  rw [evB]
  simp only [O.wpX_bind]
  refine O.wpX_mono q fun f h q => ?_
  cases f <;> exact q
theorem b_asg {t : Tg} {e : E} (q : xE G X e ss h fun x h => ∃ d ss', x.toD = some d ∧ asgT t d ss = some ss' ∧ xB G X r ss' h Q) : xB G X (.asg t e :: r) ss h Q := by
  refine b_step ?_
  try simp only [xE_def, xL_def, xO_def, xB_def] at *
  rw [evS]
  simp only [O.wpX_bind]
  refine O.wpX_mono q fun x h q => ?_
  obtain ⟨d, ss', e1, e2, q⟩ := q
  simp only [e1, Option.bind_some, e2]
  exact q
theorem b_asgO {j : Nat} {e : E} (q : xE G X e ss h fun x h => ∃ xs ss', x = .nl xs ∧ setSl ss j (.own xs) = some ss' ∧ xB G X r ss' h Q) : xB G X (.asgO j e :: r) ss h Q := by
  refine b_step ?_
  try simp only [xE_def, xL_def, xO_def, xB_def] at *
  rw [evS]
  simp only [O.wpX_bind]
  refine O.wpX_mono q fun x h q => ?_
  obtain ⟨d, ss', rfl, e2, q⟩ := q
  simp only [e2]
  exact q
theorem b_asgR {j : Nat} {e : E} (q : xE G X e ss h fun x h => ∃ xs ss', x = .nl xs ∧ setSl ss j (.v (.obj h.length)) = some ss' ∧ xB G X r ss' (h ++ [.lst xs]) Q) : xB G X (.asgR j e :: r) ss h Q := by
  refine b_step ?_
  try simp only [xE_def, xL_def, xO_def, xB_def] at *
  rw [evS]
  simp only [O.wpX_bind]
  refine O.wpX_mono q fun x h q => ?_
  obtain ⟨d, ss', rfl, e2, q⟩ := q
  simp only [e2]
  exact q
theorem b_par {js : List Nat} {es : List E} (q : xL G X es ss h fun rs h => ∃ ds ss', toDs rs = some ds ∧ parS js ds ss = some ss' ∧ xB G X r ss' h Q) : xB G X (.par js es :: r) ss h Q := by
  refine b_step ?_
  try simp only [xE_def, xL_def, xO_def, xB_def] at *
  rw [evS]
  simp only [O.wpX_bind]
  refine O.wpX_mono q fun x h q => ?_
  obtain ⟨d, ss', e1, e2, q⟩ := q
  simp only [e1, Option.bind_some, e2]
  exact q
theorem b_appO {j : Nat} {e : E} {xs : List D} (e0 : ss[j]? = some (some (.own xs))) (q : xE G X e ss h fun x h => ∃ d ss', x.toD = some d ∧ small (xs.length + 1) = true ∧ setSl ss j (.own (xs ++ [d])) = some ss' ∧ xB G X r ss' h Q) : xB G X (.app j e :: r) ss h Q := by
  refine b_step ?_
  try simp only [xE_def, xL_def, xO_def, xB_def] at *
  rw [evS]
  have e1 : isLst ss j h = true := by unfold isLst; rw [e0]
  rw [e1]
  simp only [O.wpX_bind]
  refine O.wpX_mono q fun x h q => ?_
  obtain ⟨d, ss', e2, e3, e4, q⟩ := q
  simp only [e2, appTo, e0, List.length_singleton, e3, if_true, e4]
  exact q
theorem b_extO {j : Nat} {e : E} {xs : List D} (e0 : ss[j]? = some (some (.own xs))) (q : xE G X e ss h fun x h => ∃ ys ss', x = .nl ys ∧ small (xs.length + ys.length) = true ∧ setSl ss j (.own (xs ++ ys)) = some ss' ∧ xB G X r ss' h Q) : xB G X (.ext j e :: r) ss h Q := by
  refine b_step ?_
  try simp only [xE_def, xL_def, xO_def, xB_def] at *
  rw [evS]
  have e1 : isLst ss j h = true := by unfold isLst; rw [e0]
  rw [e1]
  simp only [O.wpX_bind]
  refine O.wpX_mono q fun x h q => ?_
  obtain ⟨d, ss', rfl, e3, e4, q⟩ := q
  simp only [appTo, e0, e3, if_true, e4]
  exact q
/-- a list by reference grows by a value that does not touch the heap -/
theorem b_appR {j : Nat} {e : E} {i : Nat} {xs : List D} (e0 : ss[j]? = some (some (.v (.obj i)))) (e1 : h[i]? = some (.lst xs)) (q : xE G X e ss h fun x h' => h' = h ∧ ∃ d, x.toD = some d ∧ small (xs.length + 1) = true ∧ xB G X r ss (h.set i (.lst (xs ++ [d]))) Q) : xB G X (.app j e :: r) ss h Q := by
  refine b_step ?_
  try simp only [xE_def, xL_def, xO_def, xB_def] at *
  rw [evS]
  have e2 : isLst ss j h = true := by unfold isLst; rw [e0]; simp only [e1]
  rw [e2]
  simp only [O.wpX_bind]
  refine O.wpX_mono q fun x h' q => ?_
  obtain ⟨rfl, d, e3, e4, q⟩ := q
  simp only [e3, appTo, e0, e1, List.length_singleton, e4, if_true]
  exact q
theorem b_expr {e : E} (q : xE G X e ss h fun _ h => xB G X r ss h Q) : xB G X (.expr e :: r) ss h Q := by
  refine b_step ?_
  try simp only [xE_def, xL_def, xO_def, xB_def] at *
  rw [evS]
  simp only [O.wpX_bind]
  exact q
theorem b_pass (q : xB G X r ss h Q) : xB G X (.pass :: r) ss h Q := by
  refine b_step ?_
  try simp only [xE_def, xL_def, xO_def, xB_def] at *
  rw [evS]
  exact q
theorem b_ret {e : E} (q : xE G X e ss h fun x h => ∃ y, retR x = some y ∧ Q (.rt y) h) : xB G X (.ret e :: r) ss h Q := by
  refine b_step ?_
  try simp only [xE_def, xL_def, xO_def, xB_def] at *
  rw [evS]
  simp only [O.wpX_bind]
  refine O.wpX_mono q fun x h q => ?_
  obtain ⟨y, e1, q⟩ := q
  rw [e1]; exact q
theorem b_retN (q : Q (.rt (.v .non)) h) : xB G X (.retN :: r) ss h Q := by
  refine b_step ?_
  try simp only [xE_def, xL_def, xO_def, xB_def] at *
  rw [evS]; exact q
theorem b_retO {j : Nat} {xs : List D} (e0 : ss[j]? = some (some (.own xs))) (q : Q (.rt (.nl xs)) h) : xB G X (.retO j :: r) ss h Q := by
  refine b_step ?_
  try simp only [xE_def, xL_def, xO_def, xB_def] at *
  rw [evS, e0]; exact q
theorem b_frz {j : Nat} {xs : List D} {ss' : SS} (e0 : ss[j]? = some (some (.own xs))) (e1 : setSl ss j (.v (.lst xs)) = some ss') (q : xB G X r ss' h Q) : xB G X (.frz j :: r) ss h Q := by
  refine b_step ?_
  try simp only [xE_def, xL_def, xO_def, xB_def] at *
  rw [evS, e0]
  simp only [e1]
  exact q
theorem b_ifs {c : E} {a b : List S} (q : xE G X c ss h fun x h => BlW x fun t => IfW t (xB G X a ss h (FlW (fun ss h => xB G X r ss h Q) fun x h => Q (.rt x) h)) (xB G X b ss h (FlW (fun ss h => xB G X r ss h Q) fun x h => Q (.rt x) h))) : xB G X (.ifs c a b :: r) ss h Q := by
  refine b_step ?_
  try simp only [xE_def, xL_def, xO_def, xB_def] at *
  rw [evS]
  simp only [O.wpX_bind]
  refine O.wpX_mono q fun x h q => ?_
  obtain ⟨t, e, q1, q2⟩ := q
  rw [e]
  cases t with
  | true =>
    simp only [O.of_some, O.wpX_ok]
    exact O.wpX_mono (q1 rfl) fun f h q => by cases f <;> exact q
  | false =>
    simp only [O.of_some, O.wpX_ok]
    exact O.wpX_mono (q2 rfl) fun f h q => by cases f <;> exact q
theorem b_for {k : IK} {src : List E} {t : Tg} {b : List S} (q : xL G X src ss h fun rs h => (toDs rs).isSome = true ∧ ItW k rs fun ds => xF G X b t ds ss h (FlW (fun ss h => xB G X r ss h Q) fun x h => Q (.rt x) h)) : xB G X (.for_ k src t b :: r) ss h Q := by
  refine b_step ?_
  try simp only [xE_def, xL_def, xO_def, xB_def, xF_def] at *
  rw [evS]
  simp only [O.wpX_bind]
  refine O.wpX_mono q fun rs h q => ?_
  obtain ⟨e0, ds, e1, q⟩ := q
  obtain ⟨z, e2⟩ := Option.isSome_iff_exists.mp e0
  rw [e1, e2]
  simp only [O.of_some, O.wpX_ok]
  exact O.wpX_mono q fun f h q => by cases f <;> exact q
end
theorem for_inv {G : Cfg} {X : Nat → MH → Prop} {b : List S} {t : Tg} {Q : SS → MH → Prop} {E : R → MH → Prop} (J : Nat → SS → MH → Prop) {ds : List D} {ss : SS} {h : MH} (j0 : J 0 ss h)
    (st : ∀ i d, ds[i]? = some d → ∀ ss h, J i ss h → ∃ ss1, asgT t d ss = some ss1 ∧ xB G X b ss1 h (FlW (J (i + 1)) E)) (q : ∀ ss h, J ds.length ss h → Q ss h) : xF G X b t ds ss h (FlW Q E) := by
  rw [xF_def]
  induction ds generalizing J ss h with
  | nil => exact q ss h j0
  | cons d ds ih =>
    obtain ⟨ss1, e1, w⟩ := st 0 d rfl ss h j0
    rw [xB_def] at w
    rw [evFor, e1]
    simp only [O.of_some, O.bind_ok, O.wpX_bind]
    refine O.wpX_mono w fun f h1 z => ?_
    cases f with
    | rt r => exact z
    | nx ss2 => exact ih (fun i => J (i + 1)) z (fun i d hi => st (i + 1) d (by simpa using hi)) q
theorem b_ss {G : Cfg} {X : Nat → MH → Prop} {r : List S} {ss ss' : SS} {h : MH} {Q : Fl → MH → Prop} (e : ss = ss') (q : xB G X r ss' h Q) : xB G X r ss h Q := e ▸ q
theorem f_ss {G : Cfg} {X : Nat → MH → Prop} {b : List S} {t : Tg} {ds ds' : List D} {ss ss' : SS} {h : MH} {Q : Fl → MH → Prop} (e : ss = ss') (e' : ds = ds') (q : xF G X b t ds' ss' h Q) : xF G X b t ds ss h Q := e ▸ e' ▸ q
theorem for_nil {G : Cfg} {X : Nat → MH → Prop} {b : List S} {t : Tg} {Q : SS → MH → Prop} {E : R → MH → Prop} {ss : SS} {h : MH} (q : Q ss h) : xF G X b t [] ss h (FlW Q E) := by rw [xF_def]; exact q
theorem for_cons {G : Cfg} {X : Nat → MH → Prop} {b : List S} {t : Tg} {Q : SS → MH → Prop} {E : R → MH → Prop} {d : D} {ds : List D} {ss ss1 : SS} {h : MH} (e : asgT t d ss = some ss1) (q : xB G X b ss1 h (FlW (fun ss h => xF G X b t ds ss h (FlW Q E)) E)) : xF G X b t (d :: ds) ss h (FlW Q E) := by
  simp only [xF_def] at *
  rw [evFor, e]
  simp only [O.of_some, O.bind_ok, O.wpX_bind]
  rw [xB_def] at q
  refine O.wpX_mono q fun f h z => ?_
  cases f <;> exact z
theorem Pg.call_wp {p : Pg} {f : Nat} {d : FD} (e : p.Pt f = some d) {n : Nat} {args : List Sl} {h : MH} {Q : R → MH → Prop} (hl : args.length = d.p)
    (q : xB (p.G n) NX d.body (startS d.n args) h (FlW (fun _ h' => h'.length = h.length ∧ Q (.v .non) h') fun r h' => h'.length = h.length ∧ Q r h')) : (p.c (n + 1) f args h).wp Q := by
  rw [Pg.call e hl]
  rw [xB_def] at q
  obtain ⟨fl, h', e1, q⟩ := O.wp_iff.mp (O.wp_nx q)
  rw [e1]
  cases fl with
  | nx s => rw [fin_nx _ _ _ q.1]; exact q.2
  | rt r => rw [fin_rt _ _ _ q.1]; exact q.2
/-- a call that ends with objects of its own -/
theorem Pg.call_wpL {p : Pg} {f : Nat} {d : FD} (e : p.Pt f = some d) {n : Nat} {args : List Sl} {h : MH} {Q : R → MH → Prop} (hl : args.length = d.p)
    (q : xB (p.G n) NX d.body (startS d.n args) h (FlW (fun _ _ => False) fun r h' => r.pure = true ∧ h.length < h'.length ∧ (h'.take h.length).all MO.pure = true ∧ Q r (h'.take h.length))) : (p.c (n + 1) f args h).wp Q := by
  rw [Pg.call e hl]
  rw [xB_def] at q
  obtain ⟨fl, h', e1, q⟩ := O.wp_iff.mp (O.wp_nx q)
  rw [e1]
  cases fl with
  | nx s => exact q.elim
  | rt r =>
    obtain ⟨q1, q2, q3, q4⟩ := q
    have z : finish h.length (.ok (.rt r) h') = .ok r (h'.take h.length) := by
      simp only [finish]
      rw [if_neg (by omega), q1, q3]
      rfl
    rw [z]
    exact q4
/-! ### exceptions -/
theorem b_raise {G : Cfg} {X : Nat → MH → Prop} {ss : SS} {h : MH} {r : List S} {Q : Fl → MH → Prop} {c : Nat} (q : X c h) : xB G X (.raise c :: r) ss h Q := by
  refine b_step ?_
  rw [evS]
  exact q
theorem b_tryW {G : Cfg} {X : Nat → MH → Prop} {ss : SS} {h : MH} {r : List S} {Q : Fl → MH → Prop} {e : E} {i : Nat} (hi : i < ss.length) (q : xE G (fun c h => ∃ d, G.wh c = some d ∧ Q (.rt (.v d)) h) e ss h fun x h => ∃ y, retR x = some y ∧ Q (.rt y) h) : xB G X (.tryW e i :: r) ss h Q := by
  refine b_step ?_
  rw [xE_def] at q
  rw [evS, if_pos hi]
  rcases O.wpX_iff q with ⟨a, h1, e1, y, e2, q⟩ | ⟨c, h1, e1, d, e2, q⟩
  · rw [e1]
    simp only [e2]
    exact q
  · rw [e1]
    simp only [e2]
    exact q
theorem Pg.call_wpX {p : Pg} {f : Nat} {d : FD} (e : p.Pt f = some d) {n : Nat} {args : List Sl} {h : MH} {X : Nat → MH → Prop} {Q : R → MH → Prop} (hl : args.length = d.p)
    (q : xB (p.G n) (fun c h' => h'.length = h.length ∧ X c h') d.body (startS d.n args) h (FlW (fun _ h' => h'.length = h.length ∧ Q (.v .non) h') fun r h' => h'.length = h.length ∧ Q r h')) : (p.c (n + 1) f args h).wpX X Q := by
  rw [Pg.call e hl]
  rw [xB_def] at q
  rcases O.wpX_iff q with ⟨fl, h', e1, q⟩ | ⟨c, h', e1, q⟩
  · rw [e1]
    cases fl with
    | nx s => rw [fin_nx _ _ _ q.1]; exact q.2
    | rt r => rw [fin_rt _ _ _ q.1]; exact q.2
  · rw [e1]
    simp only [finish, q.1, if_true]
    exact q.2
/-- a call that raises -/
theorem Pg.call_ex {p : Pg} {f : Nat} {d : FD} (e : p.Pt f = some d) {n c : Nat} {args : List Sl} {h : MH} (hl : args.length = d.p) (q : xB (p.G n) (fun c' h' => c' = c ∧ h' = h) d.body (startS d.n args) h (fun _ _ => False)) : p.c (n + 1) f args h = .ex c h := by
  rw [Pg.call e hl]
  rw [xB_def] at q
  rcases O.wpX_iff q with ⟨fl, h', e1, q⟩ | ⟨c', h', e1, rfl, rfl⟩
  · exact q.elim
  · rw [e1]
    simp [finish]
end GV
set_option Elab.async false
set_option linter.all false
set_option maxRecDepth 100000
set_option maxHeartbeats 4000000
/-! GV23: more rules for evaluating. -/
namespace GV
open PySem L2
section
variable {G : Cfg} {X : Nat → MH → Prop} {ss : SS} {h : MH} {r : List S} {Q : Fl → MH → Prop}
theorem b_par2 {o o' : Bool} {i j : Nat} {a b : E} (q : xE G X a ss h fun x h => xE G X b ss h fun y h => ∃ ss1 ss', putS o i x ss = some ss1 ∧ putS o' j y ss1 = some ss' ∧ xB G X r ss' h Q) : xB G X (.par2 o o' i j a b :: r) ss h Q := by
  refine b_step ?_
  try simp only [xE_def, xB_def] at *
  rw [evS]
  simp only [O.wpX_bind]
  refine O.wpX_mono q fun x h q => O.wpX_mono q fun y h q => ?_
  obtain ⟨ss1, ss', e1, e2, q⟩ := q
  simp only [e1, Option.bind_some, e2]
  exact q
theorem b_par3 {o o' o'' : Bool} {i j l : Nat} {a b c : E} (q : xE G X a ss h fun x h => xE G X b ss h fun y h => xE G X c ss h fun z h => ∃ ss1 ss2 ss', putS o i x ss = some ss1 ∧ putS o' j y ss1 = some ss2 ∧ putS o'' l z ss2 = some ss' ∧ xB G X r ss' h Q) : xB G X (.par3 o o' o'' i j l a b c :: r) ss h Q := by
  refine b_step ?_
  try simp only [xE_def, xB_def] at *
  rw [evS]
  simp only [O.wpX_bind]
  refine O.wpX_mono q fun x h q => O.wpX_mono q fun y h q => O.wpX_mono q fun z h q => ?_
  obtain ⟨ss1, ss2, ss', e1, e2, e3, q⟩ := q
  simp only [e1, Option.bind_some, e2, e3]
  exact q
theorem b_setT {j a b : Nat} {e : E} {xs : List D} (e0 : ss[j]? = some (some (.own xs))) (q : xE G X e ss h fun x h => ∃ d1 d2 k1 k2 n1 n2 ss', x.toD = some (.tup [d1, d2]) ∧ simpI ss (.v a) = some k1 ∧ simpI ss (.v b) = some k2 ∧ idxN xs.length k1 = some n1 ∧ idxN xs.length k2 = some n2 ∧ setSl ss j (.own ((xs.set n1 d1).set n2 d2)) = some ss' ∧ xB G X r ss' h Q) : xB G X (.setT j a b e :: r) ss h Q := by
  refine b_step ?_
  try simp only [xE_def, xB_def] at *
  rw [evS, e0]
  simp only [O.wpX_bind]
  refine O.wpX_mono q fun x h q => ?_
  obtain ⟨d1, d2, k1, k2, n1, n2, ss', e1, e2, e3, e4, e5, e6, q⟩ := q
  simp only [e1, e2, e3, e4, e5, e6]
  exact q
theorem b_setI {j : Nat} {i e : E} {xs : List D} (e0 : ss[j]? = some (some (.own xs))) (q : xE G X e ss h fun x h => ∃ d, x.toD = some d ∧ xE G X i ss h fun y h => ∃ k n ss', y = .v (.int k) ∧ idxN xs.length k = some n ∧ setSl ss j (.own (xs.set n d)) = some ss' ∧ xB G X r ss' h Q) : xB G X (.setI j i e :: r) ss h Q := by
  refine b_step ?_
  try simp only [xE_def, xB_def] at *
  rw [evS, e0]
  simp only [O.wpX_bind]
  refine O.wpX_mono q fun x h q => ?_
  obtain ⟨d, e1, q⟩ := q
  rw [e1]
  simp only [O.wpX_bind]
  refine O.wpX_mono q fun y h q => ?_
  obtain ⟨k, n, ss', rfl, e2, e3, q⟩ := q
  simp only [e2, e3]
  exact q
theorem b_appPop {j l : Nat} {e : E} {xs ys : List D} (e0 : ss[j]? = some (some (.own ys))) (e1 : ss[l]? = some (some (.own xs))) (hn : j ≠ l)
    (q : xE G X e ss h fun x h => ∃ (i : Int) (d : D) (ss1 ss' : SS), x = .v (.int i) ∧ 0 ≤ i ∧ i < xs.length ∧ i < 1000000 ∧ xs[i.toNat]? = some d ∧ small (ys.length + 1) = true ∧ setSl ss l (.own (xs.eraseIdx i.toNat)) = some ss1 ∧ setSl ss1 j (.own (ys ++ [d])) = some ss' ∧ xB G X r ss' h Q) : xB G X (.appPop j l e :: r) ss h Q := by
  refine b_step ?_
  try simp only [xE_def, xB_def] at *
  rw [evS, e0, e1]
  simp only [O.wpX_bind]
  refine O.wpX_mono q fun x h q => ?_
  obtain ⟨i, d, ss1, ss', rfl, h1, h2, h3, e2, e3, e4, e5, q⟩ := q
  simp only [popL, h1, h2, h3, and_self, if_true, e2, Option.map_some, hn, ne_eq, not_false_eq_true, e3, e4, Option.bind_some, e5]
  exact q
theorem b_popX {l : Nat} {e : E} {xs : List D} (e1 : ss[l]? = some (some (.own xs)))
    (q : xE G X e ss h fun x h => ∃ (i : Int) (d : D) (ss' : SS), x = .v (.int i) ∧ 0 ≤ i ∧ i < xs.length ∧ i < 1000000 ∧ xs[i.toNat]? = some d ∧ setSl ss l (.own (xs.eraseIdx i.toNat)) = some ss' ∧ xB G X r ss' h Q) : xB G X (.popX l e :: r) ss h Q := by
  refine b_step ?_
  try simp only [xE_def, xB_def] at *
  rw [evS, e1]
  simp only [O.wpX_bind]
  refine O.wpX_mono q fun x h q => ?_
  obtain ⟨i, d, ss', rfl, h1, h2, h3, e2, e4, q⟩ := q
  simp only [popL, h1, h2, h3, and_self, if_true, e2, Option.map_some, e4]
  exact q
/-- J n: at most n more turns -/
theorem b_while {c : E} {b : List S} (J : Nat → SS → MH → Prop) (n : Nat) (hn : n < G.wf) (j0 : J n ss h)
    (st : ∀ m ss h, J m ss h → xE G X c ss h fun x h' => BlW x fun t => IfW t (∃ m', m = m' + 1 ∧ xB G X b ss h' (FlW (J m') fun x h => Q (.rt x) h)) (xB G X r ss h' Q)) : xB G X (.while_ c b :: r) ss h Q := by
  refine b_step ?_
  rw [evS]
  have main : ∀ (k n : Nat) (ss : SS) (h : MH), n < k → J n ss h → (evWhile (fun ss h => (evE G c ss h).bind fun r h => O.of h (blE r)) (evB G b) k ss h).wpX X fun f h => match f with
      | .nx ss' => xB G X r ss' h Q
      | .rt x => Q (.rt x) h := by
    intro k
    induction k with
    | zero => intro n ss h hk; omega
    | succ k ih =>
      intro n ss h hk j
      have s := st n ss h j
      rw [xE_def] at s
      rw [evWhile]
      simp only [O.wpX_bind]
      refine O.wpX_mono s fun x h' s => ?_
      obtain ⟨t, e, s1, s2⟩ := s
      rw [e]
      cases t with
      | true =>
        obtain ⟨m', rfl, s4⟩ := s1 rfl
        rw [xB_def] at s4
        simp only [O.of_some, O.wpX_ok, O.wpX_bind]
        refine O.wpX_mono s4 fun f h2 s3 => ?_
        cases f with
        | nx ss2 => exact ih m' ss2 h2 (by omega) s3
        | rt x => exact s3
      | false => exact s2 rfl
  exact main G.wf n ss h hn j0
end
section
variable {G : Cfg} {X : Nat → MH → Prop} {ss : SS} {h : MH} {Q : R → MH → Prop}
def RevW (x : R) (lo : Option Nat) (Q : R → Prop) : Prop := match x.rd with
  | .lst xs => Q (.nl (revD lo xs))
  | .tup xs => Q (.v (.tup (revD lo xs)))
  | _ => False
theorem w_rgl {b : Bool} {a : E} (q : xE G X a ss h fun x h => ∃ n : Int, x = .v (.int n) ∧ (0 ≤ n ∧ n ≤ 1000) ∧ Q (match b with | true => .v (.tup (rngD 0 n)) | false => .nl (rngD 0 n)) h) : xE G X (.rgl b a) ss h Q := by
  simp only [xE_def] at *
  rw [evE]
  simp only [O.wpX_bind]
  refine O.wpX_mono q fun x h q => ?_
  obtain ⟨n, rfl, hn, q⟩ := q
  simp only [decide_eq_true hn, if_true]
  exact q
theorem w_rev {a : E} {lo : Option Nat} (q : xE G X a ss h fun x h => RevW x lo fun r => Q r h) : xE G X (.rev a lo) ss h Q := by
  simp only [xE_def] at *
  rw [evE]
  simp only [O.wpX_bind]
  refine O.wpX_mono q fun x h q => ?_
  unfold RevW at q
  generalize x.rd = y at q ⊢
  cases y <;> first | exact q | exact q.elim
end
section
variable {Q : R → Prop}
theorem rv_t {xs : List D} {lo : Option Nat} (q : Q (.v (.tup (revD lo xs)))) : RevW (.v (.tup xs)) lo Q := q
theorem rv_l {xs : List D} {lo : Option Nat} (q : Q (.nl (revD lo xs))) : RevW (.v (.lst xs)) lo Q := q
theorem rv_n {xs : List D} {lo : Option Nat} (q : Q (.nl (revD lo xs))) : RevW (.nl xs) lo Q := q
theorem rv_b {xs : List D} {lo : Option Nat} (q : Q (.nl (revD lo xs))) : RevW (.bw xs) lo Q := q
theorem bi_sort {srt : List D → Option (List D)} {x : R} {xs : List D} {h : MH} (e : x.rd = .lst xs) (hs : srtOk xs = true) (q : Q (.nl (xs.mergeSort (PySem.W.dataLe false D.py)))) : BiW srt .sorted [x] h Q := ⟨_, by simp [biR, e, D.seq, srtD, hs], q⟩
theorem bi_sortT {srt : List D → Option (List D)} {x : R} {xs : List D} {h : MH} (e : x.rd = .tup xs) (hs : srtOk xs = true) (q : Q (.nl (xs.mergeSort (PySem.W.dataLe false D.py)))) : BiW srt .sorted [x] h Q := ⟨_, by simp [biR, e, D.seq, srtD, hs], q⟩
end
theorem it_enum {Q : List D → Prop} {x : R} {xs : List D} (e : x.rd.seq = some xs) (q : Q (xs.zipIdx.map fun p => .tup [.int (p.2 : Nat), p.1])) : ItW .enum [x] Q := ⟨_, by simp [itemsR, e], q⟩
theorem it_zip {Q : List D → Prop} {x y : R} {xs ys : List D} (e : x.rd.seq = some xs) (e' : y.rd.seq = some ys) (q : Q ((xs.zip ys).map fun p => .tup [p.1, p.2])) : ItW .zip [x, y] Q := ⟨_, by simp [itemsR, e, e'], q⟩
theorem atD0 {a : D} {r : List D} : atD (a :: r) 0 = some a := L2.atI_nat (j := 0) rfl
theorem atD1 {a b : D} {r : List D} : atD (a :: b :: r) 1 = some b := L2.atI_nat (j := 1) rfl
theorem small_of {n : Nat} (h : n ≤ 1000000) : small n = true := decide_eq_true h
theorem b_augI {G : Cfg} {X : Nat → MH → Prop} {ss : SS} {h : MH} {r : List S} {Q : Fl → MH → Prop} {j : Nat} {i e : E} {xs : List D} (e0 : ss[j]? = some (some (.own xs)))
    (q : xE G X i ss h fun y h => ∃ k n x, y = .v (.int k) ∧ idxN xs.length k = some n ∧ atD xs k = some (.int x) ∧ xE G X e ss h fun z h => ∃ y ss', z = .v (.int y) ∧ setSl ss j (.own (xs.set n (.int (x + y)))) = some ss' ∧ xB G X r ss' h Q) : xB G X (.augI j .add i e :: r) ss h Q := by
  refine b_step ?_
  try simp only [xE_def, xB_def] at *
  rw [evS, e0]
  simp only [O.wpX_bind]
  refine O.wpX_mono q fun y h q => ?_
  obtain ⟨k, n, x, rfl, e2, e3, q⟩ := q
  simp only [e2, e3, O.wpX_bind]
  refine O.wpX_mono q fun z h q => ?_
  obtain ⟨y, ss', rfl, e4, q⟩ := q
  simp only [e4]
  exact q
end GV
set_option Elab.async false
set_option linter.all false
set_option maxRecDepth 100000
set_option maxHeartbeats 4000000
/-! GJ4: rules for evaluating dicts. -/
namespace GV
open PySem L2
section
variable {G : Cfg} {X : Nat → MH → Prop} {ss : SS} {h : MH} {Q : R → MH → Prop} {j : Nat}
theorem w_dct0 (q : Q (.v (.obj h.length)) (h ++ [.dic 0 []])) : xE G X .dct0 ss h Q := by
  rw [xE_def, evE]
  exact q
theorem w_dct1 {k v : E} (q : xE G X k ss h fun x h => xE G X v ss h fun y h => ∃ d e, x = .v d ∧ y.toD = some e ∧ d.keyB = true ∧ Q (.v (.obj h.length)) (h ++ [.dic 0 [(d, e)]])) : xE G X (.dct1 k v) ss h Q := by
  simp only [xE_def] at *
  rw [evE]
  simp only [O.wpX_bind]
  refine O.wpX_mono q fun x h q => O.wpX_mono q fun y h q => ?_
  obtain ⟨d, e, rfl, e1, e2, q⟩ := q
  rw [e1]
  simp only [e2, if_true]
  exact q
theorem w_dix {i : E} {z : Nat × Nat × List (D × D)} (e0 : dicAt ss h j = some z) (q : xE G X i ss h fun y h => ∃ a n kvs d v, y = .v d ∧ dicAt ss h j = some (a, n, kvs) ∧ d.keyB = true ∧ dget kvs d = some v ∧ Q (.v v) h) : xE G X (.dix j i) ss h Q := by
  simp only [xE_def] at *
  rw [evE, e0]
  simp only [O.wpX_bind]
  refine O.wpX_mono q fun y h q => ?_
  obtain ⟨a, n, kvs, d, v, rfl, e1, e2, e3, q⟩ := q
  rw [e1]
  simp only [dixR, e2, if_true, e3, Option.map_some]
  exact q
theorem w_din {i : E} {b : Bool} (q : xE G X i ss h fun y h => ∃ a n kvs d, y = .v d ∧ dicAt ss h j = some (a, n, kvs) ∧ d.keyB = true ∧ Q (.v (.bl ((dget kvs d).isSome == b))) h) : xE G X (.din b i j) ss h Q := by
  simp only [xE_def] at *
  rw [evE]
  simp only [O.wpX_bind]
  refine O.wpX_mono q fun y h q => ?_
  obtain ⟨a, n, kvs, d, rfl, e1, e2, q⟩ := q
  rw [e1]
  simp only [dinR, e2, if_true]
  exact q
theorem w_dsrt {a n : Nat} {kvs : List (D × D)} {ys : List D} (e0 : dicAt ss h j = some (a, n, kvs)) (e1 : srtD (kvs.map (·.1)) = some ys) (q : Q (.nl ys) h) : xE G X (.dsrt j) ss h Q := by
  rw [xE_def, evE, e0]
  simp only [e1, Option.map_some]
  exact q
end
section
variable {G : Cfg} {X : Nat → MH → Prop} {ss : SS} {h : MH} {Q : Fl → MH → Prop} {r : List S} {j : Nat}
theorem b_setD {i e : E} (q : xE G X e ss h fun x h => ∃ d z, x.toD = some d ∧ dicAt ss h j = some z ∧ xE G X i ss h fun k h => ∃ kd a n kvs, k = .v kd ∧ dicAt ss h j = some (a, n, kvs) ∧ kd.keyB = true ∧ kvs.length + 1 ≤ 1000000 ∧ xB G X r ss (h.set a (.dic (n + 1) (dput kvs kd d))) Q) :
    xB G X (.setD j i e :: r) ss h Q := by
  refine b_step ?_
  try simp only [xE_def, xL_def, xO_def, xB_def] at *
  rw [evS]
  simp only [O.wpX_bind]
  refine O.wpX_mono q fun x h q => ?_
  obtain ⟨d, z, e1, e2, q⟩ := q
  rw [e1, e2]
  simp only [O.wpX_bind]
  refine O.wpX_mono q fun k h q => ?_
  obtain ⟨kd, a, n, kvs, rfl, e3, e4, e5, q⟩ := q
  rw [e3]
  have hs : small (kvs.length + 1) = true := decide_eq_true e5
  simp only [e4, hs, and_self, if_true]
  exact q
theorem b_par4 {o o' o'' o3 : Bool} {i j l m : Nat} {a b c d : E} (q : xE G X a ss h fun r1 h => xE G X b ss h fun r2 h => xE G X c ss h fun r3 h => xE G X d ss h fun r4 h => ∃ ss', ((((putS o i r1 ss).bind (putS o' j r2)).bind (putS o'' l r3)).bind (putS o3 m r4)) = some ss' ∧ xB G X r ss' h Q) :
    xB G X (.par4 o o' o'' o3 i j l m a b c d :: r) ss h Q := by
  refine b_step ?_
  try simp only [xE_def, xL_def, xO_def, xB_def] at *
  rw [evS]
  simp only [O.wpX_bind]
  refine O.wpX_mono q fun r1 h q => O.wpX_mono q fun r2 h q => O.wpX_mono q fun r3 h q => O.wpX_mono q fun r4 h q => ?_
  obtain ⟨ss', e1, q⟩ := q
  rw [e1]
  exact q
theorem sameD_of {i n : Nat} {kvs : List (D × D)} (e : h[i]? = some (.dic n kvs)) : sameD i n kvs h = true := by
  unfold sameD
  rw [e]
  simp
end
/-- a loop over a dict's keys; J: what is true ahead of the turn i -/
theorem b_forD {G : Cfg} {X : Nat → MH → Prop} {ss : SS} {h : MH} {Q : Fl → MH → Prop} {r b : List S} {j a n : Nat} {kvs : List (D × D)} {t : Tg} (J : Nat → SS → MH → Prop) (e0 : dicAt ss h j = some (a, n, kvs)) (j0 : J 0 ss h) (sm : ∀ i ss h, J i ss h → h[a]? = some (.dic n kvs))
    (st : ∀ i p, kvs[i]? = some p → ∀ ss h, J i ss h → ∃ ss1, asgT t p.1 ss = some ss1 ∧ xB G X b ss1 h (FlW (J (i + 1)) fun x h => Q (.rt x) h)) (q : ∀ ss h, J kvs.length ss h → xB G X r ss h Q) : xB G X (.forD j t b :: r) ss h Q := by
  refine b_step ?_
  try simp only [xE_def, xL_def, xO_def, xB_def] at *
  rw [evS, e0]
  simp only
  have main : ∀ (l : List (D × D)) (i : Nat) (ss : SS) (h : MH), kvs.drop i = l → i ≤ kvs.length → J i ss h → (evForD (evB G b) t a n kvs (l.map (·.1)) ss h).wpX X fun f h => match f with
      | .nx ss' => (evB G r ss' h).wpX X Q
      | .rt x => Q (.rt x) h := by
    intro l
    induction l with
    | nil =>
      intro i ss h e hle jj
      have hi : kvs.length ≤ i := List.drop_eq_nil_iff.mp e
      have ht : i = kvs.length := by omega
      rw [List.map_nil, evForD, sameD_of (sm i ss h jj)]
      simp only [if_true]
      subst ht
      exact q ss h jj
    | cons p l ih =>
      intro i ss h e hle jj
      have hp : kvs[i]? = some p := by
        have := congrArg (·[0]?) e
        simpa using this
      rw [List.map_cons, evForD, sameD_of (sm i ss h jj)]
      simp only [if_true]
      obtain ⟨ss1, e1, z⟩ := st i p hp ss h jj
      rw [e1]
      simp only [O.of_some, O.bind_ok, O.wpX_bind]
      refine O.wpX_mono z fun f h' y => ?_
      cases f with
      | nx ss2 =>
        refine ih (i + 1) ss2 h' ?_ (List.getElem?_eq_some_iff.mp hp).1 y
        rw [← List.drop_drop, e]
        rfl
      | rt x => exact y
  exact main kvs 0 ss h rfl (Nat.zero_le _) j0
end GV
set_option Elab.async false
set_option linter.all false
set_option maxRecDepth 100000
/-! GH1: the head's run, in parts (each part is run by the kernel for itself, so that less is kept). -/
namespace GV
section
open PySem PySem.W PySem.Calls PyProof.Rows HandSHeadRun
noncomputable def kk (n : Nat) (s : SharedT) : Frag := He.frG (getT s) (asM (getT s) n)
theorem HI.runEq {r : OpenRow} {q : Program} {I : HI} {n M : Nat} {loose : List PySem.Str} {w : World}
    (h1 : ∀ os : OsState, (endF (stepQ (denQ tabQ) r.prog w) M r.prog w os).map (fun s => looksF r.prog (boot_heap w.params) s.abs) = some true)
    (h2 : ∀ os : OsState, (endF (stepQ (denQ tabQ) r.prog w) M r.prog w os).map (fun s => seenQ q loose (importedModules r.prog.main.body) (fun s => xlAt q [] s && recOk r.toRowW.records s) s.abs) = some (openGood q loose))
    (a1 : ∀ os : OsState, (endF (stepQ (denQ tabQ) r.prog w) M r.prog w os).map (fun s => noLst (kk n s) && (I.cs.all (fun c => cB (kk n s) c.1 c.2) && I.clsB (kk n s))) = some true)
    (a2 : ∀ os : OsState, (endF (stepQ (denQ tabQ) r.prog w) M r.prog w os).map (fun s => I.fa.all fun f => f.ok (kk n s)) = some true)
    (a3 : ∀ os : OsState, (endF (stepQ (denQ tabQ) r.prog w) M r.prog w os).map (fun s => I.fn.all fun d => d.ok (kk n s)) = some true)
    (a4 : ∀ os : OsState, (endF (stepQ (denQ tabQ) r.prog w) M r.prog w os).map (fun s => I.fn.map fun d => He.fnW (kk n s) d.at_) = some (I.fn.map He.DefD.val)) : RunEq r q (I.hook n) (I.ob n) M loose w := by
  intro os
  have b1 := h1 os
  have b2 := h2 os
  have c1 := a1 os
  have c2 := a2 os
  have c3 := a3 os
  have c4 := a4 os
  cases e : endF (stepQ (denQ tabQ) r.prog w) M r.prog w os with
  | none => rw [e] at b1; cases b1
  | some s =>
    rw [e] at b1 b2 c1 c2 c3 c4
    simp only [Option.map_some, Option.some.injEq] at b1 b2 c1 c2 c3 c4 ⊢
    rw [b1, b2]
    have e2 : I.ob n s = I.val := by
      unfold HI.ob HI.obG HI.obK HI.val He.obsD He.valD
      have c1' := c1
      have c2' := c2
      have c3' := c3
      have c4' := c4
      unfold kk at c1' c2' c3' c4'
      rw [c1', c2', c3', c4']
      rfl
    rw [e2]
    rfl
end
end GV
set_option Elab.async false
set_option linter.all false
set_option maxRecDepth 100000
set_option maxHeartbeats 4000000
/-! GV24: rules for evaluating: instances. -/
namespace GV
open PySem L2
section
variable {G : Cfg} {X : Nat → MH → Prop} {ss : SS} {h : MH} {Q : R → MH → Prop} {f : Str} {j : Nat}
theorem w_fld {d : D} (e : fldV ss h j f = some d) (q : Q (.v d) h) : xE G X (.fld j f) ss h Q := by rw [xE_def, evE, e]; exact q
theorem w_fix {i : E} {xs : List D} {k : Int} {d : D} (e1 : fldL ss h j f = some xs) (e2 : simpI ss i = some k) (e3 : atD xs k = some d) (q : Q (.v d) h) : xE G X (.fix j f i) ss h Q := by
  rw [xE_def, evE, e1]
  simp only [Option.bind_some, e2, e3]
  exact q
theorem w_flen {xs : List D} (e : fldL ss h j f = some xs) (q : Q (.v (.int xs.length)) h) : xE G X (.flen j f) ss h Q := by rw [xE_def, evE, e]; exact q
theorem w_meth {c i g : Nat} {m : Str} {es : List E} (e : insAt ss h j c m = some i) (q : xL G X es ss h fun rs h => (G.cf g (.v (.obj i) :: rs.map R.arg) h).wp Q) : xE G X (.meth j c m g es) ss h Q := by
  simp only [xE_def, xL_def] at *
  rw [evE, e]
  simp only [O.wpX_bind]
  exact O.wpX_mono q fun rs h q => O.wpX_of q
theorem w_methX {c i g : Nat} {m : Str} {es : List E} (e : insAt ss h j c m = some i) (q : xL G X es ss h fun rs h => (G.cf g (.v (.obj i) :: rs.map R.arg) h).wpX X Q) : xE G X (.meth j c m g es) ss h Q := by
  simp only [xE_def, xL_def] at *
  rw [evE, e]
  simp only [O.wpX_bind]
  exact q
theorem w_make {c g : Nat} {es : List E} (q : xL G X es ss h fun rs h => (G.cf g (.v (.obj h.length) :: rs.map R.arg) (h ++ [.ins c []])).wp fun r h1 => r = .v .non ∧ Q (.v (.obj h.length)) h1) : xE G X (.make c g es) ss h Q := by
  simp only [xE_def, xL_def] at *
  rw [evE]
  simp only [O.wpX_bind]
  refine O.wpX_mono q fun rs h q => O.wpX_mono (O.wpX_of q) fun r h1 q => ?_
  obtain ⟨rfl, q⟩ := q
  exact q
theorem w_makeX {c g : Nat} {es : List E} (q : xL G X es ss h fun rs h => (G.cf g (.v (.obj h.length) :: rs.map R.arg) (h ++ [.ins c []])).wpX X fun r h1 => r = .v .non ∧ Q (.v (.obj h.length)) h1) : xE G X (.make c g es) ss h Q := by
  simp only [xE_def, xL_def] at *
  rw [evE]
  simp only [O.wpX_bind]
  refine O.wpX_mono q fun rs h q => O.wpX_mono q fun r h1 q => ?_
  obtain ⟨rfl, q⟩ := q
  exact q
theorem w_index {a b : E} (q : xE G X a ss h fun x h => xE G X b ss h fun y h => ∃ xs n, x.rd = .lst xs ∧ y.rd.okN 50 = true ∧ xs.all (D.okN 50) = true ∧ (xs.findIdx? fun z => D.eqb z y.rd) = some n ∧ Q (.v (.int (n : Nat))) h) (hl : ∀ x h', evE G a ss h = .ok x h' → ∃ xs, x.rd = .lst xs) : xE G X (.mt .index a [b]) ss h Q := by
  simp only [xE_def] at *
  rw [evE]
  simp only [O.wpX_bind]
  cases e : evE G a ss h with
  | ok x h1 =>
    rw [e] at q
    obtain ⟨xs, hx⟩ := hl x h1 e
    simp only [O.wpX_ok] at q ⊢
    simp only [hx, mtPre, evL, O.wpX_bind]
    refine O.wpX_mono q fun y h2 q => ?_
    obtain ⟨xs', n, h3, h4, h5, h6, q⟩ := q
    rw [hx] at h3
    cases h3
    simp only [O.wpX_ok, mtR, hx, h4, h5, Bool.and_self, if_true, h6, Option.map_some]
    exact q
  | ex c h1 => rw [e] at q; exact q
  | no => rw [e] at q; exact q
end
/-- a product of two numbers -/
@[irreducible] def MulS (x y : R) (Q : R → Prop) : Prop := ∃ i j, x = .v (.int i) ∧ y = .v (.int j) ∧ mulOk i j = true ∧ Q (.v (.int (i * j)))
theorem MulS_def (x y : R) (Q : R → Prop) : MulS x y Q = ∃ i j, x = .v (.int i) ∧ y = .v (.int j) ∧ mulOk i j = true ∧ Q (.v (.int (i * j))) := by unfold MulS; rfl
theorem ms_mk {i j : Int} {Q : R → Prop} (e : mulOk i j = true) (q : Q (.v (.int (i * j)))) : MulS (.v (.int i)) (.v (.int j)) Q := by rw [MulS_def]; exact ⟨i, j, rfl, rfl, e, q⟩
section
variable {G : Cfg} {X : Nat → MH → Prop} {ss : SS} {h : MH} {r : List S} {Q : Fl → MH → Prop} {f : Str} {j : Nat}
theorem b_fldV {e : E} (q : xE G X e ss h fun x h => ∃ d i h', x.toD = some d ∧ objAt ss j = some i ∧ putV h i f d = some h' ∧ xB G X r ss h' Q) : xB G X (.fldV j f e :: r) ss h Q := by
  refine b_step ?_
  simp only [xE_def, xB_def] at *
  rw [evS]
  simp only [O.wpX_bind]
  refine O.wpX_mono q fun x h q => ?_
  obtain ⟨d, i, h', e1, e2, e3, q⟩ := q
  simp only [e1, e2, e3]
  exact q
theorem b_fldO {e : E} (q : xE G X e ss h fun x h => ∃ xs i h', x = .nl xs ∧ objAt ss j = some i ∧ putO h i f xs = some h' ∧ xB G X r ss h' Q) : xB G X (.fldO j f e :: r) ss h Q := by
  refine b_step ?_
  simp only [xE_def, xB_def] at *
  rw [evS]
  simp only [O.wpX_bind]
  refine O.wpX_mono q fun x h q => ?_
  obtain ⟨d, i, h', rfl, e2, e3, q⟩ := q
  simp only [e2, e3]
  exact q
theorem b_fldSet {i e : E} (q : xE G X e ss h fun x h => ∃ d k a n xs m h', x.toD = some d ∧ simpI ss i = some k ∧ objF ss h j f = some (a, .own n xs) ∧ idxN xs.length k = some m ∧ putL h a f (xs.set m d) = some h' ∧ xB G X r ss h' Q) : xB G X (.fldSet j f i e :: r) ss h Q := by
  refine b_step ?_
  simp only [xE_def, xB_def] at *
  rw [evS]
  simp only [O.wpX_bind]
  refine O.wpX_mono q fun x h q => ?_
  obtain ⟨d, k, a, n, xs, m, h', e1, e2, e3, e4, e5, q⟩ := q
  simp only [e1, e2, e3, e4, e5]
  exact q
theorem b_fldApp {e : E} {a n : Nat} {xs : List D} (e0 : objF ss h j f = some (a, .own n xs)) (q : xE G X e ss h fun x h => ∃ d a' xs' h', x.toD = some d ∧ objF ss h j f = some (a', .own n xs') ∧ small (xs'.length + 1) = true ∧ putL h a' f (xs' ++ [d]) = some h' ∧ xB G X r ss h' Q) : xB G X (.fldApp j f e :: r) ss h Q := by
  refine b_step ?_
  simp only [xE_def, xB_def] at *
  rw [evS, e0]
  simp only [O.wpX_bind]
  refine O.wpX_mono q fun x h q => ?_
  obtain ⟨d, a', xs', h', e1, e2, e3, e4, q⟩ := q
  simp only [e1, e2, e3, and_self, if_true, e4]
  exact q
/-- for i, x in enumerate(o.f): J by the turn; the list stands at every turn -/
theorem b_forF {a n : Nat} {xs : List D} {t : Tg} {b : List S} (J : Nat → SS → MH → Prop) (e0 : objF ss h j f = some (a, .own n xs)) (j0 : J 0 ss h) (hs : ∀ i ss h, i ≤ xs.length → J i ss h → sameF a f (.own n xs) h = true)
    (st : ∀ i d, xs[i]? = some d → ∀ ss h, J i ss h → ∃ ss1, asgT t (.tup [.int (i : Nat), d]) ss = some ss1 ∧ xB G X b ss1 h (FlW (J (i + 1)) fun x h => Q (.rt x) h))
    (q : ∀ ss h, J xs.length ss h → xB G X r ss h Q) : xB G X (.forF .enum j f t b :: r) ss h Q := by
  refine b_step ?_
  rw [evS, e0]
  have hI : itemsR .enum [.nl xs] = some (xs.zipIdx.map fun p => D.tup [.int (p.2 : Nat), p.1]) := rfl
  simp only [hI]
  have main : ∀ (m i : Nat) (ss : SS) (h : MH), xs.length = i + m → J i ss h → (evForF (evB G b) t a f (.own n xs) ((xs.zipIdx.map fun p => D.tup [.int (p.2 : Nat), p.1]).drop i) ss h).wpX X fun fl h => match fl with
      | .nx ss' => xB G X r ss' h Q
      | .rt x => Q (.rt x) h := by
    intro m
    induction m with
    | zero =>
      intro i ss h hm jj
      have hi : i = xs.length := by omega
      rw [List.drop_of_length_le (by simp; omega), evForF, hs i ss h (by omega) jj]
      simp only [if_true, O.wpX_ok]
      exact q ss h (by rw [← hi]; exact jj)
    | succ m ih =>
      intro i ss h hm jj
      have hlt : i < xs.length := by omega
      obtain ⟨ss1, e1, w⟩ := st i xs[i] (by simp [hlt]) ss h jj
      have dr : (xs.zipIdx.map fun p => D.tup [.int (p.2 : Nat), p.1]).drop i = .tup [.int (i : Nat), xs[i]] :: (xs.zipIdx.map fun p => D.tup [.int (p.2 : Nat), p.1]).drop (i + 1) := by
        rw [List.drop_eq_getElem_cons (by simp; omega)]
        simp
      rw [dr, evForF, hs i ss h (by omega) jj]
      simp only [if_true, e1, O.of_some, O.bind_ok, O.wpX_bind]
      rw [xB_def] at w
      refine O.wpX_mono w fun fl h2 w => ?_
      cases fl with
      | nx ss2 => exact ih (i + 1) ss2 h2 (by omega) w
      | rt x => exact w
  have z := main xs.length 0 ss h (by omega) j0
  rw [List.drop_zero] at z
  refine O.wpX_mono z fun fl h2 z => ?_
  cases fl <;> exact z
theorem b_pop {t : Tg} {l : Nat} {xs : List D} {d : D} {ss1 ss' : SS} (e0 : ss[l]? = some (some (.own xs))) (e1 : xs[xs.length - 1]? = some d) (e2 : setSl ss l (.own xs.dropLast) = some ss1) (e3 : asgT t d ss1 = some ss') (q : xB G X r ss' h Q) : xB G X (.pop t l [] :: r) ss h Q := by
  refine b_step ?_
  rw [evS, evL]
  simp only [O.bind_ok, e0, popL, e1, Option.map_some, e2, Option.bind_some, e3]
  exact q
theorem w_mul {a b : E} {Q : R → MH → Prop} (q : xE G X a ss h fun x h => xE G X b ss h fun y h => MulS x y fun z => Q z h) : xE G X (.bin .mul a b) ss h Q := by
  refine w_bin ?_
  simp only [xE_def] at *
  refine O.wpX_mono q fun x h q => O.wpX_mono q fun y h q => ?_
  rw [MulS_def] at q
  obtain ⟨i, j, rfl, rfl, e, q⟩ := q
  exact bw_mul e q
end
theorem sameF_of {i c : Nat} {f : Str} {x : Fd} {fs : List (Str × Fd)} {h : MH} (e : h[i]? = some (.ins c fs)) (l : fs.lookup f = some x) : sameF i f x h = true := by
  unfold sameF
  rw [e]
  simpa using l
end GV
set_option Elab.async false
set_option linter.all false
set_option maxRecDepth 100000
set_option maxHeartbeats 4000000
/-! GA1: boards. -/
namespace GV
open PySem L2
def b_is_integer : List S := [
  .ret (.and (.isi (.v 0) .int) (.and (.not (.isi (.v 0) .bool)) (.chn .le .le (.v 1) (.v 0) (.v 2))))]
def n_is_integer : List Str := ["value", "low", "high"]
def f_is_integer : FD := ⟨3, 3, b_is_integer⟩
def b_are_numbers : List S := [
  .ret (.and (.isi (.v 0) .tuple) (.and (.cmp .eq (.bi .len [(.v 0)]) (.v 1)) (.bi .all [(.comp .seq [(.v 0)] (.n 4) [4] [] (.call 1 [(.v 4), (.v 2), (.v 3)]))])))]
def n_are_numbers : List Str := ["value", "count", "low", "high", "one"]
def f_are_numbers : FD := ⟨5, 4, b_are_numbers⟩
def b_is_exchange : List S := [
  .ifs (.or (.not (.isi (.v 1) .tuple)) (.or (.cmp .ne (.bi .len [(.v 1)]) (.int 2)) (.not (.call 2 [(.ix (.v 1) (.int 0)), (.v 0), (.int 0), (.int 5)])))) [
    .ret (.bl false)] [],
  .ret (.and (.call 2 [(.ix (.v 1) (.int 1)), (.v 0), (.int 0), (.int 5)]) (.cmp .gt (.bi .sum [(.ix (.v 1) (.int 0))]) (.int 0)))]
def n_is_exchange : List Str := ["things", "value"]
def f_is_exchange : FD := ⟨2, 2, b_is_exchange⟩
def b_stands : List S := [
  .ifs (.or (.not (.isi (.v 0) .tuple)) (.or (.cmp .ne (.bi .len [(.v 0)]) (.int 2)) (.not (.call 1 [(.ix (.v 0) (.int 0)), (.int 2), (.int 4)])))) [
    .ret (.bl false)] [],
  .ifs (.or (.not (.isi (.ix (.v 0) (.int 1)) .tuple)) (.cmp .gt (.bi .len [(.ix (.v 0) (.int 1))]) (.int 6))) [
    .ret (.bl false)] [],
  .ret (.bi .all [(.comp .seq [(.ix (.v 0) (.int 1))] (.n 1) [1] [] (.call 3 [(.ix (.v 0) (.int 0)), (.v 1)]))])]
def n_stands : List Str := ["value", "one"]
def f_stands : FD := ⟨2, 1, b_stands⟩
def b_need_board : List S := [
  .ifs (.not (.call 4 [(.v 0)])) [
    .raise 0] []]
def n_need_board : List Str := ["board"]
def f_need_board : FD := ⟨1, 1, b_need_board⟩
def b_net_of : List S := [
  .ret (.bi .tuple [(.comp .zip [(.ix (.v 0) (.int 0)), (.ix (.v 0) (.int 1))] (.t [(.n 1), (.n 2)]) [1, 2] [] (.bin .sub (.v 2) (.v 1)))])]
def n_net_of : List Str := ["exchange", "takes", "gives"]
def f_net_of : FD := ⟨3, 1, b_net_of⟩
def b_all_nets : List S := [
  .ret (.comp .seq [(.ix (.v 0) (.int 1))] (.n 1) [1] [] (.call 14 [(.v 1)]))]
def n_all_nets : List Str := ["board", "one"]
def f_all_nets : FD := ⟨2, 1, b_all_nets⟩
def b_nets : List S := [
  .expr (.call 13 [(.v 0)]),
  .ret (.call 15 [(.v 0)])]
def n_nets : List Str := ["board"]
def f_nets : FD := ⟨1, 1, b_nets⟩
def isInt (lo hi : Int) : D → Bool
  | .int i => decide (lo ≤ i) && decide (i ≤ hi)
  | _ => false
theorem is_integer_eq {p : Pg} (h1 : p.Pt 1 = some f_is_integer) {n : Nat} {d : D} {lo hi : Int} {h : MH} (hd : d.noObj = true) : p.c (n + 1) 1 [.v d, .v (.int lo), .v (.int hi)] h = .ok (.v (.bl (isInt lo hi d))) h := by
  refine O.eq_of (Pg.call_wp h1 rfl ?_)
  unfold f_is_integer b_is_integer
  cases d
  case obj => cases hd
  all_goals
    (repeat' (first | refine w_v rfl ?_ | refine w_int ?_ | refine w_bl ?_ | refine w_non ?_ | refine w_str ?_ | refine w_cons ?_ | refine w_nil ?_ | refine w_bin ?_ | refine w_cmp ?_ | refine w_call ?_ | refine w_bi ?_ | refine w_isi ?_ | refine w_ix ?_ | refine w_and ?_ | refine w_or ?_ | refine w_not ?_ | refine w_chn ?_ | refine w_tup ?_ | refine w_lst ?_ | refine w_ite ?_ | refine w_neg ?_ | refine w_sl ?_ | refine sl_t ?_ | refine sl_n ?_ | refine sl_b ?_ | refine sl_l ?_ | refine w_rev ?_ | refine rv_t ?_ | refine rv_n ?_ | refine rv_l ?_ | refine rv_b ?_ | refine w_onone ?_ | refine w_osome ?_ | refine b_asg ?_ | refine b_ret ?_ | refine b_retN ?_ | refine b_expr ?_ | refine b_pass ?_ | refine b_ifs ?_ | refine b_for ?_ | refine b_asgO ?_ | refine b_asgR ?_ | refine bw_add ?_ | refine bw_sub ?_ | refine cw_lt ?_ | refine cw_le ?_ | refine cw_gt ?_ | refine cw_ge ?_ | refine cw_eqI ?_ | refine cw_neI ?_ | refine bl_w ?_ | refine if_t ?_ | refine if_f ?_ | refine if_s (fun _ => ?_) (fun _ => ?_) | refine w_comp ?_ | refine b_nil ?_ | refine b_par ?_ | refine b_par2 ?_ | refine b_appO rfl ?_ | refine b_extO rfl ?_ | refine fl_rt ?_ | refine fl_nx ?_ | refine And.intro (by assumption) ?_ | refine And.intro rfl ?_ | refine ⟨_, rfl, ?_⟩ | refine ⟨_, _, rfl, rfl, ?_⟩ | refine ⟨_, rfl, rfl, ?_⟩ | refine ⟨_, _, _, rfl, rfl, rfl, ?_⟩ | refine ⟨_, _, _, rfl, rfl, atD0, ?_⟩ | refine ⟨_, _, _, rfl, rfl, atD1, ?_⟩ | refine ⟨_, _, rfl, rfl, rfl, ?_⟩ | refine for_cons rfl ?_ | refine for_nil ?_ | dsimp only))
    all_goals try simp_all [isInt]
  all_goals try omega
theorem noObj_of {n : Nat} {d : D} (h : d.okN n = true) : d.noObj = true := by cases d <;> simp [D.okN, D.noObj] at h ⊢
theorem ok_tup {n : Nat} {xs : List D} (h : (D.tup xs).okN n = true) : ∃ m, n = m + 1 ∧ ∀ x ∈ xs, x.okN m = true := by
  cases n with
  | zero => simp [D.okN] at h
  | succ m => exact ⟨m, rfl, by simpa [D.okN] using h⟩
theorem ok_lst {n : Nat} {xs : List D} (h : (D.lst xs).okN n = true) : ∃ m, n = m + 1 ∧ ∀ x ∈ xs, x.okN m = true := by
  cases n with
  | zero => simp [D.okN] at h
  | succ m => exact ⟨m, rfl, by simpa [D.okN] using h⟩
theorem bls_map {f : D → Bool} : ∀ {xs : List D}, bls? (xs.map fun d => .bl (f d)) = some (xs.map f)
  | [] => rfl
  | x :: xs => by simp [bls?, bls_map]
def areNum (c : Int) (lo hi : Int) : D → Bool
  | .tup xs => decide ((xs.length : Int) = c) && xs.all (isInt lo hi)
  | _ => false
theorem are_numbers_eq {p : Pg} (h1 : p.Pt 1 = some f_is_integer) (h2 : p.Pt 2 = some f_are_numbers) {n m : Nat} {d : D} {c lo hi : Int} {h : MH} (hd : d.okN m = true) (hc : c ≤ 1000000) : p.c (n + 2) 2 [.v d, .v (.int c), .v (.int lo), .v (.int hi)] h = .ok (.v (.bl (areNum c lo hi d))) h := by
  refine O.eq_of (Pg.call_wp h2 rfl ?_)
  unfold f_are_numbers b_are_numbers
  have hn := noObj_of hd
  cases d
  case obj => cases hn
  case tup xs =>
    obtain ⟨m, rfl, hx⟩ := ok_tup hd
    (repeat' (first | refine w_v rfl ?_ | refine w_int ?_ | refine w_bl ?_ | refine w_non ?_ | refine w_str ?_ | refine w_cons ?_ | refine w_nil ?_ | refine w_bin ?_ | refine w_cmp ?_ | refine w_call ?_ | refine w_bi ?_ | refine w_isi ?_ | refine w_ix ?_ | refine w_and ?_ | refine w_or ?_ | refine w_not ?_ | refine w_chn ?_ | refine w_tup ?_ | refine w_lst ?_ | refine w_ite ?_ | refine w_neg ?_ | refine w_sl ?_ | refine sl_t ?_ | refine sl_n ?_ | refine sl_b ?_ | refine sl_l ?_ | refine w_rev ?_ | refine rv_t ?_ | refine rv_n ?_ | refine rv_l ?_ | refine rv_b ?_ | refine w_onone ?_ | refine w_osome ?_ | refine b_asg ?_ | refine b_ret ?_ | refine b_retN ?_ | refine b_expr ?_ | refine b_pass ?_ | refine b_ifs ?_ | refine b_for ?_ | refine b_asgO ?_ | refine b_asgR ?_ | refine bw_add ?_ | refine bw_sub ?_ | refine cw_lt ?_ | refine cw_le ?_ | refine cw_gt ?_ | refine cw_ge ?_ | refine cw_eqI ?_ | refine cw_neI ?_ | refine bl_w ?_ | refine if_t ?_ | refine if_f ?_ | refine if_s (fun _ => ?_) (fun _ => ?_) | refine w_comp ?_ | refine b_nil ?_ | refine b_par ?_ | refine b_par2 ?_ | refine b_appO rfl ?_ | refine b_extO rfl ?_ | refine fl_rt ?_ | refine fl_nx ?_ | refine And.intro (by assumption) ?_ | refine And.intro rfl ?_ | refine ⟨_, rfl, ?_⟩ | refine ⟨_, _, rfl, rfl, ?_⟩ | refine ⟨_, rfl, rfl, ?_⟩ | refine ⟨_, _, _, rfl, rfl, rfl, ?_⟩ | refine ⟨_, _, _, rfl, rfl, atD0, ?_⟩ | refine ⟨_, _, _, rfl, rfl, atD1, ?_⟩ | refine ⟨_, _, rfl, rfl, rfl, ?_⟩ | refine for_cons rfl ?_ | refine for_nil ?_ | dsimp only))
    · rename_i q
      have q' : (xs.length : Int) = c := by simpa using q
      refine c_pure (fun d => .bl (isInt lo hi d)) (fun d hd => ⟨_, rfl, ?_⟩) (by omega) ?_
      · (repeat' (first | refine w_v rfl ?_ | refine w_int ?_ | refine w_bl ?_ | refine w_non ?_ | refine w_str ?_ | refine w_cons ?_ | refine w_nil ?_ | refine w_bin ?_ | refine w_cmp ?_ | refine w_call ?_ | refine w_bi ?_ | refine w_isi ?_ | refine w_ix ?_ | refine w_and ?_ | refine w_or ?_ | refine w_not ?_ | refine w_chn ?_ | refine w_tup ?_ | refine w_lst ?_ | refine w_ite ?_ | refine w_neg ?_ | refine w_sl ?_ | refine sl_t ?_ | refine sl_n ?_ | refine sl_b ?_ | refine sl_l ?_ | refine w_rev ?_ | refine rv_t ?_ | refine rv_n ?_ | refine rv_l ?_ | refine rv_b ?_ | refine w_onone ?_ | refine w_osome ?_ | refine b_asg ?_ | refine b_ret ?_ | refine b_retN ?_ | refine b_expr ?_ | refine b_pass ?_ | refine b_ifs ?_ | refine b_for ?_ | refine b_asgO ?_ | refine b_asgR ?_ | refine bw_add ?_ | refine bw_sub ?_ | refine cw_lt ?_ | refine cw_le ?_ | refine cw_gt ?_ | refine cw_ge ?_ | refine cw_eqI ?_ | refine cw_neI ?_ | refine bl_w ?_ | refine if_t ?_ | refine if_f ?_ | refine w_comp ?_ | refine b_nil ?_ | refine b_par ?_ | refine b_par2 ?_ | refine b_appO rfl ?_ | refine b_extO rfl ?_ | refine fl_rt ?_ | refine fl_nx ?_ | refine And.intro (by assumption) ?_ | refine And.intro rfl ?_ | refine ⟨_, rfl, ?_⟩ | refine ⟨_, _, rfl, rfl, ?_⟩ | refine ⟨_, rfl, rfl, ?_⟩ | refine ⟨_, _, _, rfl, rfl, rfl, ?_⟩ | refine ⟨_, _, _, rfl, rfl, atD0, ?_⟩ | refine ⟨_, _, _, rfl, rfl, atD1, ?_⟩ | refine ⟨_, _, rfl, rfl, rfl, ?_⟩ | refine for_cons rfl ?_ | refine for_nil ?_ | dsimp only))
        refine O.wp_eq (is_integer_eq h1 (noObj_of (hx d hd))) ⟨rfl, rfl⟩
      · (repeat' (first | refine w_v rfl ?_ | refine w_int ?_ | refine w_bl ?_ | refine w_non ?_ | refine w_str ?_ | refine w_cons ?_ | refine w_nil ?_ | refine w_bin ?_ | refine w_cmp ?_ | refine w_call ?_ | refine w_bi ?_ | refine w_isi ?_ | refine w_ix ?_ | refine w_and ?_ | refine w_or ?_ | refine w_not ?_ | refine w_chn ?_ | refine w_tup ?_ | refine w_lst ?_ | refine w_ite ?_ | refine w_neg ?_ | refine w_sl ?_ | refine sl_t ?_ | refine sl_n ?_ | refine sl_b ?_ | refine sl_l ?_ | refine w_rev ?_ | refine rv_t ?_ | refine rv_n ?_ | refine rv_l ?_ | refine rv_b ?_ | refine w_onone ?_ | refine w_osome ?_ | refine b_asg ?_ | refine b_ret ?_ | refine b_retN ?_ | refine b_expr ?_ | refine b_pass ?_ | refine b_ifs ?_ | refine b_for ?_ | refine b_asgO ?_ | refine b_asgR ?_ | refine bw_add ?_ | refine bw_sub ?_ | refine cw_lt ?_ | refine cw_le ?_ | refine cw_gt ?_ | refine cw_ge ?_ | refine cw_eqI ?_ | refine cw_neI ?_ | refine bl_w ?_ | refine if_t ?_ | refine if_f ?_ | refine w_comp ?_ | refine b_nil ?_ | refine b_par ?_ | refine b_par2 ?_ | refine b_appO rfl ?_ | refine b_extO rfl ?_ | refine fl_rt ?_ | refine fl_nx ?_ | refine And.intro (by assumption) ?_ | refine And.intro rfl ?_ | refine ⟨_, rfl, ?_⟩ | refine ⟨_, _, rfl, rfl, ?_⟩ | refine ⟨_, rfl, rfl, ?_⟩ | refine ⟨_, _, _, rfl, rfl, rfl, ?_⟩ | refine ⟨_, _, _, rfl, rfl, atD0, ?_⟩ | refine ⟨_, _, _, rfl, rfl, atD1, ?_⟩ | refine ⟨_, _, rfl, rfl, rfl, ?_⟩ | refine for_cons rfl ?_ | refine for_nil ?_ | dsimp only))
        refine ⟨.v (.bl ((xs.map (isInt lo hi)).all id)), by simp [biR, R.rd, bls_map], ?_⟩
        (repeat' (first | refine w_v rfl ?_ | refine w_int ?_ | refine w_bl ?_ | refine w_non ?_ | refine w_str ?_ | refine w_cons ?_ | refine w_nil ?_ | refine w_bin ?_ | refine w_cmp ?_ | refine w_call ?_ | refine w_bi ?_ | refine w_isi ?_ | refine w_ix ?_ | refine w_and ?_ | refine w_or ?_ | refine w_not ?_ | refine w_chn ?_ | refine w_tup ?_ | refine w_lst ?_ | refine w_ite ?_ | refine w_neg ?_ | refine w_sl ?_ | refine sl_t ?_ | refine sl_n ?_ | refine sl_b ?_ | refine sl_l ?_ | refine w_rev ?_ | refine rv_t ?_ | refine rv_n ?_ | refine rv_l ?_ | refine rv_b ?_ | refine w_onone ?_ | refine w_osome ?_ | refine b_asg ?_ | refine b_ret ?_ | refine b_retN ?_ | refine b_expr ?_ | refine b_pass ?_ | refine b_ifs ?_ | refine b_for ?_ | refine b_asgO ?_ | refine b_asgR ?_ | refine bw_add ?_ | refine bw_sub ?_ | refine cw_lt ?_ | refine cw_le ?_ | refine cw_gt ?_ | refine cw_ge ?_ | refine cw_eqI ?_ | refine cw_neI ?_ | refine bl_w ?_ | refine if_t ?_ | refine if_f ?_ | refine w_comp ?_ | refine b_nil ?_ | refine b_par ?_ | refine b_par2 ?_ | refine b_appO rfl ?_ | refine b_extO rfl ?_ | refine fl_rt ?_ | refine fl_nx ?_ | refine And.intro (by assumption) ?_ | refine And.intro rfl ?_ | refine ⟨_, rfl, ?_⟩ | refine ⟨_, _, rfl, rfl, ?_⟩ | refine ⟨_, rfl, rfl, ?_⟩ | refine ⟨_, _, _, rfl, rfl, rfl, ?_⟩ | refine ⟨_, _, _, rfl, rfl, atD0, ?_⟩ | refine ⟨_, _, _, rfl, rfl, atD1, ?_⟩ | refine ⟨_, _, rfl, rfl, rfl, ?_⟩ | refine for_cons rfl ?_ | refine for_nil ?_ | dsimp only))
        simp [areNum, q']
    · simp_all [areNum]
  all_goals
    (repeat' (first | refine w_v rfl ?_ | refine w_int ?_ | refine w_bl ?_ | refine w_non ?_ | refine w_str ?_ | refine w_cons ?_ | refine w_nil ?_ | refine w_bin ?_ | refine w_cmp ?_ | refine w_call ?_ | refine w_bi ?_ | refine w_isi ?_ | refine w_ix ?_ | refine w_and ?_ | refine w_or ?_ | refine w_not ?_ | refine w_chn ?_ | refine w_tup ?_ | refine w_lst ?_ | refine w_ite ?_ | refine w_neg ?_ | refine w_sl ?_ | refine sl_t ?_ | refine sl_n ?_ | refine sl_b ?_ | refine sl_l ?_ | refine w_rev ?_ | refine rv_t ?_ | refine rv_n ?_ | refine rv_l ?_ | refine rv_b ?_ | refine w_onone ?_ | refine w_osome ?_ | refine b_asg ?_ | refine b_ret ?_ | refine b_retN ?_ | refine b_expr ?_ | refine b_pass ?_ | refine b_ifs ?_ | refine b_for ?_ | refine b_asgO ?_ | refine b_asgR ?_ | refine bw_add ?_ | refine bw_sub ?_ | refine cw_lt ?_ | refine cw_le ?_ | refine cw_gt ?_ | refine cw_ge ?_ | refine cw_eqI ?_ | refine cw_neI ?_ | refine bl_w ?_ | refine if_t ?_ | refine if_f ?_ | refine if_s (fun _ => ?_) (fun _ => ?_) | refine w_comp ?_ | refine b_nil ?_ | refine b_par ?_ | refine b_par2 ?_ | refine b_appO rfl ?_ | refine b_extO rfl ?_ | refine fl_rt ?_ | refine fl_nx ?_ | refine And.intro (by assumption) ?_ | refine And.intro rfl ?_ | refine ⟨_, rfl, ?_⟩ | refine ⟨_, _, rfl, rfl, ?_⟩ | refine ⟨_, rfl, rfl, ?_⟩ | refine ⟨_, _, _, rfl, rfl, rfl, ?_⟩ | refine ⟨_, _, _, rfl, rfl, atD0, ?_⟩ | refine ⟨_, _, _, rfl, rfl, atD1, ?_⟩ | refine ⟨_, _, rfl, rfl, rfl, ?_⟩ | refine for_cons rfl ?_ | refine for_nil ?_ | dsimp only))
    all_goals simp_all [areNum]
theorem allInt {lo hi : Int} : ∀ {xs : List D}, xs.all (isInt lo hi) = true → ∃ ns : List Int, xs = ns.map .int ∧ ∀ i ∈ ns, lo ≤ i ∧ i ≤ hi
  | [], _ => ⟨[], rfl, by simp⟩
  | x :: xs, h => by
    simp only [List.all_cons, Bool.and_eq_true] at h
    obtain ⟨ns, rfl, q⟩ := allInt h.2
    have h1 := h.1
    cases x with
    | int i =>
      simp only [isInt, Bool.and_eq_true, decide_eq_true_eq] at h1
      exact ⟨i :: ns, rfl, by simpa using ⟨h1, q⟩⟩
    | _ => simp [isInt] at h1
theorem ints_map : ∀ {ns : List Int}, ints? (ns.map .int) = some ns
  | [] => rfl
  | n :: ns => by simp [ints?, ints_map]
theorem num_ints {c lo hi : Int} {d : D} (h : areNum c lo hi d = true) : ∃ ns : List Int, d = .tup (ns.map .int) ∧ (ns.length : Int) = c ∧ ∀ i ∈ ns, lo ≤ i ∧ i ≤ hi := by
  cases d with
  | tup xs =>
    simp only [areNum, Bool.and_eq_true, decide_eq_true_eq] at h
    obtain ⟨ns, rfl, q⟩ := allInt h.2
    exact ⟨ns, rfl, by simpa using h.1, q⟩
  | _ => simp [areNum] at h
def sumD : D → Int
  | .tup xs => ((ints? xs).getD []).sum
  | _ => 0
def isEx (t : Int) : D → Bool
  | .tup [a, b] => areNum t 0 5 a && (areNum t 0 5 b && decide (0 < sumD a))
  | _ => false
theorem len2 {α : Type} {xs : List α} (h : xs.length = 2) : ∃ a b, xs = [a, b] := by
  match xs, h with
  | [a, b], _ => exact ⟨a, b, rfl⟩
theorem isEx_len {t : Int} {xs : List D} (h : xs.length ≠ 2) : isEx t (.tup xs) = false := by
  unfold isEx
  split
  · rename_i e; cases e; simp at h
  · rfl
theorem is_exchange_eq {p : Pg} (h1 : p.Pt 1 = some f_is_integer) (h2 : p.Pt 2 = some f_are_numbers) (h3 : p.Pt 3 = some f_is_exchange) {n m : Nat} {d : D} {t : Int} {h : MH} (hd : d.okN m = true) (hc : t ≤ 1000000) : p.c (n + 3) 3 [.v (.int t), .v d] h = .ok (.v (.bl (isEx t d))) h := by
  refine O.eq_of (Pg.call_wp h3 rfl ?_)
  unfold f_is_exchange b_is_exchange
  have hn := noObj_of hd
  cases d
  case obj => cases hn
  case tup xs =>
    obtain ⟨m, rfl, hx⟩ := ok_tup hd
    by_cases hl : xs.length = 2
    · obtain ⟨a, b, rfl⟩ := len2 hl
      have ha : a.okN m = true := hx a (by simp)
      have hb : b.okN m = true := hx b (by simp)
      (repeat' (first | refine w_v rfl ?_ | refine w_int ?_ | refine w_bl ?_ | refine w_non ?_ | refine w_str ?_ | refine w_cons ?_ | refine w_nil ?_ | refine w_bin ?_ | refine w_cmp ?_ | refine w_call ?_ | refine w_bi ?_ | refine w_isi ?_ | refine w_ix ?_ | refine w_and ?_ | refine w_or ?_ | refine w_not ?_ | refine w_chn ?_ | refine w_tup ?_ | refine w_lst ?_ | refine w_ite ?_ | refine w_neg ?_ | refine w_sl ?_ | refine sl_t ?_ | refine sl_n ?_ | refine sl_b ?_ | refine sl_l ?_ | refine w_rev ?_ | refine rv_t ?_ | refine rv_n ?_ | refine rv_l ?_ | refine rv_b ?_ | refine w_onone ?_ | refine w_osome ?_ | refine b_asg ?_ | refine b_ret ?_ | refine b_retN ?_ | refine b_expr ?_ | refine b_pass ?_ | refine b_ifs ?_ | refine b_for ?_ | refine b_asgO ?_ | refine b_asgR ?_ | refine bw_add ?_ | refine bw_sub ?_ | refine cw_lt ?_ | refine cw_le ?_ | refine cw_gt ?_ | refine cw_ge ?_ | refine cw_eqI ?_ | refine cw_neI ?_ | refine bl_w ?_ | refine if_t ?_ | refine if_f ?_ | refine if_s (fun _ => ?_) (fun _ => ?_) | refine w_comp ?_ | refine b_nil ?_ | refine b_par ?_ | refine b_par2 ?_ | refine b_appO rfl ?_ | refine b_extO rfl ?_ | refine fl_rt ?_ | refine fl_nx ?_ | refine And.intro (by assumption) ?_ | refine And.intro rfl ?_ | refine ⟨_, rfl, ?_⟩ | refine ⟨_, _, rfl, rfl, ?_⟩ | refine ⟨_, rfl, rfl, ?_⟩ | refine ⟨_, _, _, rfl, rfl, rfl, ?_⟩ | refine ⟨_, _, _, rfl, rfl, atD0, ?_⟩ | refine ⟨_, _, _, rfl, rfl, atD1, ?_⟩ | refine ⟨_, _, rfl, rfl, rfl, ?_⟩ | refine for_cons rfl ?_ | refine for_nil ?_ | dsimp only))
      refine O.wp_eq (are_numbers_eq h1 h2 ha hc) ?_
      (repeat' (first | refine w_v rfl ?_ | refine w_int ?_ | refine w_bl ?_ | refine w_non ?_ | refine w_str ?_ | refine w_cons ?_ | refine w_nil ?_ | refine w_bin ?_ | refine w_cmp ?_ | refine w_call ?_ | refine w_bi ?_ | refine w_isi ?_ | refine w_ix ?_ | refine w_and ?_ | refine w_or ?_ | refine w_not ?_ | refine w_chn ?_ | refine w_tup ?_ | refine w_lst ?_ | refine w_ite ?_ | refine w_neg ?_ | refine w_sl ?_ | refine sl_t ?_ | refine sl_n ?_ | refine sl_b ?_ | refine sl_l ?_ | refine w_rev ?_ | refine rv_t ?_ | refine rv_n ?_ | refine rv_l ?_ | refine rv_b ?_ | refine w_onone ?_ | refine w_osome ?_ | refine b_asg ?_ | refine b_ret ?_ | refine b_retN ?_ | refine b_expr ?_ | refine b_pass ?_ | refine b_ifs ?_ | refine b_for ?_ | refine b_asgO ?_ | refine b_asgR ?_ | refine bw_add ?_ | refine bw_sub ?_ | refine cw_lt ?_ | refine cw_le ?_ | refine cw_gt ?_ | refine cw_ge ?_ | refine cw_eqI ?_ | refine cw_neI ?_ | refine bl_w ?_ | refine if_t ?_ | refine if_f ?_ | refine if_s (fun _ => ?_) (fun _ => ?_) | refine w_comp ?_ | refine b_nil ?_ | refine b_par ?_ | refine b_par2 ?_ | refine b_appO rfl ?_ | refine b_extO rfl ?_ | refine fl_rt ?_ | refine fl_nx ?_ | refine And.intro (by assumption) ?_ | refine And.intro rfl ?_ | refine ⟨_, rfl, ?_⟩ | refine ⟨_, _, rfl, rfl, ?_⟩ | refine ⟨_, rfl, rfl, ?_⟩ | refine ⟨_, _, _, rfl, rfl, rfl, ?_⟩ | refine ⟨_, _, _, rfl, rfl, atD0, ?_⟩ | refine ⟨_, _, _, rfl, rfl, atD1, ?_⟩ | refine ⟨_, _, rfl, rfl, rfl, ?_⟩ | refine for_cons rfl ?_ | refine for_nil ?_ | dsimp only))
      · rename_i q
        simp_all [isEx]
      · rename_i q
        refine O.wp_eq (are_numbers_eq h1 h2 hb hc) ?_
        have q' : areNum t 0 5 a = true := by simpa using q
        obtain ⟨ns, rfl, _⟩ := num_ints q'
        (repeat' (first | refine w_v rfl ?_ | refine w_int ?_ | refine w_bl ?_ | refine w_non ?_ | refine w_str ?_ | refine w_cons ?_ | refine w_nil ?_ | refine w_bin ?_ | refine w_cmp ?_ | refine w_call ?_ | refine w_bi ?_ | refine w_isi ?_ | refine w_ix ?_ | refine w_and ?_ | refine w_or ?_ | refine w_not ?_ | refine w_chn ?_ | refine w_tup ?_ | refine w_lst ?_ | refine w_ite ?_ | refine w_neg ?_ | refine w_sl ?_ | refine sl_t ?_ | refine sl_n ?_ | refine sl_b ?_ | refine sl_l ?_ | refine w_rev ?_ | refine rv_t ?_ | refine rv_n ?_ | refine rv_l ?_ | refine rv_b ?_ | refine w_onone ?_ | refine w_osome ?_ | refine b_asg ?_ | refine b_ret ?_ | refine b_retN ?_ | refine b_expr ?_ | refine b_pass ?_ | refine b_ifs ?_ | refine b_for ?_ | refine b_asgO ?_ | refine b_asgR ?_ | refine bw_add ?_ | refine bw_sub ?_ | refine cw_lt ?_ | refine cw_le ?_ | refine cw_gt ?_ | refine cw_ge ?_ | refine cw_eqI ?_ | refine cw_neI ?_ | refine bl_w ?_ | refine if_t ?_ | refine if_f ?_ | refine if_s (fun _ => ?_) (fun _ => ?_) | refine w_comp ?_ | refine b_nil ?_ | refine b_par ?_ | refine b_par2 ?_ | refine b_appO rfl ?_ | refine b_extO rfl ?_ | refine fl_rt ?_ | refine fl_nx ?_ | refine And.intro (by assumption) ?_ | refine And.intro rfl ?_ | refine ⟨_, rfl, ?_⟩ | refine ⟨_, _, rfl, rfl, ?_⟩ | refine ⟨_, rfl, rfl, ?_⟩ | refine ⟨_, _, _, rfl, rfl, rfl, ?_⟩ | refine ⟨_, _, _, rfl, rfl, atD0, ?_⟩ | refine ⟨_, _, _, rfl, rfl, atD1, ?_⟩ | refine ⟨_, _, rfl, rfl, rfl, ?_⟩ | refine for_cons rfl ?_ | refine for_nil ?_ | dsimp only))
        · refine ⟨.v (.int ns.sum), by simp [biR, R.rd, D.seq, ints_map], ?_⟩
          (repeat' (first | refine w_v rfl ?_ | refine w_int ?_ | refine w_bl ?_ | refine w_non ?_ | refine w_str ?_ | refine w_cons ?_ | refine w_nil ?_ | refine w_bin ?_ | refine w_cmp ?_ | refine w_call ?_ | refine w_bi ?_ | refine w_isi ?_ | refine w_ix ?_ | refine w_and ?_ | refine w_or ?_ | refine w_not ?_ | refine w_chn ?_ | refine w_tup ?_ | refine w_lst ?_ | refine w_ite ?_ | refine w_neg ?_ | refine w_sl ?_ | refine sl_t ?_ | refine sl_n ?_ | refine sl_b ?_ | refine sl_l ?_ | refine w_rev ?_ | refine rv_t ?_ | refine rv_n ?_ | refine rv_l ?_ | refine rv_b ?_ | refine w_onone ?_ | refine w_osome ?_ | refine b_asg ?_ | refine b_ret ?_ | refine b_retN ?_ | refine b_expr ?_ | refine b_pass ?_ | refine b_ifs ?_ | refine b_for ?_ | refine b_asgO ?_ | refine b_asgR ?_ | refine bw_add ?_ | refine bw_sub ?_ | refine cw_lt ?_ | refine cw_le ?_ | refine cw_gt ?_ | refine cw_ge ?_ | refine cw_eqI ?_ | refine cw_neI ?_ | refine bl_w ?_ | refine if_t ?_ | refine if_f ?_ | refine w_comp ?_ | refine b_nil ?_ | refine b_par ?_ | refine b_par2 ?_ | refine b_appO rfl ?_ | refine b_extO rfl ?_ | refine fl_rt ?_ | refine fl_nx ?_ | refine And.intro (by assumption) ?_ | refine And.intro rfl ?_ | refine ⟨_, rfl, ?_⟩ | refine ⟨_, _, rfl, rfl, ?_⟩ | refine ⟨_, rfl, rfl, ?_⟩ | refine ⟨_, _, _, rfl, rfl, rfl, ?_⟩ | refine ⟨_, _, _, rfl, rfl, atD0, ?_⟩ | refine ⟨_, _, _, rfl, rfl, atD1, ?_⟩ | refine ⟨_, _, rfl, rfl, rfl, ?_⟩ | refine for_cons rfl ?_ | refine for_nil ?_ | dsimp only))
          simp_all [isEx, sumD, ints_map]
        · simp_all [isEx]
    · have e := isEx_len (t := t) hl
      (repeat' (first | refine w_v rfl ?_ | refine w_int ?_ | refine w_bl ?_ | refine w_non ?_ | refine w_str ?_ | refine w_cons ?_ | refine w_nil ?_ | refine w_bin ?_ | refine w_cmp ?_ | refine w_call ?_ | refine w_bi ?_ | refine w_isi ?_ | refine w_ix ?_ | refine w_and ?_ | refine w_or ?_ | refine w_not ?_ | refine w_chn ?_ | refine w_tup ?_ | refine w_lst ?_ | refine w_ite ?_ | refine w_neg ?_ | refine w_sl ?_ | refine sl_t ?_ | refine sl_n ?_ | refine sl_b ?_ | refine sl_l ?_ | refine w_rev ?_ | refine rv_t ?_ | refine rv_n ?_ | refine rv_l ?_ | refine rv_b ?_ | refine w_onone ?_ | refine w_osome ?_ | refine b_asg ?_ | refine b_ret ?_ | refine b_retN ?_ | refine b_expr ?_ | refine b_pass ?_ | refine b_ifs ?_ | refine b_for ?_ | refine b_asgO ?_ | refine b_asgR ?_ | refine bw_add ?_ | refine bw_sub ?_ | refine cw_lt ?_ | refine cw_le ?_ | refine cw_gt ?_ | refine cw_ge ?_ | refine cw_eqI ?_ | refine cw_neI ?_ | refine bl_w ?_ | refine if_t ?_ | refine if_f ?_ | refine if_s (fun _ => ?_) (fun _ => ?_) | refine w_comp ?_ | refine b_nil ?_ | refine b_par ?_ | refine b_par2 ?_ | refine b_appO rfl ?_ | refine b_extO rfl ?_ | refine fl_rt ?_ | refine fl_nx ?_ | refine And.intro (by assumption) ?_ | refine And.intro rfl ?_ | refine ⟨_, rfl, ?_⟩ | refine ⟨_, _, rfl, rfl, ?_⟩ | refine ⟨_, rfl, rfl, ?_⟩ | refine ⟨_, _, _, rfl, rfl, rfl, ?_⟩ | refine ⟨_, _, _, rfl, rfl, atD0, ?_⟩ | refine ⟨_, _, _, rfl, rfl, atD1, ?_⟩ | refine ⟨_, _, rfl, rfl, rfl, ?_⟩ | refine for_cons rfl ?_ | refine for_nil ?_ | dsimp only))
      all_goals simp_all
      omega
  all_goals
    (repeat' (first | refine w_v rfl ?_ | refine w_int ?_ | refine w_bl ?_ | refine w_non ?_ | refine w_str ?_ | refine w_cons ?_ | refine w_nil ?_ | refine w_bin ?_ | refine w_cmp ?_ | refine w_call ?_ | refine w_bi ?_ | refine w_isi ?_ | refine w_ix ?_ | refine w_and ?_ | refine w_or ?_ | refine w_not ?_ | refine w_chn ?_ | refine w_tup ?_ | refine w_lst ?_ | refine w_ite ?_ | refine w_neg ?_ | refine w_sl ?_ | refine sl_t ?_ | refine sl_n ?_ | refine sl_b ?_ | refine sl_l ?_ | refine w_rev ?_ | refine rv_t ?_ | refine rv_n ?_ | refine rv_l ?_ | refine rv_b ?_ | refine w_onone ?_ | refine w_osome ?_ | refine b_asg ?_ | refine b_ret ?_ | refine b_retN ?_ | refine b_expr ?_ | refine b_pass ?_ | refine b_ifs ?_ | refine b_for ?_ | refine b_asgO ?_ | refine b_asgR ?_ | refine bw_add ?_ | refine bw_sub ?_ | refine cw_lt ?_ | refine cw_le ?_ | refine cw_gt ?_ | refine cw_ge ?_ | refine cw_eqI ?_ | refine cw_neI ?_ | refine bl_w ?_ | refine if_t ?_ | refine if_f ?_ | refine if_s (fun _ => ?_) (fun _ => ?_) | refine w_comp ?_ | refine b_nil ?_ | refine b_par ?_ | refine b_par2 ?_ | refine b_appO rfl ?_ | refine b_extO rfl ?_ | refine fl_rt ?_ | refine fl_nx ?_ | refine And.intro (by assumption) ?_ | refine And.intro rfl ?_ | refine ⟨_, rfl, ?_⟩ | refine ⟨_, _, rfl, rfl, ?_⟩ | refine ⟨_, rfl, rfl, ?_⟩ | refine ⟨_, _, _, rfl, rfl, rfl, ?_⟩ | refine ⟨_, _, _, rfl, rfl, atD0, ?_⟩ | refine ⟨_, _, _, rfl, rfl, atD1, ?_⟩ | refine ⟨_, _, rfl, rfl, rfl, ?_⟩ | refine for_cons rfl ?_ | refine for_nil ?_ | dsimp only))
    all_goals simp_all [isEx]
/-! ### boards -/
def tupI (ns : List Int) : D := .tup (ns.map .int)
abbrev Ex : Type := List Int × List Int
def exD (e : Ex) : D := .tup [tupI e.1, tupI e.2]
def bD (t : Int) (es : List Ex) : D := .tup [.int t, .tup (es.map exD)]
def standsD : D → Bool
  | .tup [.int t, .tup es] => decide (2 ≤ t) && decide (t ≤ 4) && decide (es.length ≤ 6) && es.all (isEx t)
  | _ => false
theorem standsD_len {xs : List D} (h : xs.length ≠ 2) : standsD (.tup xs) = false := by
  unfold standsD
  split
  · rename_i e; cases e; simp at h
  · rfl
theorem stands_eq {p : Pg} (h1 : p.Pt 1 = some f_is_integer) (h2 : p.Pt 2 = some f_are_numbers) (h3 : p.Pt 3 = some f_is_exchange) (h4 : p.Pt 4 = some f_stands) {n m : Nat} {d : D} {h : MH} (hd : d.okN m = true) : p.c (n + 4) 4 [.v d] h = .ok (.v (.bl (standsD d))) h := by
  refine O.eq_of (Pg.call_wp h4 rfl ?_)
  unfold f_stands b_stands
  have hn := noObj_of hd
  cases d
  case obj => cases hn
  case tup xs =>
    obtain ⟨m, rfl, hx⟩ := ok_tup hd
    by_cases hl : xs.length = 2
    · obtain ⟨a, b, rfl⟩ := len2 hl
      have ha : a.okN m = true := hx a (by simp)
      have hb : b.okN m = true := hx b (by simp)
      have hna := noObj_of ha
      have hnb := noObj_of hb
      (repeat' (first | refine w_v rfl ?_ | refine w_int ?_ | refine w_bl ?_ | refine w_non ?_ | refine w_str ?_ | refine w_cons ?_ | refine w_nil ?_ | refine w_bin ?_ | refine w_cmp ?_ | refine w_call ?_ | refine w_bi ?_ | refine w_isi ?_ | refine w_ix ?_ | refine w_and ?_ | refine w_or ?_ | refine w_not ?_ | refine w_chn ?_ | refine w_tup ?_ | refine w_lst ?_ | refine w_ite ?_ | refine w_neg ?_ | refine w_sl ?_ | refine sl_t ?_ | refine sl_n ?_ | refine sl_b ?_ | refine sl_l ?_ | refine w_rev ?_ | refine rv_t ?_ | refine rv_n ?_ | refine rv_l ?_ | refine rv_b ?_ | refine w_onone ?_ | refine w_osome ?_ | refine b_asg ?_ | refine b_ret ?_ | refine b_retN ?_ | refine b_expr ?_ | refine b_pass ?_ | refine b_ifs ?_ | refine b_for ?_ | refine b_asgO ?_ | refine b_asgR ?_ | refine bw_add ?_ | refine bw_sub ?_ | refine cw_lt ?_ | refine cw_le ?_ | refine cw_gt ?_ | refine cw_ge ?_ | refine cw_eqI ?_ | refine cw_neI ?_ | refine bl_w ?_ | refine if_t ?_ | refine if_f ?_ | refine if_s (fun _ => ?_) (fun _ => ?_) | refine w_comp ?_ | refine b_nil ?_ | refine b_par ?_ | refine b_par2 ?_ | refine b_appO rfl ?_ | refine b_extO rfl ?_ | refine fl_rt ?_ | refine fl_nx ?_ | refine And.intro (by assumption) ?_ | refine And.intro rfl ?_ | refine ⟨_, rfl, ?_⟩ | refine ⟨_, _, rfl, rfl, ?_⟩ | refine ⟨_, rfl, rfl, ?_⟩ | refine ⟨_, _, _, rfl, rfl, rfl, ?_⟩ | refine ⟨_, _, _, rfl, rfl, atD0, ?_⟩ | refine ⟨_, _, _, rfl, rfl, atD1, ?_⟩ | refine ⟨_, _, rfl, rfl, rfl, ?_⟩ | refine for_cons rfl ?_ | refine for_nil ?_ | dsimp only))
      refine O.wp_eq (is_integer_eq h1 hna) ?_
      cases a
      case obj => cases hna
      case int t =>
        cases b
        case obj => cases hnb
        case tup es =>
          obtain ⟨m, rfl, hy⟩ := ok_tup hb
          (repeat' (first | refine w_v rfl ?_ | refine w_int ?_ | refine w_bl ?_ | refine w_non ?_ | refine w_str ?_ | refine w_cons ?_ | refine w_nil ?_ | refine w_bin ?_ | refine w_cmp ?_ | refine w_call ?_ | refine w_bi ?_ | refine w_isi ?_ | refine w_ix ?_ | refine w_and ?_ | refine w_or ?_ | refine w_not ?_ | refine w_chn ?_ | refine w_tup ?_ | refine w_lst ?_ | refine w_ite ?_ | refine w_neg ?_ | refine w_sl ?_ | refine sl_t ?_ | refine sl_n ?_ | refine sl_b ?_ | refine sl_l ?_ | refine w_rev ?_ | refine rv_t ?_ | refine rv_n ?_ | refine rv_l ?_ | refine rv_b ?_ | refine w_onone ?_ | refine w_osome ?_ | refine b_asg ?_ | refine b_ret ?_ | refine b_retN ?_ | refine b_expr ?_ | refine b_pass ?_ | refine b_ifs ?_ | refine b_for ?_ | refine b_asgO ?_ | refine b_asgR ?_ | refine bw_add ?_ | refine bw_sub ?_ | refine cw_lt ?_ | refine cw_le ?_ | refine cw_gt ?_ | refine cw_ge ?_ | refine cw_eqI ?_ | refine cw_neI ?_ | refine bl_w ?_ | refine if_t ?_ | refine if_f ?_ | refine if_s (fun _ => ?_) (fun _ => ?_) | refine w_comp ?_ | refine b_nil ?_ | refine b_par ?_ | refine b_par2 ?_ | refine b_appO rfl ?_ | refine b_extO rfl ?_ | refine fl_rt ?_ | refine fl_nx ?_ | refine And.intro (by assumption) ?_ | refine And.intro rfl ?_ | refine ⟨_, rfl, ?_⟩ | refine ⟨_, _, rfl, rfl, ?_⟩ | refine ⟨_, rfl, rfl, ?_⟩ | refine ⟨_, _, _, rfl, rfl, rfl, ?_⟩ | refine ⟨_, _, _, rfl, rfl, atD0, ?_⟩ | refine ⟨_, _, _, rfl, rfl, atD1, ?_⟩ | refine ⟨_, _, rfl, rfl, rfl, ?_⟩ | refine for_cons rfl ?_ | refine for_nil ?_ | dsimp only))
          · rename_i q
            have q' : isInt 2 4 (.int t) = false := by simpa using q
            simp only [isInt] at q'
            simp [standsD, q']
          · rename_i q q2
            have q' : (6 : Int) < es.length := by simpa using q2
            have : ¬ es.length ≤ 6 := by omega
            simp [standsD, this]
          · rename_i q q2
            have q' : ¬ (6 : Int) < es.length := by simpa using q2
            have q3 : isInt 2 4 (.int t) = true := by simpa using q
            have q4 := q3
            simp only [isInt, Bool.and_eq_true, decide_eq_true_eq] at q4
            refine c_pure (fun d => .bl (isEx t d)) (fun d hd => ⟨_, rfl, ?_⟩) (by omega) ?_
            · (repeat' (first | refine w_v rfl ?_ | refine w_int ?_ | refine w_bl ?_ | refine w_non ?_ | refine w_str ?_ | refine w_cons ?_ | refine w_nil ?_ | refine w_bin ?_ | refine w_cmp ?_ | refine w_call ?_ | refine w_bi ?_ | refine w_isi ?_ | refine w_ix ?_ | refine w_and ?_ | refine w_or ?_ | refine w_not ?_ | refine w_chn ?_ | refine w_tup ?_ | refine w_lst ?_ | refine w_ite ?_ | refine w_neg ?_ | refine w_sl ?_ | refine sl_t ?_ | refine sl_n ?_ | refine sl_b ?_ | refine sl_l ?_ | refine w_rev ?_ | refine rv_t ?_ | refine rv_n ?_ | refine rv_l ?_ | refine rv_b ?_ | refine w_onone ?_ | refine w_osome ?_ | refine b_asg ?_ | refine b_ret ?_ | refine b_retN ?_ | refine b_expr ?_ | refine b_pass ?_ | refine b_ifs ?_ | refine b_for ?_ | refine b_asgO ?_ | refine b_asgR ?_ | refine bw_add ?_ | refine bw_sub ?_ | refine cw_lt ?_ | refine cw_le ?_ | refine cw_gt ?_ | refine cw_ge ?_ | refine cw_eqI ?_ | refine cw_neI ?_ | refine bl_w ?_ | refine if_t ?_ | refine if_f ?_ | refine w_comp ?_ | refine b_nil ?_ | refine b_par ?_ | refine b_par2 ?_ | refine b_appO rfl ?_ | refine b_extO rfl ?_ | refine fl_rt ?_ | refine fl_nx ?_ | refine And.intro (by assumption) ?_ | refine And.intro rfl ?_ | refine ⟨_, rfl, ?_⟩ | refine ⟨_, _, rfl, rfl, ?_⟩ | refine ⟨_, rfl, rfl, ?_⟩ | refine ⟨_, _, _, rfl, rfl, rfl, ?_⟩ | refine ⟨_, _, _, rfl, rfl, atD0, ?_⟩ | refine ⟨_, _, _, rfl, rfl, atD1, ?_⟩ | refine ⟨_, _, rfl, rfl, rfl, ?_⟩ | refine for_cons rfl ?_ | refine for_nil ?_ | dsimp only))
              exact O.wp_eq (is_exchange_eq h1 h2 h3 (hy d hd) (by omega)) ⟨rfl, rfl⟩
            · (repeat' (first | refine w_v rfl ?_ | refine w_int ?_ | refine w_bl ?_ | refine w_non ?_ | refine w_str ?_ | refine w_cons ?_ | refine w_nil ?_ | refine w_bin ?_ | refine w_cmp ?_ | refine w_call ?_ | refine w_bi ?_ | refine w_isi ?_ | refine w_ix ?_ | refine w_and ?_ | refine w_or ?_ | refine w_not ?_ | refine w_chn ?_ | refine w_tup ?_ | refine w_lst ?_ | refine w_ite ?_ | refine w_neg ?_ | refine w_sl ?_ | refine sl_t ?_ | refine sl_n ?_ | refine sl_b ?_ | refine sl_l ?_ | refine w_rev ?_ | refine rv_t ?_ | refine rv_n ?_ | refine rv_l ?_ | refine rv_b ?_ | refine w_onone ?_ | refine w_osome ?_ | refine b_asg ?_ | refine b_ret ?_ | refine b_retN ?_ | refine b_expr ?_ | refine b_pass ?_ | refine b_ifs ?_ | refine b_for ?_ | refine b_asgO ?_ | refine b_asgR ?_ | refine bw_add ?_ | refine bw_sub ?_ | refine cw_lt ?_ | refine cw_le ?_ | refine cw_gt ?_ | refine cw_ge ?_ | refine cw_eqI ?_ | refine cw_neI ?_ | refine bl_w ?_ | refine if_t ?_ | refine if_f ?_ | refine w_comp ?_ | refine b_nil ?_ | refine b_par ?_ | refine b_par2 ?_ | refine b_appO rfl ?_ | refine b_extO rfl ?_ | refine fl_rt ?_ | refine fl_nx ?_ | refine And.intro (by assumption) ?_ | refine And.intro rfl ?_ | refine ⟨_, rfl, ?_⟩ | refine ⟨_, _, rfl, rfl, ?_⟩ | refine ⟨_, rfl, rfl, ?_⟩ | refine ⟨_, _, _, rfl, rfl, rfl, ?_⟩ | refine ⟨_, _, _, rfl, rfl, atD0, ?_⟩ | refine ⟨_, _, _, rfl, rfl, atD1, ?_⟩ | refine ⟨_, _, rfl, rfl, rfl, ?_⟩ | refine for_cons rfl ?_ | refine for_nil ?_ | dsimp only))
              refine ⟨.v (.bl ((es.map (isEx t)).all id)), by simp [biR, R.rd, bls_map], ?_⟩
              (repeat' (first | refine w_v rfl ?_ | refine w_int ?_ | refine w_bl ?_ | refine w_non ?_ | refine w_str ?_ | refine w_cons ?_ | refine w_nil ?_ | refine w_bin ?_ | refine w_cmp ?_ | refine w_call ?_ | refine w_bi ?_ | refine w_isi ?_ | refine w_ix ?_ | refine w_and ?_ | refine w_or ?_ | refine w_not ?_ | refine w_chn ?_ | refine w_tup ?_ | refine w_lst ?_ | refine w_ite ?_ | refine w_neg ?_ | refine w_sl ?_ | refine sl_t ?_ | refine sl_n ?_ | refine sl_b ?_ | refine sl_l ?_ | refine w_rev ?_ | refine rv_t ?_ | refine rv_n ?_ | refine rv_l ?_ | refine rv_b ?_ | refine w_onone ?_ | refine w_osome ?_ | refine b_asg ?_ | refine b_ret ?_ | refine b_retN ?_ | refine b_expr ?_ | refine b_pass ?_ | refine b_ifs ?_ | refine b_for ?_ | refine b_asgO ?_ | refine b_asgR ?_ | refine bw_add ?_ | refine bw_sub ?_ | refine cw_lt ?_ | refine cw_le ?_ | refine cw_gt ?_ | refine cw_ge ?_ | refine cw_eqI ?_ | refine cw_neI ?_ | refine bl_w ?_ | refine if_t ?_ | refine if_f ?_ | refine w_comp ?_ | refine b_nil ?_ | refine b_par ?_ | refine b_par2 ?_ | refine b_appO rfl ?_ | refine b_extO rfl ?_ | refine fl_rt ?_ | refine fl_nx ?_ | refine And.intro (by assumption) ?_ | refine And.intro rfl ?_ | refine ⟨_, rfl, ?_⟩ | refine ⟨_, _, rfl, rfl, ?_⟩ | refine ⟨_, rfl, rfl, ?_⟩ | refine ⟨_, _, _, rfl, rfl, rfl, ?_⟩ | refine ⟨_, _, _, rfl, rfl, atD0, ?_⟩ | refine ⟨_, _, _, rfl, rfl, atD1, ?_⟩ | refine ⟨_, _, rfl, rfl, rfl, ?_⟩ | refine for_cons rfl ?_ | refine for_nil ?_ | dsimp only))
              have : es.length ≤ 6 := by omega
              simp [standsD, q4, this]
        all_goals
          (repeat' (first | refine w_v rfl ?_ | refine w_int ?_ | refine w_bl ?_ | refine w_non ?_ | refine w_str ?_ | refine w_cons ?_ | refine w_nil ?_ | refine w_bin ?_ | refine w_cmp ?_ | refine w_call ?_ | refine w_bi ?_ | refine w_isi ?_ | refine w_ix ?_ | refine w_and ?_ | refine w_or ?_ | refine w_not ?_ | refine w_chn ?_ | refine w_tup ?_ | refine w_lst ?_ | refine w_ite ?_ | refine w_neg ?_ | refine w_sl ?_ | refine sl_t ?_ | refine sl_n ?_ | refine sl_b ?_ | refine sl_l ?_ | refine w_rev ?_ | refine rv_t ?_ | refine rv_n ?_ | refine rv_l ?_ | refine rv_b ?_ | refine w_onone ?_ | refine w_osome ?_ | refine b_asg ?_ | refine b_ret ?_ | refine b_retN ?_ | refine b_expr ?_ | refine b_pass ?_ | refine b_ifs ?_ | refine b_for ?_ | refine b_asgO ?_ | refine b_asgR ?_ | refine bw_add ?_ | refine bw_sub ?_ | refine cw_lt ?_ | refine cw_le ?_ | refine cw_gt ?_ | refine cw_ge ?_ | refine cw_eqI ?_ | refine cw_neI ?_ | refine bl_w ?_ | refine if_t ?_ | refine if_f ?_ | refine if_s (fun _ => ?_) (fun _ => ?_) | refine w_comp ?_ | refine b_nil ?_ | refine b_par ?_ | refine b_par2 ?_ | refine b_appO rfl ?_ | refine b_extO rfl ?_ | refine fl_rt ?_ | refine fl_nx ?_ | refine And.intro (by assumption) ?_ | refine And.intro rfl ?_ | refine ⟨_, rfl, ?_⟩ | refine ⟨_, _, rfl, rfl, ?_⟩ | refine ⟨_, rfl, rfl, ?_⟩ | refine ⟨_, _, _, rfl, rfl, rfl, ?_⟩ | refine ⟨_, _, _, rfl, rfl, atD0, ?_⟩ | refine ⟨_, _, _, rfl, rfl, atD1, ?_⟩ | refine ⟨_, _, rfl, rfl, rfl, ?_⟩ | refine for_cons rfl ?_ | refine for_nil ?_ | dsimp only))
          all_goals simp_all [standsD]
      all_goals
        (repeat' (first | refine w_v rfl ?_ | refine w_int ?_ | refine w_bl ?_ | refine w_non ?_ | refine w_str ?_ | refine w_cons ?_ | refine w_nil ?_ | refine w_bin ?_ | refine w_cmp ?_ | refine w_call ?_ | refine w_bi ?_ | refine w_isi ?_ | refine w_ix ?_ | refine w_and ?_ | refine w_or ?_ | refine w_not ?_ | refine w_chn ?_ | refine w_tup ?_ | refine w_lst ?_ | refine w_ite ?_ | refine w_neg ?_ | refine w_sl ?_ | refine sl_t ?_ | refine sl_n ?_ | refine sl_b ?_ | refine sl_l ?_ | refine w_rev ?_ | refine rv_t ?_ | refine rv_n ?_ | refine rv_l ?_ | refine rv_b ?_ | refine w_onone ?_ | refine w_osome ?_ | refine b_asg ?_ | refine b_ret ?_ | refine b_retN ?_ | refine b_expr ?_ | refine b_pass ?_ | refine b_ifs ?_ | refine b_for ?_ | refine b_asgO ?_ | refine b_asgR ?_ | refine bw_add ?_ | refine bw_sub ?_ | refine cw_lt ?_ | refine cw_le ?_ | refine cw_gt ?_ | refine cw_ge ?_ | refine cw_eqI ?_ | refine cw_neI ?_ | refine bl_w ?_ | refine if_t ?_ | refine if_f ?_ | refine if_s (fun _ => ?_) (fun _ => ?_) | refine w_comp ?_ | refine b_nil ?_ | refine b_par ?_ | refine b_par2 ?_ | refine b_appO rfl ?_ | refine b_extO rfl ?_ | refine fl_rt ?_ | refine fl_nx ?_ | refine And.intro (by assumption) ?_ | refine And.intro rfl ?_ | refine ⟨_, rfl, ?_⟩ | refine ⟨_, _, rfl, rfl, ?_⟩ | refine ⟨_, rfl, rfl, ?_⟩ | refine ⟨_, _, _, rfl, rfl, rfl, ?_⟩ | refine ⟨_, _, _, rfl, rfl, atD0, ?_⟩ | refine ⟨_, _, _, rfl, rfl, atD1, ?_⟩ | refine ⟨_, _, rfl, rfl, rfl, ?_⟩ | refine for_cons rfl ?_ | refine for_nil ?_ | dsimp only))
        all_goals simp_all [standsD, isInt]
    · have e := standsD_len hl
      (repeat' (first | refine w_v rfl ?_ | refine w_int ?_ | refine w_bl ?_ | refine w_non ?_ | refine w_str ?_ | refine w_cons ?_ | refine w_nil ?_ | refine w_bin ?_ | refine w_cmp ?_ | refine w_call ?_ | refine w_bi ?_ | refine w_isi ?_ | refine w_ix ?_ | refine w_and ?_ | refine w_or ?_ | refine w_not ?_ | refine w_chn ?_ | refine w_tup ?_ | refine w_lst ?_ | refine w_ite ?_ | refine w_neg ?_ | refine w_sl ?_ | refine sl_t ?_ | refine sl_n ?_ | refine sl_b ?_ | refine sl_l ?_ | refine w_rev ?_ | refine rv_t ?_ | refine rv_n ?_ | refine rv_l ?_ | refine rv_b ?_ | refine w_onone ?_ | refine w_osome ?_ | refine b_asg ?_ | refine b_ret ?_ | refine b_retN ?_ | refine b_expr ?_ | refine b_pass ?_ | refine b_ifs ?_ | refine b_for ?_ | refine b_asgO ?_ | refine b_asgR ?_ | refine bw_add ?_ | refine bw_sub ?_ | refine cw_lt ?_ | refine cw_le ?_ | refine cw_gt ?_ | refine cw_ge ?_ | refine cw_eqI ?_ | refine cw_neI ?_ | refine bl_w ?_ | refine if_t ?_ | refine if_f ?_ | refine if_s (fun _ => ?_) (fun _ => ?_) | refine w_comp ?_ | refine b_nil ?_ | refine b_par ?_ | refine b_par2 ?_ | refine b_appO rfl ?_ | refine b_extO rfl ?_ | refine fl_rt ?_ | refine fl_nx ?_ | refine And.intro (by assumption) ?_ | refine And.intro rfl ?_ | refine ⟨_, rfl, ?_⟩ | refine ⟨_, _, rfl, rfl, ?_⟩ | refine ⟨_, rfl, rfl, ?_⟩ | refine ⟨_, _, _, rfl, rfl, rfl, ?_⟩ | refine ⟨_, _, _, rfl, rfl, atD0, ?_⟩ | refine ⟨_, _, _, rfl, rfl, atD1, ?_⟩ | refine ⟨_, _, rfl, rfl, rfl, ?_⟩ | refine for_cons rfl ?_ | refine for_nil ?_ | dsimp only))
      all_goals simp_all
      omega
  all_goals
    (repeat' (first | refine w_v rfl ?_ | refine w_int ?_ | refine w_bl ?_ | refine w_non ?_ | refine w_str ?_ | refine w_cons ?_ | refine w_nil ?_ | refine w_bin ?_ | refine w_cmp ?_ | refine w_call ?_ | refine w_bi ?_ | refine w_isi ?_ | refine w_ix ?_ | refine w_and ?_ | refine w_or ?_ | refine w_not ?_ | refine w_chn ?_ | refine w_tup ?_ | refine w_lst ?_ | refine w_ite ?_ | refine w_neg ?_ | refine w_sl ?_ | refine sl_t ?_ | refine sl_n ?_ | refine sl_b ?_ | refine sl_l ?_ | refine w_rev ?_ | refine rv_t ?_ | refine rv_n ?_ | refine rv_l ?_ | refine rv_b ?_ | refine w_onone ?_ | refine w_osome ?_ | refine b_asg ?_ | refine b_ret ?_ | refine b_retN ?_ | refine b_expr ?_ | refine b_pass ?_ | refine b_ifs ?_ | refine b_for ?_ | refine b_asgO ?_ | refine b_asgR ?_ | refine bw_add ?_ | refine bw_sub ?_ | refine cw_lt ?_ | refine cw_le ?_ | refine cw_gt ?_ | refine cw_ge ?_ | refine cw_eqI ?_ | refine cw_neI ?_ | refine bl_w ?_ | refine if_t ?_ | refine if_f ?_ | refine if_s (fun _ => ?_) (fun _ => ?_) | refine w_comp ?_ | refine b_nil ?_ | refine b_par ?_ | refine b_par2 ?_ | refine b_appO rfl ?_ | refine b_extO rfl ?_ | refine fl_rt ?_ | refine fl_nx ?_ | refine And.intro (by assumption) ?_ | refine And.intro rfl ?_ | refine ⟨_, rfl, ?_⟩ | refine ⟨_, _, rfl, rfl, ?_⟩ | refine ⟨_, rfl, rfl, ?_⟩ | refine ⟨_, _, _, rfl, rfl, rfl, ?_⟩ | refine ⟨_, _, _, rfl, rfl, atD0, ?_⟩ | refine ⟨_, _, _, rfl, rfl, atD1, ?_⟩ | refine ⟨_, _, rfl, rfl, rfl, ?_⟩ | refine for_cons rfl ?_ | refine for_nil ?_ | dsimp only))
    all_goals simp_all [standsD]
structure EV (t : Int) (e : Ex) : Prop where
  l1 : (e.1.length : Int) = t
  l2 : (e.2.length : Int) = t
  b1 : ∀ i ∈ e.1, 0 ≤ i ∧ i ≤ 5
  b2 : ∀ i ∈ e.2, 0 ≤ i ∧ i ≤ 5
  s1 : 0 < e.1.sum
structure BV (t : Int) (es : List Ex) : Prop where
  t2 : 2 ≤ t
  t4 : t ≤ 4
  len : es.length ≤ 6
  ex : ∀ e ∈ es, EV t e
theorem ok_tupI {n : Nat} {ns : List Int} : (tupI ns).okN (n + 1) = true := by simp [tupI, D.okN]
theorem ok_exD {n : Nat} {e : Ex} : (exD e).okN (n + 2) = true := by simp [exD, D.okN, ok_tupI]
theorem ok_bD {n : Nat} {t : Int} {es : List Ex} : (bD t es).okN (n + 4) = true := by
  simp only [bD, D.okN, List.all_cons, List.all_nil, Bool.true_and, Bool.and_true, List.all_map, List.all_eq_true]
  intro e _
  exact ok_exD
theorem areNum_tupI {c lo hi : Int} {ns : List Int} (h1 : (ns.length : Int) = c) (h2 : ∀ i ∈ ns, lo ≤ i ∧ i ≤ hi) : areNum c lo hi (tupI ns) = true := by
  simp only [tupI, areNum, List.length_map, h1, decide_true, Bool.true_and, List.all_map, List.all_eq_true]
  intro i hi
  have := h2 i hi
  simp [isInt, this]
theorem isEx_exD {t : Int} {e : Ex} (v : EV t e) : isEx t (exD e) = true := by
  have a := areNum_tupI v.l1 v.b1
  have b := areNum_tupI v.l2 v.b2
  have c := v.s1
  simp only [exD, isEx, a, b, Bool.true_and, decide_eq_true_eq]
  simpa [tupI, sumD, ints_map] using c
theorem stands_bD {t : Int} {es : List Ex} (v : BV t es) : standsD (bD t es) = true := by
  have a := v.t2
  have b := v.t4
  have c := v.len
  simp only [bD, standsD, a, b, List.length_map, c, decide_true, Bool.true_and, List.all_map, List.all_eq_true]
  intro e he
  exact isEx_exD (v.ex e he)
theorem need_board_eq {p : Pg} (h1 : p.Pt 1 = some f_is_integer) (h2 : p.Pt 2 = some f_are_numbers) (h3 : p.Pt 3 = some f_is_exchange) (h4 : p.Pt 4 = some f_stands) (h13 : p.Pt 13 = some f_need_board) {n m : Nat} {d : D} {h : MH} (hd : d.okN m = true) (hs : standsD d = true) : p.c (n + 5) 13 [.v d] h = .ok (.v .non) h := by
  refine O.eq_of (Pg.call_wp h13 rfl ?_)
  unfold f_need_board b_need_board
  (repeat' (first | refine w_v rfl ?_ | refine w_int ?_ | refine w_bl ?_ | refine w_non ?_ | refine w_str ?_ | refine w_cons ?_ | refine w_nil ?_ | refine w_bin ?_ | refine w_cmp ?_ | refine w_call ?_ | refine w_bi ?_ | refine w_isi ?_ | refine w_ix ?_ | refine w_and ?_ | refine w_or ?_ | refine w_not ?_ | refine w_chn ?_ | refine w_tup ?_ | refine w_lst ?_ | refine w_ite ?_ | refine w_neg ?_ | refine w_sl ?_ | refine sl_t ?_ | refine sl_n ?_ | refine sl_b ?_ | refine sl_l ?_ | refine w_rev ?_ | refine rv_t ?_ | refine rv_n ?_ | refine rv_l ?_ | refine rv_b ?_ | refine w_onone ?_ | refine w_osome ?_ | refine b_asg ?_ | refine b_ret ?_ | refine b_retN ?_ | refine b_expr ?_ | refine b_pass ?_ | refine b_ifs ?_ | refine b_for ?_ | refine b_asgO ?_ | refine b_asgR ?_ | refine bw_add ?_ | refine bw_sub ?_ | refine cw_lt ?_ | refine cw_le ?_ | refine cw_gt ?_ | refine cw_ge ?_ | refine cw_eqI ?_ | refine cw_neI ?_ | refine bl_w ?_ | refine if_t ?_ | refine if_f ?_ | refine w_comp ?_ | refine b_nil ?_ | refine b_par ?_ | refine b_par2 ?_ | refine b_appO rfl ?_ | refine b_extO rfl ?_ | refine fl_rt ?_ | refine fl_nx ?_ | refine And.intro (by assumption) ?_ | refine And.intro rfl ?_ | refine ⟨_, rfl, ?_⟩ | refine ⟨_, _, rfl, rfl, ?_⟩ | refine ⟨_, rfl, rfl, ?_⟩ | refine ⟨_, _, _, rfl, rfl, rfl, ?_⟩ | refine ⟨_, _, _, rfl, rfl, atD0, ?_⟩ | refine ⟨_, _, _, rfl, rfl, atD1, ?_⟩ | refine ⟨_, _, rfl, rfl, rfl, ?_⟩ | refine for_cons rfl ?_ | refine for_nil ?_ | dsimp only))
  refine O.wp_eq (stands_eq h1 h2 h3 h4 hd) ?_
  rw [hs]
  (repeat' (first | refine w_v rfl ?_ | refine w_int ?_ | refine w_bl ?_ | refine w_non ?_ | refine w_str ?_ | refine w_cons ?_ | refine w_nil ?_ | refine w_bin ?_ | refine w_cmp ?_ | refine w_call ?_ | refine w_bi ?_ | refine w_isi ?_ | refine w_ix ?_ | refine w_and ?_ | refine w_or ?_ | refine w_not ?_ | refine w_chn ?_ | refine w_tup ?_ | refine w_lst ?_ | refine w_ite ?_ | refine w_neg ?_ | refine w_sl ?_ | refine sl_t ?_ | refine sl_n ?_ | refine sl_b ?_ | refine sl_l ?_ | refine w_rev ?_ | refine rv_t ?_ | refine rv_n ?_ | refine rv_l ?_ | refine rv_b ?_ | refine w_onone ?_ | refine w_osome ?_ | refine b_asg ?_ | refine b_ret ?_ | refine b_retN ?_ | refine b_expr ?_ | refine b_pass ?_ | refine b_ifs ?_ | refine b_for ?_ | refine b_asgO ?_ | refine b_asgR ?_ | refine bw_add ?_ | refine bw_sub ?_ | refine cw_lt ?_ | refine cw_le ?_ | refine cw_gt ?_ | refine cw_ge ?_ | refine cw_eqI ?_ | refine cw_neI ?_ | refine bl_w ?_ | refine if_t ?_ | refine if_f ?_ | refine w_comp ?_ | refine b_nil ?_ | refine b_par ?_ | refine b_par2 ?_ | refine b_appO rfl ?_ | refine b_extO rfl ?_ | refine fl_rt ?_ | refine fl_nx ?_ | refine And.intro (by assumption) ?_ | refine And.intro rfl ?_ | refine ⟨_, rfl, ?_⟩ | refine ⟨_, _, rfl, rfl, ?_⟩ | refine ⟨_, rfl, rfl, ?_⟩ | refine ⟨_, _, _, rfl, rfl, rfl, ?_⟩ | refine ⟨_, _, _, rfl, rfl, atD0, ?_⟩ | refine ⟨_, _, _, rfl, rfl, atD1, ?_⟩ | refine ⟨_, _, rfl, rfl, rfl, ?_⟩ | refine for_cons rfl ?_ | refine for_nil ?_ | dsimp only))
def netL (e : Ex) : List Int := List.zipWith (fun a b => b - a) e.1 e.2
def netD (e : Ex) : D := tupI (netL e)
theorem net_of_eq {p : Pg} (h14 : p.Pt 14 = some f_net_of) {n : Nat} {e : Ex} {h : MH} (hl : e.1.length ≤ 1000000) : p.c (n + 1) 14 [.v (exD e)] h = .ok (.v (netD e)) h := by
  refine O.eq_of (Pg.call_wp h14 rfl ?_)
  unfold f_net_of b_net_of exD tupI
  (repeat' (first | refine w_v rfl ?_ | refine w_int ?_ | refine w_bl ?_ | refine w_non ?_ | refine w_str ?_ | refine w_cons ?_ | refine w_nil ?_ | refine w_bin ?_ | refine w_cmp ?_ | refine w_call ?_ | refine w_bi ?_ | refine w_isi ?_ | refine w_ix ?_ | refine w_and ?_ | refine w_or ?_ | refine w_not ?_ | refine w_chn ?_ | refine w_tup ?_ | refine w_lst ?_ | refine w_ite ?_ | refine w_neg ?_ | refine w_sl ?_ | refine sl_t ?_ | refine sl_n ?_ | refine sl_b ?_ | refine sl_l ?_ | refine w_rev ?_ | refine rv_t ?_ | refine rv_n ?_ | refine rv_l ?_ | refine rv_b ?_ | refine w_onone ?_ | refine w_osome ?_ | refine b_asg ?_ | refine b_ret ?_ | refine b_retN ?_ | refine b_expr ?_ | refine b_pass ?_ | refine b_ifs ?_ | refine b_for ?_ | refine b_asgO ?_ | refine b_asgR ?_ | refine bw_add ?_ | refine bw_sub ?_ | refine cw_lt ?_ | refine cw_le ?_ | refine cw_gt ?_ | refine cw_ge ?_ | refine cw_eqI ?_ | refine cw_neI ?_ | refine bl_w ?_ | refine if_t ?_ | refine if_f ?_ | refine w_comp ?_ | refine b_nil ?_ | refine b_par ?_ | refine b_par2 ?_ | refine b_appO rfl ?_ | refine b_extO rfl ?_ | refine fl_rt ?_ | refine fl_nx ?_ | refine And.intro (by assumption) ?_ | refine And.intro rfl ?_ | refine ⟨_, rfl, ?_⟩ | refine ⟨_, _, rfl, rfl, ?_⟩ | refine ⟨_, rfl, rfl, ?_⟩ | refine ⟨_, _, _, rfl, rfl, rfl, ?_⟩ | refine ⟨_, _, _, rfl, rfl, atD0, ?_⟩ | refine ⟨_, _, _, rfl, rfl, atD1, ?_⟩ | refine ⟨_, _, rfl, rfl, rfl, ?_⟩ | refine for_cons rfl ?_ | refine for_nil ?_ | dsimp only))
  refine c_pure (fun d => match d with | .tup [.int a, .int b] => .int (b - a) | _ => .non) (fun d hd => ?_) ?_ ?_
  · simp only [List.mem_map] at hd
    obtain ⟨⟨x, y⟩, hxy, rfl⟩ := hd
    have hx := (List.of_mem_zip hxy).1
    have hy := (List.of_mem_zip hxy).2
    simp only [List.mem_map] at hx hy
    obtain ⟨a, _, rfl⟩ := hx
    obtain ⟨b, _, rfl⟩ := hy
    refine ⟨_, rfl, ?_⟩
    (repeat' (first | refine w_v rfl ?_ | refine w_int ?_ | refine w_bl ?_ | refine w_non ?_ | refine w_str ?_ | refine w_cons ?_ | refine w_nil ?_ | refine w_bin ?_ | refine w_cmp ?_ | refine w_call ?_ | refine w_bi ?_ | refine w_isi ?_ | refine w_ix ?_ | refine w_and ?_ | refine w_or ?_ | refine w_not ?_ | refine w_chn ?_ | refine w_tup ?_ | refine w_lst ?_ | refine w_ite ?_ | refine w_neg ?_ | refine w_sl ?_ | refine sl_t ?_ | refine sl_n ?_ | refine sl_b ?_ | refine sl_l ?_ | refine w_rev ?_ | refine rv_t ?_ | refine rv_n ?_ | refine rv_l ?_ | refine rv_b ?_ | refine w_onone ?_ | refine w_osome ?_ | refine b_asg ?_ | refine b_ret ?_ | refine b_retN ?_ | refine b_expr ?_ | refine b_pass ?_ | refine b_ifs ?_ | refine b_for ?_ | refine b_asgO ?_ | refine b_asgR ?_ | refine bw_add ?_ | refine bw_sub ?_ | refine cw_lt ?_ | refine cw_le ?_ | refine cw_gt ?_ | refine cw_ge ?_ | refine cw_eqI ?_ | refine cw_neI ?_ | refine bl_w ?_ | refine if_t ?_ | refine if_f ?_ | refine w_comp ?_ | refine b_nil ?_ | refine b_par ?_ | refine b_par2 ?_ | refine b_appO rfl ?_ | refine b_extO rfl ?_ | refine fl_rt ?_ | refine fl_nx ?_ | refine And.intro (by assumption) ?_ | refine And.intro rfl ?_ | refine ⟨_, rfl, ?_⟩ | refine ⟨_, _, rfl, rfl, ?_⟩ | refine ⟨_, rfl, rfl, ?_⟩ | refine ⟨_, _, _, rfl, rfl, rfl, ?_⟩ | refine ⟨_, _, _, rfl, rfl, atD0, ?_⟩ | refine ⟨_, _, _, rfl, rfl, atD1, ?_⟩ | refine ⟨_, _, rfl, rfl, rfl, ?_⟩ | refine for_cons rfl ?_ | refine for_nil ?_ | dsimp only))
  · simp; omega
  · (repeat' (first | refine w_v rfl ?_ | refine w_int ?_ | refine w_bl ?_ | refine w_non ?_ | refine w_str ?_ | refine w_cons ?_ | refine w_nil ?_ | refine w_bin ?_ | refine w_cmp ?_ | refine w_call ?_ | refine w_bi ?_ | refine w_isi ?_ | refine w_ix ?_ | refine w_and ?_ | refine w_or ?_ | refine w_not ?_ | refine w_chn ?_ | refine w_tup ?_ | refine w_lst ?_ | refine w_ite ?_ | refine w_neg ?_ | refine w_sl ?_ | refine sl_t ?_ | refine sl_n ?_ | refine sl_b ?_ | refine sl_l ?_ | refine w_rev ?_ | refine rv_t ?_ | refine rv_n ?_ | refine rv_l ?_ | refine rv_b ?_ | refine w_onone ?_ | refine w_osome ?_ | refine b_asg ?_ | refine b_ret ?_ | refine b_retN ?_ | refine b_expr ?_ | refine b_pass ?_ | refine b_ifs ?_ | refine b_for ?_ | refine b_asgO ?_ | refine b_asgR ?_ | refine bw_add ?_ | refine bw_sub ?_ | refine cw_lt ?_ | refine cw_le ?_ | refine cw_gt ?_ | refine cw_ge ?_ | refine cw_eqI ?_ | refine cw_neI ?_ | refine bl_w ?_ | refine if_t ?_ | refine if_f ?_ | refine w_comp ?_ | refine b_nil ?_ | refine b_par ?_ | refine b_par2 ?_ | refine b_appO rfl ?_ | refine b_extO rfl ?_ | refine fl_rt ?_ | refine fl_nx ?_ | refine And.intro (by assumption) ?_ | refine And.intro rfl ?_ | refine ⟨_, rfl, ?_⟩ | refine ⟨_, _, rfl, rfl, ?_⟩ | refine ⟨_, rfl, rfl, ?_⟩ | refine ⟨_, _, _, rfl, rfl, rfl, ?_⟩ | refine ⟨_, _, _, rfl, rfl, atD0, ?_⟩ | refine ⟨_, _, _, rfl, rfl, atD1, ?_⟩ | refine ⟨_, _, rfl, rfl, rfl, ?_⟩ | refine for_cons rfl ?_ | refine for_nil ?_ | dsimp only))
    simp only [netD, tupI, netL]
    refine ⟨?_, trivial⟩
    congr 2
    generalize e.1 = xs, e.2 = ys
    induction xs generalizing ys with
    | nil => rfl
    | cons x xs ih => cases ys <;> simp_all
theorem all_nets_eq {p : Pg} (h14 : p.Pt 14 = some f_net_of) (h15 : p.Pt 15 = some f_all_nets) {n : Nat} {t : Int} {es : List Ex} {h : MH} (hl : es.length ≤ 1000000) (he : ∀ e ∈ es, e.1.length ≤ 1000000) : p.c (n + 2) 15 [.v (bD t es)] h = .ok (.nl (es.map netD)) h := by
  refine O.eq_of (Pg.call_wp h15 rfl ?_)
  unfold f_all_nets b_all_nets bD
  (repeat' (first | refine w_v rfl ?_ | refine w_int ?_ | refine w_bl ?_ | refine w_non ?_ | refine w_str ?_ | refine w_cons ?_ | refine w_nil ?_ | refine w_bin ?_ | refine w_cmp ?_ | refine w_call ?_ | refine w_bi ?_ | refine w_isi ?_ | refine w_ix ?_ | refine w_and ?_ | refine w_or ?_ | refine w_not ?_ | refine w_chn ?_ | refine w_tup ?_ | refine w_lst ?_ | refine w_ite ?_ | refine w_neg ?_ | refine w_sl ?_ | refine sl_t ?_ | refine sl_n ?_ | refine sl_b ?_ | refine sl_l ?_ | refine w_rev ?_ | refine rv_t ?_ | refine rv_n ?_ | refine rv_l ?_ | refine rv_b ?_ | refine w_onone ?_ | refine w_osome ?_ | refine b_asg ?_ | refine b_ret ?_ | refine b_retN ?_ | refine b_expr ?_ | refine b_pass ?_ | refine b_ifs ?_ | refine b_for ?_ | refine b_asgO ?_ | refine b_asgR ?_ | refine bw_add ?_ | refine bw_sub ?_ | refine cw_lt ?_ | refine cw_le ?_ | refine cw_gt ?_ | refine cw_ge ?_ | refine cw_eqI ?_ | refine cw_neI ?_ | refine bl_w ?_ | refine if_t ?_ | refine if_f ?_ | refine w_comp ?_ | refine b_nil ?_ | refine b_par ?_ | refine b_par2 ?_ | refine b_appO rfl ?_ | refine b_extO rfl ?_ | refine fl_rt ?_ | refine fl_nx ?_ | refine And.intro (by assumption) ?_ | refine And.intro rfl ?_ | refine ⟨_, rfl, ?_⟩ | refine ⟨_, _, rfl, rfl, ?_⟩ | refine ⟨_, rfl, rfl, ?_⟩ | refine ⟨_, _, _, rfl, rfl, rfl, ?_⟩ | refine ⟨_, _, _, rfl, rfl, atD0, ?_⟩ | refine ⟨_, _, _, rfl, rfl, atD1, ?_⟩ | refine ⟨_, _, rfl, rfl, rfl, ?_⟩ | refine for_cons rfl ?_ | refine for_nil ?_ | dsimp only))
  refine c_pure (fun d => match d with | .tup [.tup a, .tup b] => tupI (netL ((ints? a).getD [], (ints? b).getD [])) | _ => .non) (fun d hd => ?_) (by simpa using hl) ?_
  · simp only [List.mem_map] at hd
    obtain ⟨e, hm, rfl⟩ := hd
    refine ⟨_, rfl, ?_⟩
    (repeat' (first | refine w_v rfl ?_ | refine w_int ?_ | refine w_bl ?_ | refine w_non ?_ | refine w_str ?_ | refine w_cons ?_ | refine w_nil ?_ | refine w_bin ?_ | refine w_cmp ?_ | refine w_call ?_ | refine w_bi ?_ | refine w_isi ?_ | refine w_ix ?_ | refine w_and ?_ | refine w_or ?_ | refine w_not ?_ | refine w_chn ?_ | refine w_tup ?_ | refine w_lst ?_ | refine w_ite ?_ | refine w_neg ?_ | refine w_sl ?_ | refine sl_t ?_ | refine sl_n ?_ | refine sl_b ?_ | refine sl_l ?_ | refine w_rev ?_ | refine rv_t ?_ | refine rv_n ?_ | refine rv_l ?_ | refine rv_b ?_ | refine w_onone ?_ | refine w_osome ?_ | refine b_asg ?_ | refine b_ret ?_ | refine b_retN ?_ | refine b_expr ?_ | refine b_pass ?_ | refine b_ifs ?_ | refine b_for ?_ | refine b_asgO ?_ | refine b_asgR ?_ | refine bw_add ?_ | refine bw_sub ?_ | refine cw_lt ?_ | refine cw_le ?_ | refine cw_gt ?_ | refine cw_ge ?_ | refine cw_eqI ?_ | refine cw_neI ?_ | refine bl_w ?_ | refine if_t ?_ | refine if_f ?_ | refine w_comp ?_ | refine b_nil ?_ | refine b_par ?_ | refine b_par2 ?_ | refine b_appO rfl ?_ | refine b_extO rfl ?_ | refine fl_rt ?_ | refine fl_nx ?_ | refine And.intro (by assumption) ?_ | refine And.intro rfl ?_ | refine ⟨_, rfl, ?_⟩ | refine ⟨_, _, rfl, rfl, ?_⟩ | refine ⟨_, rfl, rfl, ?_⟩ | refine ⟨_, _, _, rfl, rfl, rfl, ?_⟩ | refine ⟨_, _, _, rfl, rfl, atD0, ?_⟩ | refine ⟨_, _, _, rfl, rfl, atD1, ?_⟩ | refine ⟨_, _, rfl, rfl, rfl, ?_⟩ | refine for_cons rfl ?_ | refine for_nil ?_ | dsimp only))
    refine O.wp_eq (net_of_eq h14 (he e hm)) ⟨?_, rfl⟩
    simp [R.toD, exD, tupI, ints_map, netD]
  · (repeat' (first | refine w_v rfl ?_ | refine w_int ?_ | refine w_bl ?_ | refine w_non ?_ | refine w_str ?_ | refine w_cons ?_ | refine w_nil ?_ | refine w_bin ?_ | refine w_cmp ?_ | refine w_call ?_ | refine w_bi ?_ | refine w_isi ?_ | refine w_ix ?_ | refine w_and ?_ | refine w_or ?_ | refine w_not ?_ | refine w_chn ?_ | refine w_tup ?_ | refine w_lst ?_ | refine w_ite ?_ | refine w_neg ?_ | refine w_sl ?_ | refine sl_t ?_ | refine sl_n ?_ | refine sl_b ?_ | refine sl_l ?_ | refine w_rev ?_ | refine rv_t ?_ | refine rv_n ?_ | refine rv_l ?_ | refine rv_b ?_ | refine w_onone ?_ | refine w_osome ?_ | refine b_asg ?_ | refine b_ret ?_ | refine b_retN ?_ | refine b_expr ?_ | refine b_pass ?_ | refine b_ifs ?_ | refine b_for ?_ | refine b_asgO ?_ | refine b_asgR ?_ | refine bw_add ?_ | refine bw_sub ?_ | refine cw_lt ?_ | refine cw_le ?_ | refine cw_gt ?_ | refine cw_ge ?_ | refine cw_eqI ?_ | refine cw_neI ?_ | refine bl_w ?_ | refine if_t ?_ | refine if_f ?_ | refine w_comp ?_ | refine b_nil ?_ | refine b_par ?_ | refine b_par2 ?_ | refine b_appO rfl ?_ | refine b_extO rfl ?_ | refine fl_rt ?_ | refine fl_nx ?_ | refine And.intro (by assumption) ?_ | refine And.intro rfl ?_ | refine ⟨_, rfl, ?_⟩ | refine ⟨_, _, rfl, rfl, ?_⟩ | refine ⟨_, rfl, rfl, ?_⟩ | refine ⟨_, _, _, rfl, rfl, rfl, ?_⟩ | refine ⟨_, _, _, rfl, rfl, atD0, ?_⟩ | refine ⟨_, _, _, rfl, rfl, atD1, ?_⟩ | refine ⟨_, _, rfl, rfl, rfl, ?_⟩ | refine for_cons rfl ?_ | refine for_nil ?_ | dsimp only))
    refine ⟨?_, rfl⟩
    congr 1
    simp only [List.map_map]
    refine List.map_congr_left fun e _ => ?_
    simp [exD, tupI, ints_map, netD]
theorem nets_eq {p : Pg} (h1 : p.Pt 1 = some f_is_integer) (h2 : p.Pt 2 = some f_are_numbers) (h3 : p.Pt 3 = some f_is_exchange) (h4 : p.Pt 4 = some f_stands) (h13 : p.Pt 13 = some f_need_board) (h14 : p.Pt 14 = some f_net_of) (h15 : p.Pt 15 = some f_all_nets) (h16 : p.Pt 16 = some f_nets)
    {n : Nat} {t : Int} {es : List Ex} {h : MH} (v : BV t es) : p.c (n + 6) 16 [.v (bD t es)] h = .ok (.nl (es.map netD)) h := by
  refine O.eq_of (Pg.call_wp h16 rfl ?_)
  unfold f_nets b_nets
  (repeat' (first | refine w_v rfl ?_ | refine w_int ?_ | refine w_bl ?_ | refine w_non ?_ | refine w_str ?_ | refine w_cons ?_ | refine w_nil ?_ | refine w_bin ?_ | refine w_cmp ?_ | refine w_call ?_ | refine w_bi ?_ | refine w_isi ?_ | refine w_ix ?_ | refine w_and ?_ | refine w_or ?_ | refine w_not ?_ | refine w_chn ?_ | refine w_tup ?_ | refine w_lst ?_ | refine w_ite ?_ | refine w_neg ?_ | refine w_sl ?_ | refine sl_t ?_ | refine sl_n ?_ | refine sl_b ?_ | refine sl_l ?_ | refine w_rev ?_ | refine rv_t ?_ | refine rv_n ?_ | refine rv_l ?_ | refine rv_b ?_ | refine w_onone ?_ | refine w_osome ?_ | refine b_asg ?_ | refine b_ret ?_ | refine b_retN ?_ | refine b_expr ?_ | refine b_pass ?_ | refine b_ifs ?_ | refine b_for ?_ | refine b_asgO ?_ | refine b_asgR ?_ | refine bw_add ?_ | refine bw_sub ?_ | refine cw_lt ?_ | refine cw_le ?_ | refine cw_gt ?_ | refine cw_ge ?_ | refine cw_eqI ?_ | refine cw_neI ?_ | refine bl_w ?_ | refine if_t ?_ | refine if_f ?_ | refine w_comp ?_ | refine b_nil ?_ | refine b_par ?_ | refine b_par2 ?_ | refine b_appO rfl ?_ | refine b_extO rfl ?_ | refine fl_rt ?_ | refine fl_nx ?_ | refine And.intro (by assumption) ?_ | refine And.intro rfl ?_ | refine ⟨_, rfl, ?_⟩ | refine ⟨_, _, rfl, rfl, ?_⟩ | refine ⟨_, rfl, rfl, ?_⟩ | refine ⟨_, _, _, rfl, rfl, rfl, ?_⟩ | refine ⟨_, _, _, rfl, rfl, atD0, ?_⟩ | refine ⟨_, _, _, rfl, rfl, atD1, ?_⟩ | refine ⟨_, _, rfl, rfl, rfl, ?_⟩ | refine for_cons rfl ?_ | refine for_nil ?_ | dsimp only))
  refine O.wp_eq (need_board_eq h1 h2 h3 h4 h13 (ok_bD (n := 0)) (stands_bD v)) ?_
  (repeat' (first | refine w_v rfl ?_ | refine w_int ?_ | refine w_bl ?_ | refine w_non ?_ | refine w_str ?_ | refine w_cons ?_ | refine w_nil ?_ | refine w_bin ?_ | refine w_cmp ?_ | refine w_call ?_ | refine w_bi ?_ | refine w_isi ?_ | refine w_ix ?_ | refine w_and ?_ | refine w_or ?_ | refine w_not ?_ | refine w_chn ?_ | refine w_tup ?_ | refine w_lst ?_ | refine w_ite ?_ | refine w_neg ?_ | refine w_sl ?_ | refine sl_t ?_ | refine sl_n ?_ | refine sl_b ?_ | refine sl_l ?_ | refine w_rev ?_ | refine rv_t ?_ | refine rv_n ?_ | refine rv_l ?_ | refine rv_b ?_ | refine w_onone ?_ | refine w_osome ?_ | refine b_asg ?_ | refine b_ret ?_ | refine b_retN ?_ | refine b_expr ?_ | refine b_pass ?_ | refine b_ifs ?_ | refine b_for ?_ | refine b_asgO ?_ | refine b_asgR ?_ | refine bw_add ?_ | refine bw_sub ?_ | refine cw_lt ?_ | refine cw_le ?_ | refine cw_gt ?_ | refine cw_ge ?_ | refine cw_eqI ?_ | refine cw_neI ?_ | refine bl_w ?_ | refine if_t ?_ | refine if_f ?_ | refine w_comp ?_ | refine b_nil ?_ | refine b_par ?_ | refine b_par2 ?_ | refine b_appO rfl ?_ | refine b_extO rfl ?_ | refine fl_rt ?_ | refine fl_nx ?_ | refine And.intro (by assumption) ?_ | refine And.intro rfl ?_ | refine ⟨_, rfl, ?_⟩ | refine ⟨_, _, rfl, rfl, ?_⟩ | refine ⟨_, rfl, rfl, ?_⟩ | refine ⟨_, _, _, rfl, rfl, rfl, ?_⟩ | refine ⟨_, _, _, rfl, rfl, atD0, ?_⟩ | refine ⟨_, _, _, rfl, rfl, atD1, ?_⟩ | refine ⟨_, _, rfl, rfl, rfl, ?_⟩ | refine for_cons rfl ?_ | refine for_nil ?_ | dsimp only))
  refine O.wp_eq (all_nets_eq h14 h15 (Nat.le_trans v.len (by decide)) fun e he => ?_) ?_
  · have := (v.ex e he).l1
    have := v.t4
    omega
  · (repeat' (first | refine w_v rfl ?_ | refine w_int ?_ | refine w_bl ?_ | refine w_non ?_ | refine w_str ?_ | refine w_cons ?_ | refine w_nil ?_ | refine w_bin ?_ | refine w_cmp ?_ | refine w_call ?_ | refine w_bi ?_ | refine w_isi ?_ | refine w_ix ?_ | refine w_and ?_ | refine w_or ?_ | refine w_not ?_ | refine w_chn ?_ | refine w_tup ?_ | refine w_lst ?_ | refine w_ite ?_ | refine w_neg ?_ | refine w_sl ?_ | refine sl_t ?_ | refine sl_n ?_ | refine sl_b ?_ | refine sl_l ?_ | refine w_rev ?_ | refine rv_t ?_ | refine rv_n ?_ | refine rv_l ?_ | refine rv_b ?_ | refine w_onone ?_ | refine w_osome ?_ | refine b_asg ?_ | refine b_ret ?_ | refine b_retN ?_ | refine b_expr ?_ | refine b_pass ?_ | refine b_ifs ?_ | refine b_for ?_ | refine b_asgO ?_ | refine b_asgR ?_ | refine bw_add ?_ | refine bw_sub ?_ | refine cw_lt ?_ | refine cw_le ?_ | refine cw_gt ?_ | refine cw_ge ?_ | refine cw_eqI ?_ | refine cw_neI ?_ | refine bl_w ?_ | refine if_t ?_ | refine if_f ?_ | refine w_comp ?_ | refine b_nil ?_ | refine b_par ?_ | refine b_par2 ?_ | refine b_appO rfl ?_ | refine b_extO rfl ?_ | refine fl_rt ?_ | refine fl_nx ?_ | refine And.intro (by assumption) ?_ | refine And.intro rfl ?_ | refine ⟨_, rfl, ?_⟩ | refine ⟨_, _, rfl, rfl, ?_⟩ | refine ⟨_, rfl, rfl, ?_⟩ | refine ⟨_, _, _, rfl, rfl, rfl, ?_⟩ | refine ⟨_, _, _, rfl, rfl, atD0, ?_⟩ | refine ⟨_, _, _, rfl, rfl, atD1, ?_⟩ | refine ⟨_, _, rfl, rfl, rfl, ?_⟩ | refine for_cons rfl ?_ | refine for_nil ?_ | dsimp only))
end GV
set_option Elab.async false
set_option linter.all false
set_option maxRecDepth 100000
set_option maxHeartbeats 4000000
/-! GA2: draws, random boards. -/
namespace GV
open PySem L2
def b_law_cell_at : List S := [
  .ifs (.cmp .lt (.v 1) (.bi .len [(.v 0)])) [
    .ret (.ix (.v 0) (.v 1))] [],
  .ifs (.cmp .eq (.v 0) (.lst [])) [
    .ret (.int 0)] [],
  .asg (.n 2) (.ix (.v 0) (.bin .mod (.v 1) (.bi .len [(.v 0)]))),
  .for_ .rng [(.bi .min [(.bin .fdiv (.v 1) (.bi .len [(.v 0)])), (.int 60)])] (.n 3) [
    .asg (.n 2) (.bin .fdiv (.v 2) (.int 1000003))],
  .ret (.bin .add (.bin .add (.bin .mul (.ix (.v 0) (.bin .mod (.v 1) (.bi .len [(.v 0)]))) (.int 31)) (.v 1)) (.bin .mul (.v 2) (.int 101)))]
def n_law_cell_at : List Str := ["script", "k", "spare", "again"]
def f_law_cell_at : FD := ⟨4, 2, b_law_cell_at⟩
def b_law_mixed : List S := [
  .asg (.n 3) (.bin .mod (.bin .add (.bin .add (.bin .mul (.call 6 [(.v 0), (.v 1)]) (.int 1103515245)) (.bin .mul (.int 7919) (.v 1))) (.int 12345)) (.int 2147483647)),
  .ret (.bin .mod (.bin .mod (.bin .mod (.bin .pow (.v 3) (.int 5)) (.int 2147483647)) (.int 999983)) (.v 2))]
def n_law_mixed : List Str := ["script", "k", "many", "spun"]
def f_law_mixed : FD := ⟨4, 3, b_law_mixed⟩
def b_law_draw : List S := [
  .app 1 (.int 0),
  .ret (.call 7 [(.v 0), (.bi .len [(.v 1)]), (.v 2)])]
def n_law_draw : List Str := ["script", "state", "many"]
def f_law_draw : FD := ⟨3, 3, b_law_draw⟩
def b_law_pick : List S := [
  .ret (.ix (.v 2) (.call 8 [(.v 0), (.v 1), (.bi .len [(.v 2)])]))]
def n_law_pick : List Str := ["script", "state", "some"]
def f_law_pick : FD := ⟨3, 3, b_law_pick⟩
def b_law_some_numbers : List S := [
  .ret (.bi .tuple [(.comp .rng [(.v 2)] (.n 4) [4] [] (.bi .max [(.int 0), (.bin .sub (.call 8 [(.v 0), (.v 1), (.bin .add (.v 3) (.int 3))]) (.int 2))]))])]
def n_law_some_numbers : List Str := ["script", "state", "things", "high", "again"]
def f_law_some_numbers : FD := ⟨5, 4, b_law_some_numbers⟩
def b_law_some_exchange : List S := [
  .asg (.n 3) (.call 10 [(.v 0), (.v 1), (.v 2), (.int 3)]),
  .ifs (.cmp .eq (.bi .sum [(.v 3)]) (.int 0)) [
    .asg (.n 4) (.call 8 [(.v 0), (.v 1), (.v 2)]),
    .asg (.n 3) (.bin .add (.bin .add (.sl (.v 3) none (some (.v 4))) (.tup [(.bin .add (.int 1) (.call 8 [(.v 0), (.v 1), (.int 3)]))])) (.sl (.v 3) (some (.bin .add (.v 4) (.int 1))) none))] [],
  .ret (.tup [(.v 3), (.call 10 [(.v 0), (.v 1), (.v 2), (.int 3)])])]
def n_law_some_exchange : List Str := ["script", "state", "things", "takes", "at"]
def f_law_some_exchange : FD := ⟨5, 3, b_law_some_exchange⟩
def b_law_some_board : List S := [
  .asg (.n 2) (.call 9 [(.v 0), (.v 1), (.tup [(.int 2), (.int 2), (.int 3), (.int 3), (.int 4)])]),
  .asgO 3 (.comp .rng [(.call 8 [(.v 0), (.v 1), (.int 5)])] (.n 6) [6] [] (.call 11 [(.v 0), (.v 1), (.v 2)])),
  .for_ .seq [(.sl (.bi .list [(.v 3)]) none (some (.int 2)))] (.t [(.n 4), (.n 5)]) [
    .ifs (.and (.cmp .eq (.call 8 [(.v 0), (.v 1), (.int 4)]) (.int 0)) (.cmp .gt (.bi .sum [(.v 5)]) (.int 0))) [
      .app 3 (.tup [(.v 5), (.v 4)])] []],
  .ret (.tup [(.v 2), (.bi .tuple [(.v 3)])])]
def n_law_some_board : List Str := ["script", "state", "things", "exchanges", "takes", "gives", "again"]
def f_law_some_board : FD := ⟨7, 2, b_law_some_board⟩
def b_law_nets : List S := [
  .asgO 1 (.lst []),
  .for_ .seq [(.ix (.v 0) (.int 1))] (.t [(.n 2), (.n 3)]) [
    .app 1 (.bi .tuple [(.comp .zip [(.v 2), (.v 3)] (.t [(.n 4), (.n 5)]) [4, 5] [] (.bin .sub (.v 5) (.v 4)))])],
  .retO 1]
def n_law_nets : List Str := ["board", "found", "takes", "gives", "a", "b"]
def f_law_nets : FD := ⟨6, 1, b_law_nets⟩
def scD (ns : List Int) : D := .lst (ns.map .int)
theorem atD_nat {xs : List D} {k : Int} (h0 : 0 ≤ k) (h1 : k < xs.length) : ∃ d, atD xs k = some d ∧ d ∈ xs := by
  obtain ⟨j, rfl⟩ := Int.eq_ofNat_of_zero_le h0
  have hj : j < xs.length := by omega
  exact ⟨xs[j], L2.atI_nat (List.getElem?_eq_getElem hj), List.getElem_mem hj⟩
theorem atD_int {ns : List Int} {k : Int} (h0 : 0 ≤ k) (h1 : k < ns.length) : ∃ i, atD (ns.map .int) k = some (.int i) := by
  obtain ⟨d, e, m⟩ := atD_nat (xs := ns.map .int) h0 (by simpa using h1)
  simp only [List.mem_map] at m
  obtain ⟨i, _, rfl⟩ := m
  exact ⟨i, e⟩
theorem ok_ints {n : Nat} {ns : List Int} : (D.lst (ns.map .int)).okN (n + 1) = true := by simp [D.okN]
theorem it_rng {Q : List D → Prop} {n : Int} (h0 : -(2 ^ 62) ≤ n) (h1 : n < 2 ^ 62) (q : Q (rngD 0 n)) : ItW .rng [.v (.int n)] Q := ⟨_, by simp only [itemsR]; rw [if_pos (decide_eq_true ⟨h0, h1⟩)], q⟩
theorem it_rng2 {Q : List D → Prop} {m n : Int} (g0 : -(2 ^ 62) ≤ m) (g1 : m < 2 ^ 62) (h0 : -(2 ^ 62) ≤ n) (h1 : n < 2 ^ 62) (q : Q (rngD m n)) : ItW .rng [.v (.int m), .v (.int n)] Q := ⟨_, by simp only [itemsR]; rw [if_pos (decide_eq_true ⟨⟨g0, g1⟩, h0, h1⟩)], q⟩
theorem mulOk_r {i j : Int} (h0 : -(2 ^ 64) < j) (h1 : j < 2 ^ 64) : mulOk i j = true := by
  unfold mulOk
  rw [Bool.or_eq_true]
  exact .inr (decide_eq_true ⟨h0, h1⟩)
theorem mulOk_l {i j : Int} (h0 : -(2 ^ 64) < i) (h1 : i < 2 ^ 64) : mulOk i j = true := by
  unfold mulOk
  rw [Bool.or_eq_true]
  exact .inl (decide_eq_true ⟨h0, h1⟩)
theorem divOk_of {j : Int} (h0 : 0 < j) (h1 : j < 2 ^ 64) : divOk j = true := by
  have h2 : (2 : Int) ^ 64 < 2 ^ 2000 := by decide +kernel
  unfold divOk
  exact decide_eq_true ⟨h0, Int.lt_trans h1 h2⟩
theorem rngD_mem {a b : Int} {d : D} (h : d ∈ rngD a b) : ∃ i : Int, d = .int i ∧ a ≤ i ∧ i < b := by
  simp only [rngD, List.mem_map, List.mem_range] at h
  obtain ⟨i, hi, rfl⟩ := h
  exact ⟨_, rfl, by omega, by omega⟩
theorem cell_at_wp {p : Pg} (h6 : p.Pt 6 = some f_law_cell_at) {n : Nat} {ns : List Int} {k : Int} {h : MH} (hk : 0 ≤ k) (hl : ns.length ≤ 1000) : (p.c (n + 1) 6 [.v (scD ns), .v (.int k)] h).wp fun r h' => (∃ i, r = .v (.int i)) ∧ h' = h := by
  refine Pg.call_wp h6 rfl ?_
  unfold f_law_cell_at b_law_cell_at scD
  (repeat' (first | refine w_v rfl ?_ | refine w_int ?_ | refine w_bl ?_ | refine w_non ?_ | refine w_str ?_ | refine w_cons ?_ | refine w_nil ?_ | refine w_bin ?_ | refine w_cmp ?_ | refine w_call ?_ | refine w_bi ?_ | refine w_isi ?_ | refine w_ix ?_ | refine w_and ?_ | refine w_or ?_ | refine w_not ?_ | refine w_chn ?_ | refine w_tup ?_ | refine w_lst ?_ | refine w_ite ?_ | refine w_neg ?_ | refine w_sl ?_ | refine sl_t ?_ | refine sl_n ?_ | refine sl_b ?_ | refine sl_l ?_ | refine w_rev ?_ | refine rv_t ?_ | refine rv_n ?_ | refine rv_l ?_ | refine rv_b ?_ | refine w_onone ?_ | refine w_osome ?_ | refine b_asg ?_ | refine b_ret ?_ | refine b_retN ?_ | refine b_expr ?_ | refine b_pass ?_ | refine b_ifs ?_ | refine b_for ?_ | refine b_asgO ?_ | refine b_asgR ?_ | refine bw_add ?_ | refine bw_sub ?_ | refine cw_lt ?_ | refine cw_le ?_ | refine cw_gt ?_ | refine cw_ge ?_ | refine cw_eqI ?_ | refine cw_neI ?_ | refine bl_w ?_ | refine if_t ?_ | refine if_f ?_ | refine if_s (fun _ => ?_) (fun _ => ?_) | refine w_comp ?_ | refine b_nil ?_ | refine b_par ?_ | refine b_par2 ?_ | refine b_appO rfl ?_ | refine b_extO rfl ?_ | refine fl_rt ?_ | refine fl_nx ?_ | refine And.intro (by assumption) ?_ | refine And.intro rfl ?_ | refine ⟨_, rfl, ?_⟩ | refine ⟨_, _, rfl, rfl, ?_⟩ | refine ⟨_, rfl, rfl, ?_⟩ | refine ⟨_, _, _, rfl, rfl, rfl, ?_⟩ | refine ⟨_, _, _, rfl, rfl, atD0, ?_⟩ | refine ⟨_, _, _, rfl, rfl, atD1, ?_⟩ | refine ⟨_, _, rfl, rfl, rfl, ?_⟩ | refine for_cons rfl ?_ | refine for_nil ?_ | dsimp only))
  · rename_i q
    simp only [List.length_map, decide_eq_true_eq] at q
    obtain ⟨i, e⟩ := atD_int hk q
    refine ⟨_, _, _, rfl, rfl, e, ?_⟩
    (repeat' (first | refine w_v rfl ?_ | refine w_int ?_ | refine w_bl ?_ | refine w_non ?_ | refine w_str ?_ | refine w_cons ?_ | refine w_nil ?_ | refine w_bin ?_ | refine w_cmp ?_ | refine w_call ?_ | refine w_bi ?_ | refine w_isi ?_ | refine w_ix ?_ | refine w_and ?_ | refine w_or ?_ | refine w_not ?_ | refine w_chn ?_ | refine w_tup ?_ | refine w_lst ?_ | refine w_ite ?_ | refine w_neg ?_ | refine w_sl ?_ | refine sl_t ?_ | refine sl_n ?_ | refine sl_b ?_ | refine sl_l ?_ | refine w_rev ?_ | refine rv_t ?_ | refine rv_n ?_ | refine rv_l ?_ | refine rv_b ?_ | refine w_onone ?_ | refine w_osome ?_ | refine b_asg ?_ | refine b_ret ?_ | refine b_retN ?_ | refine b_expr ?_ | refine b_pass ?_ | refine b_ifs ?_ | refine b_for ?_ | refine b_asgO ?_ | refine b_asgR ?_ | refine bw_add ?_ | refine bw_sub ?_ | refine cw_lt ?_ | refine cw_le ?_ | refine cw_gt ?_ | refine cw_ge ?_ | refine cw_eqI ?_ | refine cw_neI ?_ | refine bl_w ?_ | refine if_t ?_ | refine if_f ?_ | refine w_comp ?_ | refine b_nil ?_ | refine b_par ?_ | refine b_par2 ?_ | refine b_appO rfl ?_ | refine b_extO rfl ?_ | refine fl_rt ?_ | refine fl_nx ?_ | refine And.intro (by assumption) ?_ | refine And.intro rfl ?_ | refine ⟨_, rfl, ?_⟩ | refine ⟨_, _, rfl, rfl, ?_⟩ | refine ⟨_, rfl, rfl, ?_⟩ | refine ⟨_, _, _, rfl, rfl, rfl, ?_⟩ | refine ⟨_, _, _, rfl, rfl, atD0, ?_⟩ | refine ⟨_, _, _, rfl, rfl, atD1, ?_⟩ | refine ⟨_, _, rfl, rfl, rfl, ?_⟩ | refine for_cons rfl ?_ | refine for_nil ?_ | dsimp only))
    exact ⟨⟨_, rfl⟩, rfl⟩
  · rename_i q
    simp only [List.length_map, decide_eq_false_iff_not] at q
    refine cw_eq ok_ints rfl ?_
    cases ns with
    | nil =>
      (repeat' (first | refine w_v rfl ?_ | refine w_int ?_ | refine w_bl ?_ | refine w_non ?_ | refine w_str ?_ | refine w_cons ?_ | refine w_nil ?_ | refine w_bin ?_ | refine w_cmp ?_ | refine w_call ?_ | refine w_bi ?_ | refine w_isi ?_ | refine w_ix ?_ | refine w_and ?_ | refine w_or ?_ | refine w_not ?_ | refine w_chn ?_ | refine w_tup ?_ | refine w_lst ?_ | refine w_ite ?_ | refine w_neg ?_ | refine w_sl ?_ | refine sl_t ?_ | refine sl_n ?_ | refine sl_b ?_ | refine sl_l ?_ | refine w_rev ?_ | refine rv_t ?_ | refine rv_n ?_ | refine rv_l ?_ | refine rv_b ?_ | refine w_onone ?_ | refine w_osome ?_ | refine b_asg ?_ | refine b_ret ?_ | refine b_retN ?_ | refine b_expr ?_ | refine b_pass ?_ | refine b_ifs ?_ | refine b_for ?_ | refine b_asgO ?_ | refine b_asgR ?_ | refine bw_add ?_ | refine bw_sub ?_ | refine cw_lt ?_ | refine cw_le ?_ | refine cw_gt ?_ | refine cw_ge ?_ | refine cw_eqI ?_ | refine cw_neI ?_ | refine bl_w ?_ | refine if_t ?_ | refine if_f ?_ | refine if_s (fun _ => ?_) (fun _ => ?_) | refine w_comp ?_ | refine b_nil ?_ | refine b_par ?_ | refine b_par2 ?_ | refine b_appO rfl ?_ | refine b_extO rfl ?_ | refine fl_rt ?_ | refine fl_nx ?_ | refine And.intro (by assumption) ?_ | refine And.intro rfl ?_ | refine ⟨_, rfl, ?_⟩ | refine ⟨_, _, rfl, rfl, ?_⟩ | refine ⟨_, rfl, rfl, ?_⟩ | refine ⟨_, _, _, rfl, rfl, rfl, ?_⟩ | refine ⟨_, _, _, rfl, rfl, atD0, ?_⟩ | refine ⟨_, _, _, rfl, rfl, atD1, ?_⟩ | refine ⟨_, _, rfl, rfl, rfl, ?_⟩ | refine for_cons rfl ?_ | refine for_nil ?_ | dsimp only))
      all_goals exact ⟨⟨_, rfl⟩, rfl⟩
    | cons x xs =>
      have hp : (0 : Int) < ((x :: xs).length : Int) := by simp only [List.length_cons]; omega
      have hm0 := Int.emod_nonneg k (Int.ne_of_gt hp)
      have hm1 := Int.emod_lt_of_pos k hp
      obtain ⟨i, e⟩ := atD_int hm0 hm1
      generalize hns : (x :: xs : List Int) = ns at *
      have hb : D.eqb (.lst (ns.map .int)) (.lst []) = false := by rw [← hns]; rfl
      have hb' : D.eqb (R.v (.lst (ns.map .int))).rd (R.nl []).rd = false := hb
      rw [hb']
      have e' : atD (ns.map .int) (k % ((ns.map D.int).length : Nat)) = some (.int i) := by simpa using e
      have hp' : (0 : Int) < ((ns.map D.int).length : Nat) := by simpa using hp
      have hd : divOk ((ns.map D.int).length : Nat) = true := by
        exact divOk_of hp' (by simp; omega)
      (repeat' (first | refine w_v rfl ?_ | refine w_int ?_ | refine w_bl ?_ | refine w_non ?_ | refine w_str ?_ | refine w_cons ?_ | refine w_nil ?_ | refine w_bin ?_ | refine w_cmp ?_ | refine w_call ?_ | refine w_bi ?_ | refine w_isi ?_ | refine w_ix ?_ | refine w_and ?_ | refine w_or ?_ | refine w_not ?_ | refine w_chn ?_ | refine w_tup ?_ | refine w_lst ?_ | refine w_ite ?_ | refine w_neg ?_ | refine w_sl ?_ | refine sl_t ?_ | refine sl_n ?_ | refine sl_b ?_ | refine sl_l ?_ | refine w_rev ?_ | refine rv_t ?_ | refine rv_n ?_ | refine rv_l ?_ | refine rv_b ?_ | refine w_onone ?_ | refine w_osome ?_ | refine b_asg ?_ | refine b_ret ?_ | refine b_retN ?_ | refine b_expr ?_ | refine b_pass ?_ | refine b_ifs ?_ | refine b_for ?_ | refine b_asgO ?_ | refine b_asgR ?_ | refine bw_add ?_ | refine bw_sub ?_ | refine cw_lt ?_ | refine cw_le ?_ | refine cw_gt ?_ | refine cw_ge ?_ | refine cw_eqI ?_ | refine cw_neI ?_ | refine bl_w ?_ | refine if_t ?_ | refine if_f ?_ | refine w_comp ?_ | refine b_nil ?_ | refine b_par ?_ | refine b_par2 ?_ | refine b_appO rfl ?_ | refine b_extO rfl ?_ | refine fl_rt ?_ | refine fl_nx ?_ | refine And.intro (by assumption) ?_ | refine And.intro rfl ?_ | refine ⟨_, rfl, ?_⟩ | refine ⟨_, _, rfl, rfl, ?_⟩ | refine ⟨_, rfl, rfl, ?_⟩ | refine ⟨_, _, _, rfl, rfl, rfl, ?_⟩ | refine ⟨_, _, _, rfl, rfl, atD0, ?_⟩ | refine ⟨_, _, _, rfl, rfl, atD1, ?_⟩ | refine ⟨_, _, rfl, rfl, rfl, ?_⟩ | refine for_cons rfl ?_ | refine for_nil ?_ | dsimp only))
      refine bw_mod hp' ?_
      (repeat' (first | refine w_v rfl ?_ | refine w_int ?_ | refine w_bl ?_ | refine w_non ?_ | refine w_str ?_ | refine w_cons ?_ | refine w_nil ?_ | refine w_bin ?_ | refine w_cmp ?_ | refine w_call ?_ | refine w_bi ?_ | refine w_isi ?_ | refine w_ix ?_ | refine w_and ?_ | refine w_or ?_ | refine w_not ?_ | refine w_chn ?_ | refine w_tup ?_ | refine w_lst ?_ | refine w_ite ?_ | refine w_neg ?_ | refine w_sl ?_ | refine sl_t ?_ | refine sl_n ?_ | refine sl_b ?_ | refine sl_l ?_ | refine w_rev ?_ | refine rv_t ?_ | refine rv_n ?_ | refine rv_l ?_ | refine rv_b ?_ | refine w_onone ?_ | refine w_osome ?_ | refine b_asg ?_ | refine b_ret ?_ | refine b_retN ?_ | refine b_expr ?_ | refine b_pass ?_ | refine b_ifs ?_ | refine b_for ?_ | refine b_asgO ?_ | refine b_asgR ?_ | refine bw_add ?_ | refine bw_sub ?_ | refine cw_lt ?_ | refine cw_le ?_ | refine cw_gt ?_ | refine cw_ge ?_ | refine cw_eqI ?_ | refine cw_neI ?_ | refine bl_w ?_ | refine if_t ?_ | refine if_f ?_ | refine w_comp ?_ | refine b_nil ?_ | refine b_par ?_ | refine b_par2 ?_ | refine b_appO rfl ?_ | refine b_extO rfl ?_ | refine fl_rt ?_ | refine fl_nx ?_ | refine And.intro (by assumption) ?_ | refine And.intro rfl ?_ | refine ⟨_, rfl, ?_⟩ | refine ⟨_, _, rfl, rfl, ?_⟩ | refine ⟨_, rfl, rfl, ?_⟩ | refine ⟨_, _, _, rfl, rfl, rfl, ?_⟩ | refine ⟨_, _, _, rfl, rfl, atD0, ?_⟩ | refine ⟨_, _, _, rfl, rfl, atD1, ?_⟩ | refine ⟨_, _, rfl, rfl, rfl, ?_⟩ | refine for_cons rfl ?_ | refine for_nil ?_ | dsimp only))
      refine ⟨_, _, _, rfl, rfl, e', ?_⟩
      (repeat' (first | refine w_v rfl ?_ | refine w_int ?_ | refine w_bl ?_ | refine w_non ?_ | refine w_str ?_ | refine w_cons ?_ | refine w_nil ?_ | refine w_bin ?_ | refine w_cmp ?_ | refine w_call ?_ | refine w_bi ?_ | refine w_isi ?_ | refine w_ix ?_ | refine w_and ?_ | refine w_or ?_ | refine w_not ?_ | refine w_chn ?_ | refine w_tup ?_ | refine w_lst ?_ | refine w_ite ?_ | refine w_neg ?_ | refine w_sl ?_ | refine sl_t ?_ | refine sl_n ?_ | refine sl_b ?_ | refine sl_l ?_ | refine w_rev ?_ | refine rv_t ?_ | refine rv_n ?_ | refine rv_l ?_ | refine rv_b ?_ | refine w_onone ?_ | refine w_osome ?_ | refine b_asg ?_ | refine b_ret ?_ | refine b_retN ?_ | refine b_expr ?_ | refine b_pass ?_ | refine b_ifs ?_ | refine b_for ?_ | refine b_asgO ?_ | refine b_asgR ?_ | refine bw_add ?_ | refine bw_sub ?_ | refine cw_lt ?_ | refine cw_le ?_ | refine cw_gt ?_ | refine cw_ge ?_ | refine cw_eqI ?_ | refine cw_neI ?_ | refine bl_w ?_ | refine if_t ?_ | refine if_f ?_ | refine w_comp ?_ | refine b_nil ?_ | refine b_par ?_ | refine b_par2 ?_ | refine b_appO rfl ?_ | refine b_extO rfl ?_ | refine fl_rt ?_ | refine fl_nx ?_ | refine And.intro (by assumption) ?_ | refine And.intro rfl ?_ | refine ⟨_, rfl, ?_⟩ | refine ⟨_, _, rfl, rfl, ?_⟩ | refine ⟨_, rfl, rfl, ?_⟩ | refine ⟨_, _, _, rfl, rfl, rfl, ?_⟩ | refine ⟨_, _, _, rfl, rfl, atD0, ?_⟩ | refine ⟨_, _, _, rfl, rfl, atD1, ?_⟩ | refine ⟨_, _, rfl, rfl, rfl, ?_⟩ | refine for_cons rfl ?_ | refine for_nil ?_ | dsimp only))
      refine bw_fdiv hd ?_
      (repeat' (first | refine w_v rfl ?_ | refine w_int ?_ | refine w_bl ?_ | refine w_non ?_ | refine w_str ?_ | refine w_cons ?_ | refine w_nil ?_ | refine w_bin ?_ | refine w_cmp ?_ | refine w_call ?_ | refine w_bi ?_ | refine w_isi ?_ | refine w_ix ?_ | refine w_and ?_ | refine w_or ?_ | refine w_not ?_ | refine w_chn ?_ | refine w_tup ?_ | refine w_lst ?_ | refine w_ite ?_ | refine w_neg ?_ | refine w_sl ?_ | refine sl_t ?_ | refine sl_n ?_ | refine sl_b ?_ | refine sl_l ?_ | refine w_rev ?_ | refine rv_t ?_ | refine rv_n ?_ | refine rv_l ?_ | refine rv_b ?_ | refine w_onone ?_ | refine w_osome ?_ | refine b_asg ?_ | refine b_ret ?_ | refine b_retN ?_ | refine b_expr ?_ | refine b_pass ?_ | refine b_ifs ?_ | refine b_for ?_ | refine b_asgO ?_ | refine b_asgR ?_ | refine bw_add ?_ | refine bw_sub ?_ | refine cw_lt ?_ | refine cw_le ?_ | refine cw_gt ?_ | refine cw_ge ?_ | refine cw_eqI ?_ | refine cw_neI ?_ | refine bl_w ?_ | refine if_t ?_ | refine if_f ?_ | refine w_comp ?_ | refine b_nil ?_ | refine b_par ?_ | refine b_par2 ?_ | refine b_appO rfl ?_ | refine b_extO rfl ?_ | refine fl_rt ?_ | refine fl_nx ?_ | refine And.intro (by assumption) ?_ | refine And.intro rfl ?_ | refine ⟨_, rfl, ?_⟩ | refine ⟨_, _, rfl, rfl, ?_⟩ | refine ⟨_, rfl, rfl, ?_⟩ | refine ⟨_, _, _, rfl, rfl, rfl, ?_⟩ | refine ⟨_, _, _, rfl, rfl, atD0, ?_⟩ | refine ⟨_, _, _, rfl, rfl, atD1, ?_⟩ | refine ⟨_, _, rfl, rfl, rfl, ?_⟩ | refine for_cons rfl ?_ | refine for_nil ?_ | dsimp only))
      have hq : 0 ≤ k / ((ns.map D.int).length : Nat) := Int.ediv_nonneg hk (Int.le_of_lt hp')
      refine it_rng (by split <;> omega) (by split <;> omega) ?_
      refine for_inv (fun _ ss h' => (∃ s x3, ss = [some (.v (.lst (ns.map .int))), some (.v (.int k)), some (.v (.int s)), x3]) ∧ h' = h) ⟨⟨_, _, rfl⟩, rfl⟩ (fun j d hd ss h' J => ?_) fun ss h' J => ?_
      · obtain ⟨⟨s, x3, rfl⟩, rfl⟩ := J
        refine ⟨_, rfl, ?_⟩
        (repeat' (first | refine w_v rfl ?_ | refine w_int ?_ | refine w_bl ?_ | refine w_non ?_ | refine w_str ?_ | refine w_cons ?_ | refine w_nil ?_ | refine w_bin ?_ | refine w_cmp ?_ | refine w_call ?_ | refine w_bi ?_ | refine w_isi ?_ | refine w_ix ?_ | refine w_and ?_ | refine w_or ?_ | refine w_not ?_ | refine w_chn ?_ | refine w_tup ?_ | refine w_lst ?_ | refine w_ite ?_ | refine w_neg ?_ | refine w_sl ?_ | refine sl_t ?_ | refine sl_n ?_ | refine sl_b ?_ | refine sl_l ?_ | refine w_rev ?_ | refine rv_t ?_ | refine rv_n ?_ | refine rv_l ?_ | refine rv_b ?_ | refine w_onone ?_ | refine w_osome ?_ | refine b_asg ?_ | refine b_ret ?_ | refine b_retN ?_ | refine b_expr ?_ | refine b_pass ?_ | refine b_ifs ?_ | refine b_for ?_ | refine b_asgO ?_ | refine b_asgR ?_ | refine bw_add ?_ | refine bw_sub ?_ | refine cw_lt ?_ | refine cw_le ?_ | refine cw_gt ?_ | refine cw_ge ?_ | refine cw_eqI ?_ | refine cw_neI ?_ | refine bl_w ?_ | refine if_t ?_ | refine if_f ?_ | refine w_comp ?_ | refine b_nil ?_ | refine b_par ?_ | refine b_par2 ?_ | refine b_appO rfl ?_ | refine b_extO rfl ?_ | refine fl_rt ?_ | refine fl_nx ?_ | refine And.intro (by assumption) ?_ | refine And.intro rfl ?_ | refine ⟨_, rfl, ?_⟩ | refine ⟨_, _, rfl, rfl, ?_⟩ | refine ⟨_, rfl, rfl, ?_⟩ | refine ⟨_, _, _, rfl, rfl, rfl, ?_⟩ | refine ⟨_, _, _, rfl, rfl, atD0, ?_⟩ | refine ⟨_, _, _, rfl, rfl, atD1, ?_⟩ | refine ⟨_, _, rfl, rfl, rfl, ?_⟩ | refine for_cons rfl ?_ | refine for_nil ?_ | dsimp only))
        exact ⟨⟨_, _, rfl⟩, rfl⟩
      · obtain ⟨⟨s, x3, rfl⟩, rfl⟩ := J
        (repeat' (first | refine w_v rfl ?_ | refine w_int ?_ | refine w_bl ?_ | refine w_non ?_ | refine w_str ?_ | refine w_cons ?_ | refine w_nil ?_ | refine w_bin ?_ | refine w_cmp ?_ | refine w_call ?_ | refine w_bi ?_ | refine w_isi ?_ | refine w_ix ?_ | refine w_and ?_ | refine w_or ?_ | refine w_not ?_ | refine w_chn ?_ | refine w_tup ?_ | refine w_lst ?_ | refine w_ite ?_ | refine w_neg ?_ | refine w_sl ?_ | refine sl_t ?_ | refine sl_n ?_ | refine sl_b ?_ | refine sl_l ?_ | refine w_rev ?_ | refine rv_t ?_ | refine rv_n ?_ | refine rv_l ?_ | refine rv_b ?_ | refine w_onone ?_ | refine w_osome ?_ | refine b_asg ?_ | refine b_ret ?_ | refine b_retN ?_ | refine b_expr ?_ | refine b_pass ?_ | refine b_ifs ?_ | refine b_for ?_ | refine b_asgO ?_ | refine b_asgR ?_ | refine bw_add ?_ | refine bw_sub ?_ | refine cw_lt ?_ | refine cw_le ?_ | refine cw_gt ?_ | refine cw_ge ?_ | refine cw_eqI ?_ | refine cw_neI ?_ | refine bl_w ?_ | refine if_t ?_ | refine if_f ?_ | refine w_comp ?_ | refine b_nil ?_ | refine b_par ?_ | refine b_par2 ?_ | refine b_appO rfl ?_ | refine b_extO rfl ?_ | refine fl_rt ?_ | refine fl_nx ?_ | refine And.intro (by assumption) ?_ | refine And.intro rfl ?_ | refine ⟨_, rfl, ?_⟩ | refine ⟨_, _, rfl, rfl, ?_⟩ | refine ⟨_, rfl, rfl, ?_⟩ | refine ⟨_, _, _, rfl, rfl, rfl, ?_⟩ | refine ⟨_, _, _, rfl, rfl, atD0, ?_⟩ | refine ⟨_, _, _, rfl, rfl, atD1, ?_⟩ | refine ⟨_, _, rfl, rfl, rfl, ?_⟩ | refine for_cons rfl ?_ | refine for_nil ?_ | dsimp only))
        refine bw_mod hp' ?_
        (repeat' (first | refine w_v rfl ?_ | refine w_int ?_ | refine w_bl ?_ | refine w_non ?_ | refine w_str ?_ | refine w_cons ?_ | refine w_nil ?_ | refine w_bin ?_ | refine w_cmp ?_ | refine w_call ?_ | refine w_bi ?_ | refine w_isi ?_ | refine w_ix ?_ | refine w_and ?_ | refine w_or ?_ | refine w_not ?_ | refine w_chn ?_ | refine w_tup ?_ | refine w_lst ?_ | refine w_ite ?_ | refine w_neg ?_ | refine w_sl ?_ | refine sl_t ?_ | refine sl_n ?_ | refine sl_b ?_ | refine sl_l ?_ | refine w_rev ?_ | refine rv_t ?_ | refine rv_n ?_ | refine rv_l ?_ | refine rv_b ?_ | refine w_onone ?_ | refine w_osome ?_ | refine b_asg ?_ | refine b_ret ?_ | refine b_retN ?_ | refine b_expr ?_ | refine b_pass ?_ | refine b_ifs ?_ | refine b_for ?_ | refine b_asgO ?_ | refine b_asgR ?_ | refine bw_add ?_ | refine bw_sub ?_ | refine cw_lt ?_ | refine cw_le ?_ | refine cw_gt ?_ | refine cw_ge ?_ | refine cw_eqI ?_ | refine cw_neI ?_ | refine bl_w ?_ | refine if_t ?_ | refine if_f ?_ | refine w_comp ?_ | refine b_nil ?_ | refine b_par ?_ | refine b_par2 ?_ | refine b_appO rfl ?_ | refine b_extO rfl ?_ | refine fl_rt ?_ | refine fl_nx ?_ | refine And.intro (by assumption) ?_ | refine And.intro rfl ?_ | refine ⟨_, rfl, ?_⟩ | refine ⟨_, _, rfl, rfl, ?_⟩ | refine ⟨_, rfl, rfl, ?_⟩ | refine ⟨_, _, _, rfl, rfl, rfl, ?_⟩ | refine ⟨_, _, _, rfl, rfl, atD0, ?_⟩ | refine ⟨_, _, _, rfl, rfl, atD1, ?_⟩ | refine ⟨_, _, rfl, rfl, rfl, ?_⟩ | refine for_cons rfl ?_ | refine for_nil ?_ | dsimp only))
        refine ⟨_, _, _, rfl, rfl, e', ?_⟩
        (repeat' (first | refine w_v rfl ?_ | refine w_int ?_ | refine w_bl ?_ | refine w_non ?_ | refine w_str ?_ | refine w_cons ?_ | refine w_nil ?_ | refine w_bin ?_ | refine w_cmp ?_ | refine w_call ?_ | refine w_bi ?_ | refine w_isi ?_ | refine w_ix ?_ | refine w_and ?_ | refine w_or ?_ | refine w_not ?_ | refine w_chn ?_ | refine w_tup ?_ | refine w_lst ?_ | refine w_ite ?_ | refine w_neg ?_ | refine w_sl ?_ | refine sl_t ?_ | refine sl_n ?_ | refine sl_b ?_ | refine sl_l ?_ | refine w_rev ?_ | refine rv_t ?_ | refine rv_n ?_ | refine rv_l ?_ | refine rv_b ?_ | refine w_onone ?_ | refine w_osome ?_ | refine b_asg ?_ | refine b_ret ?_ | refine b_retN ?_ | refine b_expr ?_ | refine b_pass ?_ | refine b_ifs ?_ | refine b_for ?_ | refine b_asgO ?_ | refine b_asgR ?_ | refine bw_add ?_ | refine bw_sub ?_ | refine cw_lt ?_ | refine cw_le ?_ | refine cw_gt ?_ | refine cw_ge ?_ | refine cw_eqI ?_ | refine cw_neI ?_ | refine bl_w ?_ | refine if_t ?_ | refine if_f ?_ | refine w_comp ?_ | refine b_nil ?_ | refine b_par ?_ | refine b_par2 ?_ | refine b_appO rfl ?_ | refine b_extO rfl ?_ | refine fl_rt ?_ | refine fl_nx ?_ | refine And.intro (by assumption) ?_ | refine And.intro rfl ?_ | refine ⟨_, rfl, ?_⟩ | refine ⟨_, _, rfl, rfl, ?_⟩ | refine ⟨_, rfl, rfl, ?_⟩ | refine ⟨_, _, _, rfl, rfl, rfl, ?_⟩ | refine ⟨_, _, _, rfl, rfl, atD0, ?_⟩ | refine ⟨_, _, _, rfl, rfl, atD1, ?_⟩ | refine ⟨_, _, rfl, rfl, rfl, ?_⟩ | refine for_cons rfl ?_ | refine for_nil ?_ | dsimp only))
        refine bw_mul (mulOk_r (by decide) (by decide)) ?_
        (repeat' (first | refine w_v rfl ?_ | refine w_int ?_ | refine w_bl ?_ | refine w_non ?_ | refine w_str ?_ | refine w_cons ?_ | refine w_nil ?_ | refine w_bin ?_ | refine w_cmp ?_ | refine w_call ?_ | refine w_bi ?_ | refine w_isi ?_ | refine w_ix ?_ | refine w_and ?_ | refine w_or ?_ | refine w_not ?_ | refine w_chn ?_ | refine w_tup ?_ | refine w_lst ?_ | refine w_ite ?_ | refine w_neg ?_ | refine w_sl ?_ | refine sl_t ?_ | refine sl_n ?_ | refine sl_b ?_ | refine sl_l ?_ | refine w_rev ?_ | refine rv_t ?_ | refine rv_n ?_ | refine rv_l ?_ | refine rv_b ?_ | refine w_onone ?_ | refine w_osome ?_ | refine b_asg ?_ | refine b_ret ?_ | refine b_retN ?_ | refine b_expr ?_ | refine b_pass ?_ | refine b_ifs ?_ | refine b_for ?_ | refine b_asgO ?_ | refine b_asgR ?_ | refine bw_add ?_ | refine bw_sub ?_ | refine cw_lt ?_ | refine cw_le ?_ | refine cw_gt ?_ | refine cw_ge ?_ | refine cw_eqI ?_ | refine cw_neI ?_ | refine bl_w ?_ | refine if_t ?_ | refine if_f ?_ | refine w_comp ?_ | refine b_nil ?_ | refine b_par ?_ | refine b_par2 ?_ | refine b_appO rfl ?_ | refine b_extO rfl ?_ | refine fl_rt ?_ | refine fl_nx ?_ | refine And.intro (by assumption) ?_ | refine And.intro rfl ?_ | refine ⟨_, rfl, ?_⟩ | refine ⟨_, _, rfl, rfl, ?_⟩ | refine ⟨_, rfl, rfl, ?_⟩ | refine ⟨_, _, _, rfl, rfl, rfl, ?_⟩ | refine ⟨_, _, _, rfl, rfl, atD0, ?_⟩ | refine ⟨_, _, _, rfl, rfl, atD1, ?_⟩ | refine ⟨_, _, rfl, rfl, rfl, ?_⟩ | refine for_cons rfl ?_ | refine for_nil ?_ | dsimp only))
        refine bw_mul (mulOk_r (by decide) (by decide)) ?_
        (repeat' (first | refine w_v rfl ?_ | refine w_int ?_ | refine w_bl ?_ | refine w_non ?_ | refine w_str ?_ | refine w_cons ?_ | refine w_nil ?_ | refine w_bin ?_ | refine w_cmp ?_ | refine w_call ?_ | refine w_bi ?_ | refine w_isi ?_ | refine w_ix ?_ | refine w_and ?_ | refine w_or ?_ | refine w_not ?_ | refine w_chn ?_ | refine w_tup ?_ | refine w_lst ?_ | refine w_ite ?_ | refine w_neg ?_ | refine w_sl ?_ | refine sl_t ?_ | refine sl_n ?_ | refine sl_b ?_ | refine sl_l ?_ | refine w_rev ?_ | refine rv_t ?_ | refine rv_n ?_ | refine rv_l ?_ | refine rv_b ?_ | refine w_onone ?_ | refine w_osome ?_ | refine b_asg ?_ | refine b_ret ?_ | refine b_retN ?_ | refine b_expr ?_ | refine b_pass ?_ | refine b_ifs ?_ | refine b_for ?_ | refine b_asgO ?_ | refine b_asgR ?_ | refine bw_add ?_ | refine bw_sub ?_ | refine cw_lt ?_ | refine cw_le ?_ | refine cw_gt ?_ | refine cw_ge ?_ | refine cw_eqI ?_ | refine cw_neI ?_ | refine bl_w ?_ | refine if_t ?_ | refine if_f ?_ | refine w_comp ?_ | refine b_nil ?_ | refine b_par ?_ | refine b_par2 ?_ | refine b_appO rfl ?_ | refine b_extO rfl ?_ | refine fl_rt ?_ | refine fl_nx ?_ | refine And.intro (by assumption) ?_ | refine And.intro rfl ?_ | refine ⟨_, rfl, ?_⟩ | refine ⟨_, _, rfl, rfl, ?_⟩ | refine ⟨_, rfl, rfl, ?_⟩ | refine ⟨_, _, _, rfl, rfl, rfl, ?_⟩ | refine ⟨_, _, _, rfl, rfl, atD0, ?_⟩ | refine ⟨_, _, _, rfl, rfl, atD1, ?_⟩ | refine ⟨_, _, rfl, rfl, rfl, ?_⟩ | refine for_cons rfl ?_ | refine for_nil ?_ | dsimp only))
        exact ⟨⟨_, rfl⟩, rfl⟩
theorem mixed_wp {p : Pg} (h6 : p.Pt 6 = some f_law_cell_at) (h7 : p.Pt 7 = some f_law_mixed) {n : Nat} {ns : List Int} {k many : Int} {h : MH} (hk : 0 ≤ k) (hm : 0 < many) (hl : ns.length ≤ 1000) : (p.c (n + 2) 7 [.v (scD ns), .v (.int k), .v (.int many)] h).wp fun r h' => (∃ i, r = .v (.int i) ∧ 0 ≤ i ∧ i < many) ∧ h' = h := by
  refine Pg.call_wp h7 rfl ?_
  unfold f_law_mixed b_law_mixed
  (repeat' (first | refine w_v rfl ?_ | refine w_int ?_ | refine w_bl ?_ | refine w_non ?_ | refine w_str ?_ | refine w_cons ?_ | refine w_nil ?_ | refine w_bin ?_ | refine w_cmp ?_ | refine w_call ?_ | refine w_bi ?_ | refine w_isi ?_ | refine w_ix ?_ | refine w_and ?_ | refine w_or ?_ | refine w_not ?_ | refine w_chn ?_ | refine w_tup ?_ | refine w_lst ?_ | refine w_ite ?_ | refine w_neg ?_ | refine w_sl ?_ | refine sl_t ?_ | refine sl_n ?_ | refine sl_b ?_ | refine sl_l ?_ | refine w_rev ?_ | refine rv_t ?_ | refine rv_n ?_ | refine rv_l ?_ | refine rv_b ?_ | refine w_onone ?_ | refine w_osome ?_ | refine b_asg ?_ | refine b_ret ?_ | refine b_retN ?_ | refine b_expr ?_ | refine b_pass ?_ | refine b_ifs ?_ | refine b_for ?_ | refine b_asgO ?_ | refine b_asgR ?_ | refine bw_add ?_ | refine bw_sub ?_ | refine cw_lt ?_ | refine cw_le ?_ | refine cw_gt ?_ | refine cw_ge ?_ | refine cw_eqI ?_ | refine cw_neI ?_ | refine bl_w ?_ | refine if_t ?_ | refine if_f ?_ | refine w_comp ?_ | refine b_nil ?_ | refine b_par ?_ | refine b_par2 ?_ | refine b_appO rfl ?_ | refine b_extO rfl ?_ | refine fl_rt ?_ | refine fl_nx ?_ | refine And.intro (by assumption) ?_ | refine And.intro rfl ?_ | refine ⟨_, rfl, ?_⟩ | refine ⟨_, _, rfl, rfl, ?_⟩ | refine ⟨_, rfl, rfl, ?_⟩ | refine ⟨_, _, _, rfl, rfl, rfl, ?_⟩ | refine ⟨_, _, _, rfl, rfl, atD0, ?_⟩ | refine ⟨_, _, _, rfl, rfl, atD1, ?_⟩ | refine ⟨_, _, rfl, rfl, rfl, ?_⟩ | refine for_cons rfl ?_ | refine for_nil ?_ | dsimp only))
  refine O.wp_mono (cell_at_wp h6 hk hl) fun r h' z => ?_
  obtain ⟨⟨i, rfl⟩, rfl⟩ := z
  (repeat' (first | refine w_v rfl ?_ | refine w_int ?_ | refine w_bl ?_ | refine w_non ?_ | refine w_str ?_ | refine w_cons ?_ | refine w_nil ?_ | refine w_bin ?_ | refine w_cmp ?_ | refine w_call ?_ | refine w_bi ?_ | refine w_isi ?_ | refine w_ix ?_ | refine w_and ?_ | refine w_or ?_ | refine w_not ?_ | refine w_chn ?_ | refine w_tup ?_ | refine w_lst ?_ | refine w_ite ?_ | refine w_neg ?_ | refine w_sl ?_ | refine sl_t ?_ | refine sl_n ?_ | refine sl_b ?_ | refine sl_l ?_ | refine w_rev ?_ | refine rv_t ?_ | refine rv_n ?_ | refine rv_l ?_ | refine rv_b ?_ | refine w_onone ?_ | refine w_osome ?_ | refine b_asg ?_ | refine b_ret ?_ | refine b_retN ?_ | refine b_expr ?_ | refine b_pass ?_ | refine b_ifs ?_ | refine b_for ?_ | refine b_asgO ?_ | refine b_asgR ?_ | refine bw_add ?_ | refine bw_sub ?_ | refine cw_lt ?_ | refine cw_le ?_ | refine cw_gt ?_ | refine cw_ge ?_ | refine cw_eqI ?_ | refine cw_neI ?_ | refine bl_w ?_ | refine if_t ?_ | refine if_f ?_ | refine w_comp ?_ | refine b_nil ?_ | refine b_par ?_ | refine b_par2 ?_ | refine b_appO rfl ?_ | refine b_extO rfl ?_ | refine fl_rt ?_ | refine fl_nx ?_ | refine And.intro (by assumption) ?_ | refine And.intro rfl ?_ | refine ⟨_, rfl, ?_⟩ | refine ⟨_, _, rfl, rfl, ?_⟩ | refine ⟨_, rfl, rfl, ?_⟩ | refine ⟨_, _, _, rfl, rfl, rfl, ?_⟩ | refine ⟨_, _, _, rfl, rfl, atD0, ?_⟩ | refine ⟨_, _, _, rfl, rfl, atD1, ?_⟩ | refine ⟨_, _, rfl, rfl, rfl, ?_⟩ | refine for_cons rfl ?_ | refine for_nil ?_ | dsimp only))
  refine bw_mul (mulOk_r (by decide) (by decide)) ?_
  (repeat' (first | refine w_v rfl ?_ | refine w_int ?_ | refine w_bl ?_ | refine w_non ?_ | refine w_str ?_ | refine w_cons ?_ | refine w_nil ?_ | refine w_bin ?_ | refine w_cmp ?_ | refine w_call ?_ | refine w_bi ?_ | refine w_isi ?_ | refine w_ix ?_ | refine w_and ?_ | refine w_or ?_ | refine w_not ?_ | refine w_chn ?_ | refine w_tup ?_ | refine w_lst ?_ | refine w_ite ?_ | refine w_neg ?_ | refine w_sl ?_ | refine sl_t ?_ | refine sl_n ?_ | refine sl_b ?_ | refine sl_l ?_ | refine w_rev ?_ | refine rv_t ?_ | refine rv_n ?_ | refine rv_l ?_ | refine rv_b ?_ | refine w_onone ?_ | refine w_osome ?_ | refine b_asg ?_ | refine b_ret ?_ | refine b_retN ?_ | refine b_expr ?_ | refine b_pass ?_ | refine b_ifs ?_ | refine b_for ?_ | refine b_asgO ?_ | refine b_asgR ?_ | refine bw_add ?_ | refine bw_sub ?_ | refine cw_lt ?_ | refine cw_le ?_ | refine cw_gt ?_ | refine cw_ge ?_ | refine cw_eqI ?_ | refine cw_neI ?_ | refine bl_w ?_ | refine if_t ?_ | refine if_f ?_ | refine w_comp ?_ | refine b_nil ?_ | refine b_par ?_ | refine b_par2 ?_ | refine b_appO rfl ?_ | refine b_extO rfl ?_ | refine fl_rt ?_ | refine fl_nx ?_ | refine And.intro (by assumption) ?_ | refine And.intro rfl ?_ | refine ⟨_, rfl, ?_⟩ | refine ⟨_, _, rfl, rfl, ?_⟩ | refine ⟨_, rfl, rfl, ?_⟩ | refine ⟨_, _, _, rfl, rfl, rfl, ?_⟩ | refine ⟨_, _, _, rfl, rfl, atD0, ?_⟩ | refine ⟨_, _, _, rfl, rfl, atD1, ?_⟩ | refine ⟨_, _, rfl, rfl, rfl, ?_⟩ | refine for_cons rfl ?_ | refine for_nil ?_ | dsimp only))
  have g0 : 0 ≤ (i * 1103515245 + 7919 * k + 12345) % 2147483647 := Int.emod_nonneg _ (by decide)
  have g1 : (i * 1103515245 + 7919 * k + 12345) % 2147483647 < 2147483647 := Int.emod_lt_of_pos _ (by decide)
  generalize (i * 1103515245 + 7919 * k + 12345) % 2147483647 = s at *
  refine bw_pow ?_ ?_
  · unfold powOk
    refine decide_eq_true ⟨by decide, by decide, by omega⟩
  (repeat' (first | refine w_v rfl ?_ | refine w_int ?_ | refine w_bl ?_ | refine w_non ?_ | refine w_str ?_ | refine w_cons ?_ | refine w_nil ?_ | refine w_bin ?_ | refine w_cmp ?_ | refine w_call ?_ | refine w_bi ?_ | refine w_isi ?_ | refine w_ix ?_ | refine w_and ?_ | refine w_or ?_ | refine w_not ?_ | refine w_chn ?_ | refine w_tup ?_ | refine w_lst ?_ | refine w_ite ?_ | refine w_neg ?_ | refine w_sl ?_ | refine sl_t ?_ | refine sl_n ?_ | refine sl_b ?_ | refine sl_l ?_ | refine w_rev ?_ | refine rv_t ?_ | refine rv_n ?_ | refine rv_l ?_ | refine rv_b ?_ | refine w_onone ?_ | refine w_osome ?_ | refine b_asg ?_ | refine b_ret ?_ | refine b_retN ?_ | refine b_expr ?_ | refine b_pass ?_ | refine b_ifs ?_ | refine b_for ?_ | refine b_asgO ?_ | refine b_asgR ?_ | refine bw_add ?_ | refine bw_sub ?_ | refine cw_lt ?_ | refine cw_le ?_ | refine cw_gt ?_ | refine cw_ge ?_ | refine cw_eqI ?_ | refine cw_neI ?_ | refine bl_w ?_ | refine if_t ?_ | refine if_f ?_ | refine w_comp ?_ | refine b_nil ?_ | refine b_par ?_ | refine b_par2 ?_ | refine b_appO rfl ?_ | refine b_extO rfl ?_ | refine fl_rt ?_ | refine fl_nx ?_ | refine And.intro (by assumption) ?_ | refine And.intro rfl ?_ | refine ⟨_, rfl, ?_⟩ | refine ⟨_, _, rfl, rfl, ?_⟩ | refine ⟨_, rfl, rfl, ?_⟩ | refine ⟨_, _, _, rfl, rfl, rfl, ?_⟩ | refine ⟨_, _, _, rfl, rfl, atD0, ?_⟩ | refine ⟨_, _, _, rfl, rfl, atD1, ?_⟩ | refine ⟨_, _, rfl, rfl, rfl, ?_⟩ | refine for_cons rfl ?_ | refine for_nil ?_ | dsimp only))
  refine bw_mod hm ?_
  (repeat' (first | refine w_v rfl ?_ | refine w_int ?_ | refine w_bl ?_ | refine w_non ?_ | refine w_str ?_ | refine w_cons ?_ | refine w_nil ?_ | refine w_bin ?_ | refine w_cmp ?_ | refine w_call ?_ | refine w_bi ?_ | refine w_isi ?_ | refine w_ix ?_ | refine w_and ?_ | refine w_or ?_ | refine w_not ?_ | refine w_chn ?_ | refine w_tup ?_ | refine w_lst ?_ | refine w_ite ?_ | refine w_neg ?_ | refine w_sl ?_ | refine sl_t ?_ | refine sl_n ?_ | refine sl_b ?_ | refine sl_l ?_ | refine w_rev ?_ | refine rv_t ?_ | refine rv_n ?_ | refine rv_l ?_ | refine rv_b ?_ | refine w_onone ?_ | refine w_osome ?_ | refine b_asg ?_ | refine b_ret ?_ | refine b_retN ?_ | refine b_expr ?_ | refine b_pass ?_ | refine b_ifs ?_ | refine b_for ?_ | refine b_asgO ?_ | refine b_asgR ?_ | refine bw_add ?_ | refine bw_sub ?_ | refine cw_lt ?_ | refine cw_le ?_ | refine cw_gt ?_ | refine cw_ge ?_ | refine cw_eqI ?_ | refine cw_neI ?_ | refine bl_w ?_ | refine if_t ?_ | refine if_f ?_ | refine w_comp ?_ | refine b_nil ?_ | refine b_par ?_ | refine b_par2 ?_ | refine b_appO rfl ?_ | refine b_extO rfl ?_ | refine fl_rt ?_ | refine fl_nx ?_ | refine And.intro (by assumption) ?_ | refine And.intro rfl ?_ | refine ⟨_, rfl, ?_⟩ | refine ⟨_, _, rfl, rfl, ?_⟩ | refine ⟨_, rfl, rfl, ?_⟩ | refine ⟨_, _, _, rfl, rfl, rfl, ?_⟩ | refine ⟨_, _, _, rfl, rfl, atD0, ?_⟩ | refine ⟨_, _, _, rfl, rfl, atD1, ?_⟩ | refine ⟨_, _, rfl, rfl, rfl, ?_⟩ | refine for_cons rfl ?_ | refine for_nil ?_ | dsimp only))
  exact ⟨⟨_, rfl, Int.emod_nonneg _ (Int.ne_of_gt hm), Int.emod_lt_of_pos _ hm⟩, rfl⟩
/-- the state: one list of the heap, of at most k entries; the rest is h0's -/
def Sta (i : Nat) (h0 : MH) (k : Nat) (h : MH) : Prop := i < h0.length ∧ ∃ zs, h = h0.set i (.lst zs) ∧ zs.length ≤ k ∧ ∀ z ∈ zs, z = .int 0
theorem Sta.len {i k : Nat} {h0 h : MH} (s : Sta i h0 k h) : h.length = h0.length := by
  obtain ⟨_, zs, rfl, _⟩ := s
  simp
theorem Sta.mono {i k m : Nat} {h0 h : MH} (s : Sta i h0 k h) (e : k ≤ m) : Sta i h0 m h := by
  obtain ⟨a, zs, b, c, d⟩ := s
  exact ⟨a, zs, b, by omega, d⟩
structure PDr (p : Pg) : Prop where
  h6 : p.Pt 6 = some f_law_cell_at
  h7 : p.Pt 7 = some f_law_mixed
  h8 : p.Pt 8 = some f_law_draw
structure PLaw (p : Pg) : Prop extends PDr p where
  h9 : p.Pt 9 = some f_law_pick
  h10 : p.Pt 10 = some f_law_some_numbers
  h11 : p.Pt 11 = some f_law_some_exchange
  h12 : p.Pt 12 = some f_law_some_board
theorem draw_wp {p : Pg} (L : PDr p) {n i k : Nat} {h0 : MH} {ns : List Int} {many : Int} {h : MH} (hs : Sta i h0 k h) (hk : k < 1000000) (hm : 0 < many) (hl : ns.length ≤ 1000) :
    (p.c (n + 3) 8 [.v (scD ns), .v (.obj i), .v (.int many)] h).wp fun r h' => (∃ i, r = .v (.int i) ∧ 0 ≤ i ∧ i < many) ∧ Sta i h0 (k + 1) h' := by
  refine Pg.call_wp L.h8 rfl ?_
  unfold f_law_draw b_law_draw
  obtain ⟨hi, zs, rfl, hz, hz2⟩ := hs
  have e : (h0.set i (.lst zs))[i]? = some (.lst zs) := List.getElem?_set_self hi
  refine b_appR rfl e ?_
  (repeat' (first | refine w_v rfl ?_ | refine w_int ?_ | refine w_bl ?_ | refine w_non ?_ | refine w_str ?_ | refine w_cons ?_ | refine w_nil ?_ | refine w_bin ?_ | refine w_cmp ?_ | refine w_call ?_ | refine w_bi ?_ | refine w_isi ?_ | refine w_ix ?_ | refine w_and ?_ | refine w_or ?_ | refine w_not ?_ | refine w_chn ?_ | refine w_tup ?_ | refine w_lst ?_ | refine w_ite ?_ | refine w_neg ?_ | refine w_sl ?_ | refine sl_t ?_ | refine sl_n ?_ | refine sl_b ?_ | refine sl_l ?_ | refine w_rev ?_ | refine rv_t ?_ | refine rv_n ?_ | refine rv_l ?_ | refine rv_b ?_ | refine w_onone ?_ | refine w_osome ?_ | refine b_asg ?_ | refine b_ret ?_ | refine b_retN ?_ | refine b_expr ?_ | refine b_pass ?_ | refine b_ifs ?_ | refine b_for ?_ | refine b_asgO ?_ | refine b_asgR ?_ | refine bw_add ?_ | refine bw_sub ?_ | refine cw_lt ?_ | refine cw_le ?_ | refine cw_gt ?_ | refine cw_ge ?_ | refine cw_eqI ?_ | refine cw_neI ?_ | refine bl_w ?_ | refine if_t ?_ | refine if_f ?_ | refine w_comp ?_ | refine b_nil ?_ | refine b_par ?_ | refine b_par2 ?_ | refine b_appO rfl ?_ | refine b_extO rfl ?_ | refine fl_rt ?_ | refine fl_nx ?_ | refine And.intro (by assumption) ?_ | refine And.intro rfl ?_ | refine ⟨_, rfl, ?_⟩ | refine ⟨_, _, rfl, rfl, ?_⟩ | refine ⟨_, rfl, rfl, ?_⟩ | refine ⟨_, _, _, rfl, rfl, rfl, ?_⟩ | refine ⟨_, _, _, rfl, rfl, atD0, ?_⟩ | refine ⟨_, _, _, rfl, rfl, atD1, ?_⟩ | refine ⟨_, _, rfl, rfl, rfl, ?_⟩ | refine for_cons rfl ?_ | refine for_nil ?_ | dsimp only))
  refine ⟨by unfold small; exact decide_eq_true (by omega), ?_⟩
  (repeat' (first | refine w_v rfl ?_ | refine w_int ?_ | refine w_bl ?_ | refine w_non ?_ | refine w_str ?_ | refine w_cons ?_ | refine w_nil ?_ | refine w_bin ?_ | refine w_cmp ?_ | refine w_call ?_ | refine w_bi ?_ | refine w_isi ?_ | refine w_ix ?_ | refine w_and ?_ | refine w_or ?_ | refine w_not ?_ | refine w_chn ?_ | refine w_tup ?_ | refine w_lst ?_ | refine w_ite ?_ | refine w_neg ?_ | refine w_sl ?_ | refine sl_t ?_ | refine sl_n ?_ | refine sl_b ?_ | refine sl_l ?_ | refine w_rev ?_ | refine rv_t ?_ | refine rv_n ?_ | refine rv_l ?_ | refine rv_b ?_ | refine w_onone ?_ | refine w_osome ?_ | refine b_asg ?_ | refine b_ret ?_ | refine b_retN ?_ | refine b_expr ?_ | refine b_pass ?_ | refine b_ifs ?_ | refine b_for ?_ | refine b_asgO ?_ | refine b_asgR ?_ | refine bw_add ?_ | refine bw_sub ?_ | refine cw_lt ?_ | refine cw_le ?_ | refine cw_gt ?_ | refine cw_ge ?_ | refine cw_eqI ?_ | refine cw_neI ?_ | refine bl_w ?_ | refine if_t ?_ | refine if_f ?_ | refine w_comp ?_ | refine b_nil ?_ | refine b_par ?_ | refine b_par2 ?_ | refine b_appO rfl ?_ | refine b_extO rfl ?_ | refine fl_rt ?_ | refine fl_nx ?_ | refine And.intro (by assumption) ?_ | refine And.intro rfl ?_ | refine ⟨_, rfl, ?_⟩ | refine ⟨_, _, rfl, rfl, ?_⟩ | refine ⟨_, rfl, rfl, ?_⟩ | refine ⟨_, _, _, rfl, rfl, rfl, ?_⟩ | refine ⟨_, _, _, rfl, rfl, atD0, ?_⟩ | refine ⟨_, _, _, rfl, rfl, atD1, ?_⟩ | refine ⟨_, _, rfl, rfl, rfl, ?_⟩ | refine for_cons rfl ?_ | refine for_nil ?_ | dsimp only))
  refine ⟨.v (.int ((zs ++ [D.int 0]).length : Nat)), by simp [biR, hi], ?_⟩
  (repeat' (first | refine w_v rfl ?_ | refine w_int ?_ | refine w_bl ?_ | refine w_non ?_ | refine w_str ?_ | refine w_cons ?_ | refine w_nil ?_ | refine w_bin ?_ | refine w_cmp ?_ | refine w_call ?_ | refine w_bi ?_ | refine w_isi ?_ | refine w_ix ?_ | refine w_and ?_ | refine w_or ?_ | refine w_not ?_ | refine w_chn ?_ | refine w_tup ?_ | refine w_lst ?_ | refine w_ite ?_ | refine w_neg ?_ | refine w_sl ?_ | refine sl_t ?_ | refine sl_n ?_ | refine sl_b ?_ | refine sl_l ?_ | refine w_rev ?_ | refine rv_t ?_ | refine rv_n ?_ | refine rv_l ?_ | refine rv_b ?_ | refine w_onone ?_ | refine w_osome ?_ | refine b_asg ?_ | refine b_ret ?_ | refine b_retN ?_ | refine b_expr ?_ | refine b_pass ?_ | refine b_ifs ?_ | refine b_for ?_ | refine b_asgO ?_ | refine b_asgR ?_ | refine bw_add ?_ | refine bw_sub ?_ | refine cw_lt ?_ | refine cw_le ?_ | refine cw_gt ?_ | refine cw_ge ?_ | refine cw_eqI ?_ | refine cw_neI ?_ | refine bl_w ?_ | refine if_t ?_ | refine if_f ?_ | refine w_comp ?_ | refine b_nil ?_ | refine b_par ?_ | refine b_par2 ?_ | refine b_appO rfl ?_ | refine b_extO rfl ?_ | refine fl_rt ?_ | refine fl_nx ?_ | refine And.intro (by assumption) ?_ | refine And.intro rfl ?_ | refine ⟨_, rfl, ?_⟩ | refine ⟨_, _, rfl, rfl, ?_⟩ | refine ⟨_, rfl, rfl, ?_⟩ | refine ⟨_, _, _, rfl, rfl, rfl, ?_⟩ | refine ⟨_, _, _, rfl, rfl, atD0, ?_⟩ | refine ⟨_, _, _, rfl, rfl, atD1, ?_⟩ | refine ⟨_, _, rfl, rfl, rfl, ?_⟩ | refine for_cons rfl ?_ | refine for_nil ?_ | dsimp only))
  refine O.wp_mono (mixed_wp L.h6 L.h7 (by omega) hm hl) fun r h' z => ?_
  obtain ⟨⟨j, rfl, j0, j1⟩, rfl⟩ := z
  (repeat' (first | refine w_v rfl ?_ | refine w_int ?_ | refine w_bl ?_ | refine w_non ?_ | refine w_str ?_ | refine w_cons ?_ | refine w_nil ?_ | refine w_bin ?_ | refine w_cmp ?_ | refine w_call ?_ | refine w_bi ?_ | refine w_isi ?_ | refine w_ix ?_ | refine w_and ?_ | refine w_or ?_ | refine w_not ?_ | refine w_chn ?_ | refine w_tup ?_ | refine w_lst ?_ | refine w_ite ?_ | refine w_neg ?_ | refine w_sl ?_ | refine sl_t ?_ | refine sl_n ?_ | refine sl_b ?_ | refine sl_l ?_ | refine w_rev ?_ | refine rv_t ?_ | refine rv_n ?_ | refine rv_l ?_ | refine rv_b ?_ | refine w_onone ?_ | refine w_osome ?_ | refine b_asg ?_ | refine b_ret ?_ | refine b_retN ?_ | refine b_expr ?_ | refine b_pass ?_ | refine b_ifs ?_ | refine b_for ?_ | refine b_asgO ?_ | refine b_asgR ?_ | refine bw_add ?_ | refine bw_sub ?_ | refine cw_lt ?_ | refine cw_le ?_ | refine cw_gt ?_ | refine cw_ge ?_ | refine cw_eqI ?_ | refine cw_neI ?_ | refine bl_w ?_ | refine if_t ?_ | refine if_f ?_ | refine w_comp ?_ | refine b_nil ?_ | refine b_par ?_ | refine b_par2 ?_ | refine b_appO rfl ?_ | refine b_extO rfl ?_ | refine fl_rt ?_ | refine fl_nx ?_ | refine And.intro (by assumption) ?_ | refine And.intro rfl ?_ | refine ⟨_, rfl, ?_⟩ | refine ⟨_, _, rfl, rfl, ?_⟩ | refine ⟨_, rfl, rfl, ?_⟩ | refine ⟨_, _, _, rfl, rfl, rfl, ?_⟩ | refine ⟨_, _, _, rfl, rfl, atD0, ?_⟩ | refine ⟨_, _, _, rfl, rfl, atD1, ?_⟩ | refine ⟨_, _, rfl, rfl, rfl, ?_⟩ | refine for_cons rfl ?_ | refine for_nil ?_ | dsimp only))
  refine ⟨by simp, ⟨_, rfl, j0, j1⟩, hi, zs ++ [.int 0], by simp, by simp; omega, ?_⟩
  intro z hz
  rcases List.mem_append.mp hz with q | q
  · exact hz2 z q
  · simpa using q
theorem pick_wp {p : Pg} (L : PDr p) (h9 : p.Pt 9 = some f_law_pick) {n i k : Nat} {h0 : MH} {ns : List Int} {xs : List D} {h : MH} (hs : Sta i h0 k h) (hk : k < 1000000) (hx : 0 < xs.length) (hl : ns.length ≤ 1000) :
    (p.c (n + 4) 9 [.v (scD ns), .v (.obj i), .v (.tup xs)] h).wp fun r h' => (∃ d ∈ xs, r = .v d) ∧ Sta i h0 (k + 1) h' := by
  refine Pg.call_wp h9 rfl ?_
  unfold f_law_pick b_law_pick
  (repeat' (first | refine w_v rfl ?_ | refine w_int ?_ | refine w_bl ?_ | refine w_non ?_ | refine w_str ?_ | refine w_cons ?_ | refine w_nil ?_ | refine w_bin ?_ | refine w_cmp ?_ | refine w_call ?_ | refine w_bi ?_ | refine w_isi ?_ | refine w_ix ?_ | refine w_and ?_ | refine w_or ?_ | refine w_not ?_ | refine w_chn ?_ | refine w_tup ?_ | refine w_lst ?_ | refine w_ite ?_ | refine w_neg ?_ | refine w_sl ?_ | refine sl_t ?_ | refine sl_n ?_ | refine sl_b ?_ | refine sl_l ?_ | refine w_rev ?_ | refine rv_t ?_ | refine rv_n ?_ | refine rv_l ?_ | refine rv_b ?_ | refine w_onone ?_ | refine w_osome ?_ | refine b_asg ?_ | refine b_ret ?_ | refine b_retN ?_ | refine b_expr ?_ | refine b_pass ?_ | refine b_ifs ?_ | refine b_for ?_ | refine b_asgO ?_ | refine b_asgR ?_ | refine bw_add ?_ | refine bw_sub ?_ | refine cw_lt ?_ | refine cw_le ?_ | refine cw_gt ?_ | refine cw_ge ?_ | refine cw_eqI ?_ | refine cw_neI ?_ | refine bl_w ?_ | refine if_t ?_ | refine if_f ?_ | refine w_comp ?_ | refine b_nil ?_ | refine b_par ?_ | refine b_par2 ?_ | refine b_appO rfl ?_ | refine b_extO rfl ?_ | refine fl_rt ?_ | refine fl_nx ?_ | refine And.intro (by assumption) ?_ | refine And.intro rfl ?_ | refine ⟨_, rfl, ?_⟩ | refine ⟨_, _, rfl, rfl, ?_⟩ | refine ⟨_, rfl, rfl, ?_⟩ | refine ⟨_, _, _, rfl, rfl, rfl, ?_⟩ | refine ⟨_, _, _, rfl, rfl, atD0, ?_⟩ | refine ⟨_, _, _, rfl, rfl, atD1, ?_⟩ | refine ⟨_, _, rfl, rfl, rfl, ?_⟩ | refine for_cons rfl ?_ | refine for_nil ?_ | dsimp only))
  refine O.wp_mono (draw_wp L hs hk (by omega) hl) fun r h' z => ?_
  obtain ⟨⟨j, rfl, j0, j1⟩, s⟩ := z
  obtain ⟨d, e, m⟩ := atD_nat j0 j1
  refine ⟨_, _, _, rfl, rfl, e, ?_⟩
  (repeat' (first | refine w_v rfl ?_ | refine w_int ?_ | refine w_bl ?_ | refine w_non ?_ | refine w_str ?_ | refine w_cons ?_ | refine w_nil ?_ | refine w_bin ?_ | refine w_cmp ?_ | refine w_call ?_ | refine w_bi ?_ | refine w_isi ?_ | refine w_ix ?_ | refine w_and ?_ | refine w_or ?_ | refine w_not ?_ | refine w_chn ?_ | refine w_tup ?_ | refine w_lst ?_ | refine w_ite ?_ | refine w_neg ?_ | refine w_sl ?_ | refine sl_t ?_ | refine sl_n ?_ | refine sl_b ?_ | refine sl_l ?_ | refine w_rev ?_ | refine rv_t ?_ | refine rv_n ?_ | refine rv_l ?_ | refine rv_b ?_ | refine w_onone ?_ | refine w_osome ?_ | refine b_asg ?_ | refine b_ret ?_ | refine b_retN ?_ | refine b_expr ?_ | refine b_pass ?_ | refine b_ifs ?_ | refine b_for ?_ | refine b_asgO ?_ | refine b_asgR ?_ | refine bw_add ?_ | refine bw_sub ?_ | refine cw_lt ?_ | refine cw_le ?_ | refine cw_gt ?_ | refine cw_ge ?_ | refine cw_eqI ?_ | refine cw_neI ?_ | refine bl_w ?_ | refine if_t ?_ | refine if_f ?_ | refine w_comp ?_ | refine b_nil ?_ | refine b_par ?_ | refine b_par2 ?_ | refine b_appO rfl ?_ | refine b_extO rfl ?_ | refine fl_rt ?_ | refine fl_nx ?_ | refine And.intro (by assumption) ?_ | refine And.intro rfl ?_ | refine ⟨_, rfl, ?_⟩ | refine ⟨_, _, rfl, rfl, ?_⟩ | refine ⟨_, rfl, rfl, ?_⟩ | refine ⟨_, _, _, rfl, rfl, rfl, ?_⟩ | refine ⟨_, _, _, rfl, rfl, atD0, ?_⟩ | refine ⟨_, _, _, rfl, rfl, atD1, ?_⟩ | refine ⟨_, _, rfl, rfl, rfl, ?_⟩ | refine for_cons rfl ?_ | refine for_nil ?_ | dsimp only))
  exact ⟨by rw [s.len, hs.len], ⟨d, m, rfl⟩, s⟩
theorem pickL_wp {p : Pg} (L : PDr p) (h9 : p.Pt 9 = some f_law_pick) {n i k : Nat} {h0 : MH} {ns : List Int} {xs : List D} {h : MH} (hs : Sta i h0 k h) (hk : k < 1000000) (hx : 0 < xs.length) (hl : ns.length ≤ 1000) :
    (p.c (n + 4) 9 [.v (scD ns), .v (.obj i), .v (.lst xs)] h).wp fun r h' => (∃ d ∈ xs, r = .v d) ∧ Sta i h0 (k + 1) h' := by
  refine Pg.call_wp h9 rfl ?_
  unfold f_law_pick b_law_pick
  (repeat' (first | refine w_v rfl ?_ | refine w_int ?_ | refine w_bl ?_ | refine w_non ?_ | refine w_str ?_ | refine w_cons ?_ | refine w_nil ?_ | refine w_bin ?_ | refine w_cmp ?_ | refine w_call ?_ | refine w_bi ?_ | refine w_isi ?_ | refine w_ix ?_ | refine w_and ?_ | refine w_or ?_ | refine w_not ?_ | refine w_chn ?_ | refine w_tup ?_ | refine w_lst ?_ | refine w_ite ?_ | refine w_neg ?_ | refine w_sl ?_ | refine sl_t ?_ | refine sl_n ?_ | refine sl_b ?_ | refine sl_l ?_ | refine w_rev ?_ | refine rv_t ?_ | refine rv_n ?_ | refine rv_l ?_ | refine rv_b ?_ | refine w_onone ?_ | refine w_osome ?_ | refine b_asg ?_ | refine b_ret ?_ | refine b_retN ?_ | refine b_expr ?_ | refine b_pass ?_ | refine b_ifs ?_ | refine b_for ?_ | refine b_asgO ?_ | refine b_asgR ?_ | refine bw_add ?_ | refine bw_sub ?_ | refine cw_lt ?_ | refine cw_le ?_ | refine cw_gt ?_ | refine cw_ge ?_ | refine cw_eqI ?_ | refine cw_neI ?_ | refine bl_w ?_ | refine if_t ?_ | refine if_f ?_ | refine w_comp ?_ | refine b_nil ?_ | refine b_par ?_ | refine b_par2 ?_ | refine b_appO rfl ?_ | refine b_extO rfl ?_ | refine fl_rt ?_ | refine fl_nx ?_ | refine And.intro (by assumption) ?_ | refine And.intro rfl ?_ | refine ⟨_, rfl, ?_⟩ | refine ⟨_, _, rfl, rfl, ?_⟩ | refine ⟨_, rfl, rfl, ?_⟩ | refine ⟨_, _, _, rfl, rfl, rfl, ?_⟩ | refine ⟨_, _, _, rfl, rfl, atD0, ?_⟩ | refine ⟨_, _, _, rfl, rfl, atD1, ?_⟩ | refine ⟨_, _, rfl, rfl, rfl, ?_⟩ | refine for_cons rfl ?_ | refine for_nil ?_ | dsimp only))
  refine O.wp_mono (draw_wp L hs hk (by omega) hl) fun r h' z => ?_
  obtain ⟨⟨j, rfl, j0, j1⟩, s⟩ := z
  obtain ⟨d, e, m⟩ := atD_nat j0 j1
  refine ⟨_, _, _, rfl, rfl, e, ?_⟩
  (repeat' (first | refine w_v rfl ?_ | refine w_int ?_ | refine w_bl ?_ | refine w_non ?_ | refine w_str ?_ | refine w_cons ?_ | refine w_nil ?_ | refine w_bin ?_ | refine w_cmp ?_ | refine w_call ?_ | refine w_bi ?_ | refine w_isi ?_ | refine w_ix ?_ | refine w_and ?_ | refine w_or ?_ | refine w_not ?_ | refine w_chn ?_ | refine w_tup ?_ | refine w_lst ?_ | refine w_ite ?_ | refine w_neg ?_ | refine w_sl ?_ | refine sl_t ?_ | refine sl_n ?_ | refine sl_b ?_ | refine sl_l ?_ | refine w_rev ?_ | refine rv_t ?_ | refine rv_n ?_ | refine rv_l ?_ | refine rv_b ?_ | refine w_onone ?_ | refine w_osome ?_ | refine b_asg ?_ | refine b_ret ?_ | refine b_retN ?_ | refine b_expr ?_ | refine b_pass ?_ | refine b_ifs ?_ | refine b_for ?_ | refine b_asgO ?_ | refine b_asgR ?_ | refine bw_add ?_ | refine bw_sub ?_ | refine cw_lt ?_ | refine cw_le ?_ | refine cw_gt ?_ | refine cw_ge ?_ | refine cw_eqI ?_ | refine cw_neI ?_ | refine bl_w ?_ | refine if_t ?_ | refine if_f ?_ | refine w_comp ?_ | refine b_nil ?_ | refine b_par ?_ | refine b_par2 ?_ | refine b_appO rfl ?_ | refine b_extO rfl ?_ | refine fl_rt ?_ | refine fl_nx ?_ | refine And.intro (by assumption) ?_ | refine And.intro rfl ?_ | refine ⟨_, rfl, ?_⟩ | refine ⟨_, _, rfl, rfl, ?_⟩ | refine ⟨_, rfl, rfl, ?_⟩ | refine ⟨_, _, _, rfl, rfl, rfl, ?_⟩ | refine ⟨_, _, _, rfl, rfl, atD0, ?_⟩ | refine ⟨_, _, _, rfl, rfl, atD1, ?_⟩ | refine ⟨_, _, rfl, rfl, rfl, ?_⟩ | refine for_cons rfl ?_ | refine for_nil ?_ | dsimp only))
  exact ⟨by rw [s.len, hs.len], ⟨d, m, rfl⟩, s⟩
theorem some_numbers_wp {p : Pg} (L : PLaw p) {n i k : Nat} {h0 : MH} {ns : List Int} {t hi : Int} {h : MH} (hs : Sta i h0 k h) (hk : k + t.toNat < 1000000) (ht : 0 ≤ t) (hh : 0 ≤ hi) (hl : ns.length ≤ 1000) :
    (p.c (n + 4) 10 [.v (scD ns), .v (.obj i), .v (.int t), .v (.int hi)] h).wp fun r h' => (∃ xs : List Int, r = .v (tupI xs) ∧ (xs.length : Int) = t ∧ ∀ x ∈ xs, 0 ≤ x ∧ x ≤ hi) ∧ Sta i h0 (k + t.toNat) h' := by
  refine Pg.call_wp L.h10 rfl ?_
  unfold f_law_some_numbers b_law_some_numbers
  (repeat' (first | refine w_v rfl ?_ | refine w_int ?_ | refine w_bl ?_ | refine w_non ?_ | refine w_str ?_ | refine w_cons ?_ | refine w_nil ?_ | refine w_bin ?_ | refine w_cmp ?_ | refine w_call ?_ | refine w_bi ?_ | refine w_isi ?_ | refine w_ix ?_ | refine w_and ?_ | refine w_or ?_ | refine w_not ?_ | refine w_chn ?_ | refine w_tup ?_ | refine w_lst ?_ | refine w_ite ?_ | refine w_neg ?_ | refine w_sl ?_ | refine sl_t ?_ | refine sl_n ?_ | refine sl_b ?_ | refine sl_l ?_ | refine w_rev ?_ | refine rv_t ?_ | refine rv_n ?_ | refine rv_l ?_ | refine rv_b ?_ | refine w_onone ?_ | refine w_osome ?_ | refine b_asg ?_ | refine b_ret ?_ | refine b_retN ?_ | refine b_expr ?_ | refine b_pass ?_ | refine b_ifs ?_ | refine b_for ?_ | refine b_asgO ?_ | refine b_asgR ?_ | refine bw_add ?_ | refine bw_sub ?_ | refine cw_lt ?_ | refine cw_le ?_ | refine cw_gt ?_ | refine cw_ge ?_ | refine cw_eqI ?_ | refine cw_neI ?_ | refine bl_w ?_ | refine if_t ?_ | refine if_f ?_ | refine w_comp ?_ | refine b_nil ?_ | refine b_par ?_ | refine b_par2 ?_ | refine b_appO rfl ?_ | refine b_extO rfl ?_ | refine fl_rt ?_ | refine fl_nx ?_ | refine And.intro (by assumption) ?_ | refine And.intro rfl ?_ | refine ⟨_, rfl, ?_⟩ | refine ⟨_, _, rfl, rfl, ?_⟩ | refine ⟨_, rfl, rfl, ?_⟩ | refine ⟨_, _, _, rfl, rfl, rfl, ?_⟩ | refine ⟨_, _, _, rfl, rfl, atD0, ?_⟩ | refine ⟨_, _, _, rfl, rfl, atD1, ?_⟩ | refine ⟨_, _, rfl, rfl, rfl, ?_⟩ | refine for_cons rfl ?_ | refine for_nil ?_ | dsimp only))
  refine it_rng (by omega) (by omega) ?_
  refine c_inv (J := fun acc h => (∃ xs : List Int, acc = xs.map .int ∧ ∀ x ∈ xs, 0 ≤ x ∧ x ≤ hi) ∧ Sta i h0 (k + acc.length) h) ⟨⟨[], rfl, by simp⟩, hs⟩ (fun d hd acc h ha J => ?_) (by rw [rngD_len]; omega) fun ys h' hy J => ?_
  · obtain ⟨⟨xs, rfl, hx⟩, s⟩ := J
    refine ⟨_, rfl, ?_⟩
    rw [rngD_len] at ha
    simp only [List.length_map] at ha s
    (repeat' (first | refine w_v rfl ?_ | refine w_int ?_ | refine w_bl ?_ | refine w_non ?_ | refine w_str ?_ | refine w_cons ?_ | refine w_nil ?_ | refine w_bin ?_ | refine w_cmp ?_ | refine w_call ?_ | refine w_bi ?_ | refine w_isi ?_ | refine w_ix ?_ | refine w_and ?_ | refine w_or ?_ | refine w_not ?_ | refine w_chn ?_ | refine w_tup ?_ | refine w_lst ?_ | refine w_ite ?_ | refine w_neg ?_ | refine w_sl ?_ | refine sl_t ?_ | refine sl_n ?_ | refine sl_b ?_ | refine sl_l ?_ | refine w_rev ?_ | refine rv_t ?_ | refine rv_n ?_ | refine rv_l ?_ | refine rv_b ?_ | refine w_onone ?_ | refine w_osome ?_ | refine b_asg ?_ | refine b_ret ?_ | refine b_retN ?_ | refine b_expr ?_ | refine b_pass ?_ | refine b_ifs ?_ | refine b_for ?_ | refine b_asgO ?_ | refine b_asgR ?_ | refine bw_add ?_ | refine bw_sub ?_ | refine cw_lt ?_ | refine cw_le ?_ | refine cw_gt ?_ | refine cw_ge ?_ | refine cw_eqI ?_ | refine cw_neI ?_ | refine bl_w ?_ | refine if_t ?_ | refine if_f ?_ | refine w_comp ?_ | refine b_nil ?_ | refine b_par ?_ | refine b_par2 ?_ | refine b_appO rfl ?_ | refine b_extO rfl ?_ | refine fl_rt ?_ | refine fl_nx ?_ | refine And.intro (by assumption) ?_ | refine And.intro rfl ?_ | refine ⟨_, rfl, ?_⟩ | refine ⟨_, _, rfl, rfl, ?_⟩ | refine ⟨_, rfl, rfl, ?_⟩ | refine ⟨_, _, _, rfl, rfl, rfl, ?_⟩ | refine ⟨_, _, _, rfl, rfl, atD0, ?_⟩ | refine ⟨_, _, _, rfl, rfl, atD1, ?_⟩ | refine ⟨_, _, rfl, rfl, rfl, ?_⟩ | refine for_cons rfl ?_ | refine for_nil ?_ | dsimp only))
    refine O.wp_mono (draw_wp L.toPDr s (by omega) (by omega) hl) fun r h' z => ?_
    obtain ⟨⟨j, rfl, j0, j1⟩, s⟩ := z
    (repeat' (first | refine w_v rfl ?_ | refine w_int ?_ | refine w_bl ?_ | refine w_non ?_ | refine w_str ?_ | refine w_cons ?_ | refine w_nil ?_ | refine w_bin ?_ | refine w_cmp ?_ | refine w_call ?_ | refine w_bi ?_ | refine w_isi ?_ | refine w_ix ?_ | refine w_and ?_ | refine w_or ?_ | refine w_not ?_ | refine w_chn ?_ | refine w_tup ?_ | refine w_lst ?_ | refine w_ite ?_ | refine w_neg ?_ | refine w_sl ?_ | refine sl_t ?_ | refine sl_n ?_ | refine sl_b ?_ | refine sl_l ?_ | refine w_rev ?_ | refine rv_t ?_ | refine rv_n ?_ | refine rv_l ?_ | refine rv_b ?_ | refine w_onone ?_ | refine w_osome ?_ | refine b_asg ?_ | refine b_ret ?_ | refine b_retN ?_ | refine b_expr ?_ | refine b_pass ?_ | refine b_ifs ?_ | refine b_for ?_ | refine b_asgO ?_ | refine b_asgR ?_ | refine bw_add ?_ | refine bw_sub ?_ | refine cw_lt ?_ | refine cw_le ?_ | refine cw_gt ?_ | refine cw_ge ?_ | refine cw_eqI ?_ | refine cw_neI ?_ | refine bl_w ?_ | refine if_t ?_ | refine if_f ?_ | refine w_comp ?_ | refine b_nil ?_ | refine b_par ?_ | refine b_par2 ?_ | refine b_appO rfl ?_ | refine b_extO rfl ?_ | refine fl_rt ?_ | refine fl_nx ?_ | refine And.intro (by assumption) ?_ | refine And.intro rfl ?_ | refine ⟨_, rfl, ?_⟩ | refine ⟨_, _, rfl, rfl, ?_⟩ | refine ⟨_, rfl, rfl, ?_⟩ | refine ⟨_, _, _, rfl, rfl, rfl, ?_⟩ | refine ⟨_, _, _, rfl, rfl, atD0, ?_⟩ | refine ⟨_, _, _, rfl, rfl, atD1, ?_⟩ | refine ⟨_, _, rfl, rfl, rfl, ?_⟩ | refine for_cons rfl ?_ | refine for_nil ?_ | dsimp only))
    refine ⟨⟨xs ++ [if 0 < j - 2 then j - 2 else 0], by rw [List.map_append]; rfl, ?_⟩, s.mono (by simp; omega)⟩
    intro x hx'
    rcases List.mem_append.mp hx' with q | q
    · exact hx x q
    · simp only [List.mem_singleton] at q
      subst q
      split <;> omega
  · obtain ⟨⟨xs, rfl, hx⟩, s⟩ := J
    rw [rngD_len] at hy
    simp only [List.length_map] at hy s
    (repeat' (first | refine w_v rfl ?_ | refine w_int ?_ | refine w_bl ?_ | refine w_non ?_ | refine w_str ?_ | refine w_cons ?_ | refine w_nil ?_ | refine w_bin ?_ | refine w_cmp ?_ | refine w_call ?_ | refine w_bi ?_ | refine w_isi ?_ | refine w_ix ?_ | refine w_and ?_ | refine w_or ?_ | refine w_not ?_ | refine w_chn ?_ | refine w_tup ?_ | refine w_lst ?_ | refine w_ite ?_ | refine w_neg ?_ | refine w_sl ?_ | refine sl_t ?_ | refine sl_n ?_ | refine sl_b ?_ | refine sl_l ?_ | refine w_rev ?_ | refine rv_t ?_ | refine rv_n ?_ | refine rv_l ?_ | refine rv_b ?_ | refine w_onone ?_ | refine w_osome ?_ | refine b_asg ?_ | refine b_ret ?_ | refine b_retN ?_ | refine b_expr ?_ | refine b_pass ?_ | refine b_ifs ?_ | refine b_for ?_ | refine b_asgO ?_ | refine b_asgR ?_ | refine bw_add ?_ | refine bw_sub ?_ | refine cw_lt ?_ | refine cw_le ?_ | refine cw_gt ?_ | refine cw_ge ?_ | refine cw_eqI ?_ | refine cw_neI ?_ | refine bl_w ?_ | refine if_t ?_ | refine if_f ?_ | refine w_comp ?_ | refine b_nil ?_ | refine b_par ?_ | refine b_par2 ?_ | refine b_appO rfl ?_ | refine b_extO rfl ?_ | refine fl_rt ?_ | refine fl_nx ?_ | refine And.intro (by assumption) ?_ | refine And.intro rfl ?_ | refine ⟨_, rfl, ?_⟩ | refine ⟨_, _, rfl, rfl, ?_⟩ | refine ⟨_, rfl, rfl, ?_⟩ | refine ⟨_, _, _, rfl, rfl, rfl, ?_⟩ | refine ⟨_, _, _, rfl, rfl, atD0, ?_⟩ | refine ⟨_, _, _, rfl, rfl, atD1, ?_⟩ | refine ⟨_, _, rfl, rfl, rfl, ?_⟩ | refine for_cons rfl ?_ | refine for_nil ?_ | dsimp only))
    refine ⟨by rw [s.len, hs.len], ⟨xs, rfl, by omega, hx⟩, s.mono (by omega)⟩
theorem cut_to {xs : List D} {k : Int} (h0 : 0 ≤ k) : cutD xs none (some k) = xs.take k.toNat := by
  obtain ⟨j, rfl⟩ := Int.eq_ofNat_of_zero_le h0
  unfold cutD
  rw [HT.sIx_none, HT.sIx_nat]
  by_cases h : j ≤ xs.length
  · rw [Nat.min_eq_left h]; simp
  · rw [Nat.min_eq_right (by omega)]
    have : (Int.toNat (j : Int)) = j := by omega
    simp only [List.drop_zero, Nat.sub_zero, this]
    rw [List.take_of_length_le (Nat.le_refl _), List.take_of_length_le (by omega)]
theorem cut_from {xs : List D} {k : Int} (h0 : 0 ≤ k) (h1 : k ≤ xs.length) : cutD xs (some k) none = xs.drop k.toNat := by
  obtain ⟨j, rfl⟩ := Int.eq_ofNat_of_zero_le h0
  unfold cutD
  rw [HT.sIx_none, HT.sIx_nat]
  have : min j xs.length = j := by omega
  rw [this, List.take_of_length_le (by simp)]
  simp
theorem sum_nn : ∀ {xs : List Int}, (∀ x ∈ xs, 0 ≤ x) → 0 ≤ xs.sum
  | [], _ => by simp
  | x :: xs, h => by
    have a := h x (by simp)
    have b := sum_nn (xs := xs) fun y hy => h y (by simp [hy])
    simp only [List.sum_cons]
    omega
theorem some_exchange_wp {p : Pg} (L : PLaw p) {n i k : Nat} {h0 : MH} {ns : List Int} {t : Int} {h : MH} (hs : Sta i h0 k h) (hk : k + 20 < 1000000) (ht : 1 ≤ t) (ht2 : t ≤ 4) (hl : ns.length ≤ 1000) :
    (p.c (n + 5) 11 [.v (scD ns), .v (.obj i), .v (.int t)] h).wp fun r h' => (∃ e : Ex, r = .v (exD e) ∧ EV t e) ∧ Sta i h0 (k + 10) h' := by
  refine Pg.call_wp L.h11 rfl ?_
  unfold f_law_some_exchange b_law_some_exchange
  (repeat' (first | refine w_v rfl ?_ | refine w_int ?_ | refine w_bl ?_ | refine w_non ?_ | refine w_str ?_ | refine w_cons ?_ | refine w_nil ?_ | refine w_bin ?_ | refine w_cmp ?_ | refine w_call ?_ | refine w_bi ?_ | refine w_isi ?_ | refine w_ix ?_ | refine w_and ?_ | refine w_or ?_ | refine w_not ?_ | refine w_chn ?_ | refine w_tup ?_ | refine w_lst ?_ | refine w_ite ?_ | refine w_neg ?_ | refine w_sl ?_ | refine sl_t ?_ | refine sl_n ?_ | refine sl_b ?_ | refine sl_l ?_ | refine w_rev ?_ | refine rv_t ?_ | refine rv_n ?_ | refine rv_l ?_ | refine rv_b ?_ | refine w_onone ?_ | refine w_osome ?_ | refine b_asg ?_ | refine b_ret ?_ | refine b_retN ?_ | refine b_expr ?_ | refine b_pass ?_ | refine b_ifs ?_ | refine b_for ?_ | refine b_asgO ?_ | refine b_asgR ?_ | refine bw_add ?_ | refine bw_sub ?_ | refine cw_lt ?_ | refine cw_le ?_ | refine cw_gt ?_ | refine cw_ge ?_ | refine cw_eqI ?_ | refine cw_neI ?_ | refine bl_w ?_ | refine if_t ?_ | refine if_f ?_ | refine w_comp ?_ | refine b_nil ?_ | refine b_par ?_ | refine b_par2 ?_ | refine b_appO rfl ?_ | refine b_extO rfl ?_ | refine fl_rt ?_ | refine fl_nx ?_ | refine And.intro (by assumption) ?_ | refine And.intro rfl ?_ | refine ⟨_, rfl, ?_⟩ | refine ⟨_, _, rfl, rfl, ?_⟩ | refine ⟨_, rfl, rfl, ?_⟩ | refine ⟨_, _, _, rfl, rfl, rfl, ?_⟩ | refine ⟨_, _, _, rfl, rfl, atD0, ?_⟩ | refine ⟨_, _, _, rfl, rfl, atD1, ?_⟩ | refine ⟨_, _, rfl, rfl, rfl, ?_⟩ | refine for_cons rfl ?_ | refine for_nil ?_ | dsimp only))
  refine O.wp_mono (some_numbers_wp L hs (by omega) (by omega) (by omega) hl) fun r h1 z => ?_
  obtain ⟨⟨xs, rfl, hx, hb⟩, s1⟩ := z
  have fin : ∀ (x4 : Option Sl) (h2 : MH) (ys : List Int) (m : Nat), Sta i h0 m h2 → m ≤ k + t.toNat + 2 → (ys.length : Int) = t → (∀ y ∈ ys, 0 ≤ y ∧ y ≤ 5) → 0 < ys.sum →
      xB (p.G (n + 4)) NX [.ret (.tup [(.v 3), (.call 10 [(.v 0), (.v 1), (.v 2), (.int 3)])])] [some (.v (scD ns)), some (.v (.obj i)), some (.v (.int t)), some (.v (tupI ys)), x4] h2 (FlW (fun _ h' => h'.length = h.length ∧ (∃ e : Ex, R.v .non = .v (exD e) ∧ EV t e) ∧ Sta i h0 (k + 10) h') fun r h' => h'.length = h.length ∧ (∃ e : Ex, r = .v (exD e) ∧ EV t e) ∧ Sta i h0 (k + 10) h') := by
    intro x4 h2 ys m s2 hm hy hby hsum
    (repeat' (first | refine w_v rfl ?_ | refine w_int ?_ | refine w_bl ?_ | refine w_non ?_ | refine w_str ?_ | refine w_cons ?_ | refine w_nil ?_ | refine w_bin ?_ | refine w_cmp ?_ | refine w_call ?_ | refine w_bi ?_ | refine w_isi ?_ | refine w_ix ?_ | refine w_and ?_ | refine w_or ?_ | refine w_not ?_ | refine w_chn ?_ | refine w_tup ?_ | refine w_lst ?_ | refine w_ite ?_ | refine w_neg ?_ | refine w_sl ?_ | refine sl_t ?_ | refine sl_n ?_ | refine sl_b ?_ | refine sl_l ?_ | refine w_rev ?_ | refine rv_t ?_ | refine rv_n ?_ | refine rv_l ?_ | refine rv_b ?_ | refine w_onone ?_ | refine w_osome ?_ | refine b_asg ?_ | refine b_ret ?_ | refine b_retN ?_ | refine b_expr ?_ | refine b_pass ?_ | refine b_ifs ?_ | refine b_for ?_ | refine b_asgO ?_ | refine b_asgR ?_ | refine bw_add ?_ | refine bw_sub ?_ | refine cw_lt ?_ | refine cw_le ?_ | refine cw_gt ?_ | refine cw_ge ?_ | refine cw_eqI ?_ | refine cw_neI ?_ | refine bl_w ?_ | refine if_t ?_ | refine if_f ?_ | refine w_comp ?_ | refine b_nil ?_ | refine b_par ?_ | refine b_par2 ?_ | refine b_appO rfl ?_ | refine b_extO rfl ?_ | refine fl_rt ?_ | refine fl_nx ?_ | refine And.intro (by assumption) ?_ | refine And.intro rfl ?_ | refine ⟨_, rfl, ?_⟩ | refine ⟨_, _, rfl, rfl, ?_⟩ | refine ⟨_, rfl, rfl, ?_⟩ | refine ⟨_, _, _, rfl, rfl, rfl, ?_⟩ | refine ⟨_, _, _, rfl, rfl, atD0, ?_⟩ | refine ⟨_, _, _, rfl, rfl, atD1, ?_⟩ | refine ⟨_, _, rfl, rfl, rfl, ?_⟩ | refine for_cons rfl ?_ | refine for_nil ?_ | dsimp only))
    refine O.wp_mono (some_numbers_wp L s2 (by omega) (by omega) (by omega) hl) fun r h3 z => ?_
    obtain ⟨⟨zs, rfl, hz, hbz⟩, s3⟩ := z
    (repeat' (first | refine w_v rfl ?_ | refine w_int ?_ | refine w_bl ?_ | refine w_non ?_ | refine w_str ?_ | refine w_cons ?_ | refine w_nil ?_ | refine w_bin ?_ | refine w_cmp ?_ | refine w_call ?_ | refine w_bi ?_ | refine w_isi ?_ | refine w_ix ?_ | refine w_and ?_ | refine w_or ?_ | refine w_not ?_ | refine w_chn ?_ | refine w_tup ?_ | refine w_lst ?_ | refine w_ite ?_ | refine w_neg ?_ | refine w_sl ?_ | refine sl_t ?_ | refine sl_n ?_ | refine sl_b ?_ | refine sl_l ?_ | refine w_rev ?_ | refine rv_t ?_ | refine rv_n ?_ | refine rv_l ?_ | refine rv_b ?_ | refine w_onone ?_ | refine w_osome ?_ | refine b_asg ?_ | refine b_ret ?_ | refine b_retN ?_ | refine b_expr ?_ | refine b_pass ?_ | refine b_ifs ?_ | refine b_for ?_ | refine b_asgO ?_ | refine b_asgR ?_ | refine bw_add ?_ | refine bw_sub ?_ | refine cw_lt ?_ | refine cw_le ?_ | refine cw_gt ?_ | refine cw_ge ?_ | refine cw_eqI ?_ | refine cw_neI ?_ | refine bl_w ?_ | refine if_t ?_ | refine if_f ?_ | refine w_comp ?_ | refine b_nil ?_ | refine b_par ?_ | refine b_par2 ?_ | refine b_appO rfl ?_ | refine b_extO rfl ?_ | refine fl_rt ?_ | refine fl_nx ?_ | refine And.intro (by assumption) ?_ | refine And.intro rfl ?_ | refine ⟨_, rfl, ?_⟩ | refine ⟨_, _, rfl, rfl, ?_⟩ | refine ⟨_, rfl, rfl, ?_⟩ | refine ⟨_, _, _, rfl, rfl, rfl, ?_⟩ | refine ⟨_, _, _, rfl, rfl, atD0, ?_⟩ | refine ⟨_, _, _, rfl, rfl, atD1, ?_⟩ | refine ⟨_, _, rfl, rfl, rfl, ?_⟩ | refine for_cons rfl ?_ | refine for_nil ?_ | dsimp only))
    refine ⟨by rw [s3.len, hs.len], ⟨(ys, zs), rfl, hy, hz, hby, fun z h => ?_, hsum⟩, s3.mono (by omega)⟩
    have := hbz z h
    omega
  (repeat' (first | refine w_v rfl ?_ | refine w_int ?_ | refine w_bl ?_ | refine w_non ?_ | refine w_str ?_ | refine w_cons ?_ | refine w_nil ?_ | refine w_bin ?_ | refine w_cmp ?_ | refine w_call ?_ | refine w_bi ?_ | refine w_isi ?_ | refine w_ix ?_ | refine w_and ?_ | refine w_or ?_ | refine w_not ?_ | refine w_chn ?_ | refine w_tup ?_ | refine w_lst ?_ | refine w_ite ?_ | refine w_neg ?_ | refine w_sl ?_ | refine sl_t ?_ | refine sl_n ?_ | refine sl_b ?_ | refine sl_l ?_ | refine w_rev ?_ | refine rv_t ?_ | refine rv_n ?_ | refine rv_l ?_ | refine rv_b ?_ | refine w_onone ?_ | refine w_osome ?_ | refine b_asg ?_ | refine b_ret ?_ | refine b_retN ?_ | refine b_expr ?_ | refine b_pass ?_ | refine b_ifs ?_ | refine b_for ?_ | refine b_asgO ?_ | refine b_asgR ?_ | refine bw_add ?_ | refine bw_sub ?_ | refine cw_lt ?_ | refine cw_le ?_ | refine cw_gt ?_ | refine cw_ge ?_ | refine cw_eqI ?_ | refine cw_neI ?_ | refine bl_w ?_ | refine if_t ?_ | refine if_f ?_ | refine w_comp ?_ | refine b_nil ?_ | refine b_par ?_ | refine b_par2 ?_ | refine b_appO rfl ?_ | refine b_extO rfl ?_ | refine fl_rt ?_ | refine fl_nx ?_ | refine And.intro (by assumption) ?_ | refine And.intro rfl ?_ | refine ⟨_, rfl, ?_⟩ | refine ⟨_, _, rfl, rfl, ?_⟩ | refine ⟨_, rfl, rfl, ?_⟩ | refine ⟨_, _, _, rfl, rfl, rfl, ?_⟩ | refine ⟨_, _, _, rfl, rfl, atD0, ?_⟩ | refine ⟨_, _, _, rfl, rfl, atD1, ?_⟩ | refine ⟨_, _, rfl, rfl, rfl, ?_⟩ | refine for_cons rfl ?_ | refine for_nil ?_ | dsimp only))
  refine ⟨.v (.int xs.sum), by simp [biR, R.rd, tupI, D.seq, ints_map], ?_⟩
  (repeat' (first | refine w_v rfl ?_ | refine w_int ?_ | refine w_bl ?_ | refine w_non ?_ | refine w_str ?_ | refine w_cons ?_ | refine w_nil ?_ | refine w_bin ?_ | refine w_cmp ?_ | refine w_call ?_ | refine w_bi ?_ | refine w_isi ?_ | refine w_ix ?_ | refine w_and ?_ | refine w_or ?_ | refine w_not ?_ | refine w_chn ?_ | refine w_tup ?_ | refine w_lst ?_ | refine w_ite ?_ | refine w_neg ?_ | refine w_sl ?_ | refine sl_t ?_ | refine sl_n ?_ | refine sl_b ?_ | refine sl_l ?_ | refine w_rev ?_ | refine rv_t ?_ | refine rv_n ?_ | refine rv_l ?_ | refine rv_b ?_ | refine w_onone ?_ | refine w_osome ?_ | refine b_asg ?_ | refine b_ret ?_ | refine b_retN ?_ | refine b_expr ?_ | refine b_pass ?_ | refine b_ifs ?_ | refine b_for ?_ | refine b_asgO ?_ | refine b_asgR ?_ | refine bw_add ?_ | refine bw_sub ?_ | refine cw_lt ?_ | refine cw_le ?_ | refine cw_gt ?_ | refine cw_ge ?_ | refine cw_eqI ?_ | refine cw_neI ?_ | refine bl_w ?_ | refine if_t ?_ | refine if_f ?_ | refine w_comp ?_ | refine b_nil ?_ | refine b_par ?_ | refine b_par2 ?_ | refine b_appO rfl ?_ | refine b_extO rfl ?_ | refine fl_rt ?_ | refine fl_nx ?_ | refine And.intro (by assumption) ?_ | refine And.intro rfl ?_ | refine ⟨_, rfl, ?_⟩ | refine ⟨_, _, rfl, rfl, ?_⟩ | refine ⟨_, rfl, rfl, ?_⟩ | refine ⟨_, _, _, rfl, rfl, rfl, ?_⟩ | refine ⟨_, _, _, rfl, rfl, atD0, ?_⟩ | refine ⟨_, _, _, rfl, rfl, atD1, ?_⟩ | refine ⟨_, _, rfl, rfl, rfl, ?_⟩ | refine for_cons rfl ?_ | refine for_nil ?_ | dsimp only))
  refine if_s (fun q => ?_) (fun q => ?_)
  · (repeat' (first | refine w_v rfl ?_ | refine w_int ?_ | refine w_bl ?_ | refine w_non ?_ | refine w_str ?_ | refine w_cons ?_ | refine w_nil ?_ | refine w_bin ?_ | refine w_cmp ?_ | refine w_call ?_ | refine w_bi ?_ | refine w_isi ?_ | refine w_ix ?_ | refine w_and ?_ | refine w_or ?_ | refine w_not ?_ | refine w_chn ?_ | refine w_tup ?_ | refine w_lst ?_ | refine w_ite ?_ | refine w_neg ?_ | refine w_sl ?_ | refine sl_t ?_ | refine sl_n ?_ | refine sl_b ?_ | refine sl_l ?_ | refine w_rev ?_ | refine rv_t ?_ | refine rv_n ?_ | refine rv_l ?_ | refine rv_b ?_ | refine w_onone ?_ | refine w_osome ?_ | refine b_asg ?_ | refine b_ret ?_ | refine b_retN ?_ | refine b_expr ?_ | refine b_pass ?_ | refine b_ifs ?_ | refine b_for ?_ | refine b_asgO ?_ | refine b_asgR ?_ | refine bw_add ?_ | refine bw_sub ?_ | refine cw_lt ?_ | refine cw_le ?_ | refine cw_gt ?_ | refine cw_ge ?_ | refine cw_eqI ?_ | refine cw_neI ?_ | refine bl_w ?_ | refine if_t ?_ | refine if_f ?_ | refine w_comp ?_ | refine b_nil ?_ | refine b_par ?_ | refine b_par2 ?_ | refine b_appO rfl ?_ | refine b_extO rfl ?_ | refine fl_rt ?_ | refine fl_nx ?_ | refine And.intro (by assumption) ?_ | refine And.intro rfl ?_ | refine ⟨_, rfl, ?_⟩ | refine ⟨_, _, rfl, rfl, ?_⟩ | refine ⟨_, rfl, rfl, ?_⟩ | refine ⟨_, _, _, rfl, rfl, rfl, ?_⟩ | refine ⟨_, _, _, rfl, rfl, atD0, ?_⟩ | refine ⟨_, _, _, rfl, rfl, atD1, ?_⟩ | refine ⟨_, _, rfl, rfl, rfl, ?_⟩ | refine for_cons rfl ?_ | refine for_nil ?_ | dsimp only))
    refine O.wp_mono (draw_wp L.toPDr s1 (by omega) (by omega) hl) fun r h2 z => ?_
    obtain ⟨⟨j, rfl, j0, j1⟩, s2⟩ := z
    (repeat' (first | refine w_v rfl ?_ | refine w_int ?_ | refine w_bl ?_ | refine w_non ?_ | refine w_str ?_ | refine w_cons ?_ | refine w_nil ?_ | refine w_bin ?_ | refine w_cmp ?_ | refine w_call ?_ | refine w_bi ?_ | refine w_isi ?_ | refine w_ix ?_ | refine w_and ?_ | refine w_or ?_ | refine w_not ?_ | refine w_chn ?_ | refine w_tup ?_ | refine w_lst ?_ | refine w_ite ?_ | refine w_neg ?_ | refine w_sl ?_ | refine sl_t ?_ | refine sl_n ?_ | refine sl_b ?_ | refine sl_l ?_ | refine w_rev ?_ | refine rv_t ?_ | refine rv_n ?_ | refine rv_l ?_ | refine rv_b ?_ | refine w_onone ?_ | refine w_osome ?_ | refine b_asg ?_ | refine b_ret ?_ | refine b_retN ?_ | refine b_expr ?_ | refine b_pass ?_ | refine b_ifs ?_ | refine b_for ?_ | refine b_asgO ?_ | refine b_asgR ?_ | refine bw_add ?_ | refine bw_sub ?_ | refine cw_lt ?_ | refine cw_le ?_ | refine cw_gt ?_ | refine cw_ge ?_ | refine cw_eqI ?_ | refine cw_neI ?_ | refine bl_w ?_ | refine if_t ?_ | refine if_f ?_ | refine w_comp ?_ | refine b_nil ?_ | refine b_par ?_ | refine b_par2 ?_ | refine b_appO rfl ?_ | refine b_extO rfl ?_ | refine fl_rt ?_ | refine fl_nx ?_ | refine And.intro (by assumption) ?_ | refine And.intro rfl ?_ | refine ⟨_, rfl, ?_⟩ | refine ⟨_, _, rfl, rfl, ?_⟩ | refine ⟨_, rfl, rfl, ?_⟩ | refine ⟨_, _, _, rfl, rfl, rfl, ?_⟩ | refine ⟨_, _, _, rfl, rfl, atD0, ?_⟩ | refine ⟨_, _, _, rfl, rfl, atD1, ?_⟩ | refine ⟨_, _, rfl, rfl, rfl, ?_⟩ | refine for_cons rfl ?_ | refine for_nil ?_ | dsimp only))
    refine O.wp_mono (draw_wp L.toPDr s2 (by omega) (by omega) hl) fun r h3 z => ?_
    obtain ⟨⟨a, rfl, a0, a1⟩, s3⟩ := z
    (repeat' (first | refine w_v rfl ?_ | refine w_int ?_ | refine w_bl ?_ | refine w_non ?_ | refine w_str ?_ | refine w_cons ?_ | refine w_nil ?_ | refine w_bin ?_ | refine w_cmp ?_ | refine w_call ?_ | refine w_bi ?_ | refine w_isi ?_ | refine w_ix ?_ | refine w_and ?_ | refine w_or ?_ | refine w_not ?_ | refine w_chn ?_ | refine w_tup ?_ | refine w_lst ?_ | refine w_ite ?_ | refine w_neg ?_ | refine w_sl ?_ | refine sl_t ?_ | refine sl_n ?_ | refine sl_b ?_ | refine sl_l ?_ | refine w_rev ?_ | refine rv_t ?_ | refine rv_n ?_ | refine rv_l ?_ | refine rv_b ?_ | refine w_onone ?_ | refine w_osome ?_ | refine b_asg ?_ | refine b_ret ?_ | refine b_retN ?_ | refine b_expr ?_ | refine b_pass ?_ | refine b_ifs ?_ | refine b_for ?_ | refine b_asgO ?_ | refine b_asgR ?_ | refine bw_add ?_ | refine bw_sub ?_ | refine cw_lt ?_ | refine cw_le ?_ | refine cw_gt ?_ | refine cw_ge ?_ | refine cw_eqI ?_ | refine cw_neI ?_ | refine bl_w ?_ | refine if_t ?_ | refine if_f ?_ | refine w_comp ?_ | refine b_nil ?_ | refine b_par ?_ | refine b_par2 ?_ | refine b_appO rfl ?_ | refine b_extO rfl ?_ | refine fl_rt ?_ | refine fl_nx ?_ | refine And.intro (by assumption) ?_ | refine And.intro rfl ?_ | refine ⟨_, rfl, ?_⟩ | refine ⟨_, _, rfl, rfl, ?_⟩ | refine ⟨_, rfl, rfl, ?_⟩ | refine ⟨_, _, _, rfl, rfl, rfl, ?_⟩ | refine ⟨_, _, _, rfl, rfl, atD0, ?_⟩ | refine ⟨_, _, _, rfl, rfl, atD1, ?_⟩ | refine ⟨_, _, rfl, rfl, rfl, ?_⟩ | refine for_cons rfl ?_ | refine for_nil ?_ | dsimp only))
    have hlx : ((xs.map D.int).length : Int) = t := by simpa using hx
    rw [cut_to j0]
    refine bw_tadd ?_ ?_
    · unfold small
      exact decide_eq_true (by simp; omega)
    (repeat' (first | refine w_v rfl ?_ | refine w_int ?_ | refine w_bl ?_ | refine w_non ?_ | refine w_str ?_ | refine w_cons ?_ | refine w_nil ?_ | refine w_bin ?_ | refine w_cmp ?_ | refine w_call ?_ | refine w_bi ?_ | refine w_isi ?_ | refine w_ix ?_ | refine w_and ?_ | refine w_or ?_ | refine w_not ?_ | refine w_chn ?_ | refine w_tup ?_ | refine w_lst ?_ | refine w_ite ?_ | refine w_neg ?_ | refine w_sl ?_ | refine sl_t ?_ | refine sl_n ?_ | refine sl_b ?_ | refine sl_l ?_ | refine w_rev ?_ | refine rv_t ?_ | refine rv_n ?_ | refine rv_l ?_ | refine rv_b ?_ | refine w_onone ?_ | refine w_osome ?_ | refine b_asg ?_ | refine b_ret ?_ | refine b_retN ?_ | refine b_expr ?_ | refine b_pass ?_ | refine b_ifs ?_ | refine b_for ?_ | refine b_asgO ?_ | refine b_asgR ?_ | refine bw_add ?_ | refine bw_sub ?_ | refine cw_lt ?_ | refine cw_le ?_ | refine cw_gt ?_ | refine cw_ge ?_ | refine cw_eqI ?_ | refine cw_neI ?_ | refine bl_w ?_ | refine if_t ?_ | refine if_f ?_ | refine w_comp ?_ | refine b_nil ?_ | refine b_par ?_ | refine b_par2 ?_ | refine b_appO rfl ?_ | refine b_extO rfl ?_ | refine fl_rt ?_ | refine fl_nx ?_ | refine And.intro (by assumption) ?_ | refine And.intro rfl ?_ | refine ⟨_, rfl, ?_⟩ | refine ⟨_, _, rfl, rfl, ?_⟩ | refine ⟨_, rfl, rfl, ?_⟩ | refine ⟨_, _, _, rfl, rfl, rfl, ?_⟩ | refine ⟨_, _, _, rfl, rfl, atD0, ?_⟩ | refine ⟨_, _, _, rfl, rfl, atD1, ?_⟩ | refine ⟨_, _, rfl, rfl, rfl, ?_⟩ | refine for_cons rfl ?_ | refine for_nil ?_ | dsimp only))
    rw [cut_from (by omega) (by omega)]
    refine bw_tadd ?_ ?_
    · unfold small
      exact decide_eq_true (by simp; omega)
    refine ⟨_, _, rfl, rfl, b_nil (fl_nx ?_)⟩
    have ht' : (j + 1).toNat = j.toNat + 1 := by omega
    have hjl : j.toNat < xs.length := by omega
    have e : (D.tup ((xs.map D.int).take j.toNat ++ [.int (1 + a)] ++ (xs.map D.int).drop (j + 1).toNat)) = tupI (xs.take j.toNat ++ [1 + a] ++ xs.drop (j.toNat + 1)) := by
      simp [tupI, List.map_take, List.map_drop, ht']
    rw [e]
    have hT : ∀ x ∈ xs.take j.toNat, 0 ≤ x ∧ x ≤ 3 := fun x h => hb x (List.mem_of_mem_take h)
    have hD : ∀ x ∈ xs.drop (j.toNat + 1), 0 ≤ x ∧ x ≤ 3 := fun x h => hb x (List.mem_of_mem_drop h)
    refine fin _ _ (xs.take j.toNat ++ [1 + a] ++ xs.drop (j.toNat + 1)) _ s3 (by omega) (by simp; omega) (fun y hy => ?_) ?_
    · simp only [List.mem_append, List.mem_singleton] at hy
      rcases hy with (hy | rfl) | hy
      · have := hT y hy
        omega
      · omega
      · have := hD y hy
        omega
    · have t1 := sum_nn fun x h => (hT x h).1
      have t2 := sum_nn fun x h => (hD x h).1
      simp only [List.sum_append, List.sum_cons, List.sum_nil]
      omega
  · have t1 := sum_nn fun x h => (hb x h).1
    have q' : xs.sum ≠ 0 := by simpa using q
    refine b_nil (fl_nx ?_)
    refine fin _ _ xs _ s1 (by omega) hx (fun y hy => ?_) (by omega)
    have := hb y hy
    omega
theorem EV.swap {t : Int} {e : Ex} (v : EV t e) (h : 0 < e.2.sum) : EV t (e.2, e.1) := ⟨v.l2, v.l1, v.b2, v.b1, h⟩
theorem some_board_wp {p : Pg} (L : PLaw p) {n i k : Nat} {h0 : MH} {ns : List Int} {h : MH} (hs : Sta i h0 k h) (hk : k + 200 < 1000000) (hl : ns.length ≤ 1000) :
    (p.c (n + 6) 12 [.v (scD ns), .v (.obj i)] h).wp fun r h' => (∃ t es, r = .v (bD t es) ∧ BV t es) ∧ Sta i h0 (k + 100) h' := by
  refine Pg.call_wp L.h12 rfl ?_
  unfold f_law_some_board b_law_some_board
  (repeat' (first | refine w_v rfl ?_ | refine w_int ?_ | refine w_bl ?_ | refine w_non ?_ | refine w_str ?_ | refine w_cons ?_ | refine w_nil ?_ | refine w_bin ?_ | refine w_cmp ?_ | refine w_call ?_ | refine w_bi ?_ | refine w_isi ?_ | refine w_ix ?_ | refine w_and ?_ | refine w_or ?_ | refine w_not ?_ | refine w_chn ?_ | refine w_tup ?_ | refine w_lst ?_ | refine w_ite ?_ | refine w_neg ?_ | refine w_sl ?_ | refine sl_t ?_ | refine sl_n ?_ | refine sl_b ?_ | refine sl_l ?_ | refine w_rev ?_ | refine rv_t ?_ | refine rv_n ?_ | refine rv_l ?_ | refine rv_b ?_ | refine w_onone ?_ | refine w_osome ?_ | refine b_asg ?_ | refine b_ret ?_ | refine b_retN ?_ | refine b_expr ?_ | refine b_pass ?_ | refine b_ifs ?_ | refine b_for ?_ | refine b_asgO ?_ | refine b_asgR ?_ | refine bw_add ?_ | refine bw_sub ?_ | refine cw_lt ?_ | refine cw_le ?_ | refine cw_gt ?_ | refine cw_ge ?_ | refine cw_eqI ?_ | refine cw_neI ?_ | refine bl_w ?_ | refine if_t ?_ | refine if_f ?_ | refine w_comp ?_ | refine b_nil ?_ | refine b_par ?_ | refine b_par2 ?_ | refine b_appO rfl ?_ | refine b_extO rfl ?_ | refine fl_rt ?_ | refine fl_nx ?_ | refine And.intro (by assumption) ?_ | refine And.intro rfl ?_ | refine ⟨_, rfl, ?_⟩ | refine ⟨_, _, rfl, rfl, ?_⟩ | refine ⟨_, rfl, rfl, ?_⟩ | refine ⟨_, _, _, rfl, rfl, rfl, ?_⟩ | refine ⟨_, _, _, rfl, rfl, atD0, ?_⟩ | refine ⟨_, _, _, rfl, rfl, atD1, ?_⟩ | refine ⟨_, _, rfl, rfl, rfl, ?_⟩ | refine for_cons rfl ?_ | refine for_nil ?_ | dsimp only))
  refine O.wp_mono (pick_wp L.toPDr L.h9 hs (by omega) (by decide) hl) fun r h1 z => ?_
  obtain ⟨⟨d, hd, rfl⟩, s1⟩ := z
  obtain ⟨t, rfl, t2, t4⟩ : ∃ t : Int, d = .int t ∧ 2 ≤ t ∧ t ≤ 4 := by
    simp only [List.mem_cons, List.not_mem_nil, or_false] at hd
    rcases hd with rfl | rfl | rfl | rfl | rfl <;> exact ⟨_, rfl, by decide, by decide⟩
  (repeat' (first | refine w_v rfl ?_ | refine w_int ?_ | refine w_bl ?_ | refine w_non ?_ | refine w_str ?_ | refine w_cons ?_ | refine w_nil ?_ | refine w_bin ?_ | refine w_cmp ?_ | refine w_call ?_ | refine w_bi ?_ | refine w_isi ?_ | refine w_ix ?_ | refine w_and ?_ | refine w_or ?_ | refine w_not ?_ | refine w_chn ?_ | refine w_tup ?_ | refine w_lst ?_ | refine w_ite ?_ | refine w_neg ?_ | refine w_sl ?_ | refine sl_t ?_ | refine sl_n ?_ | refine sl_b ?_ | refine sl_l ?_ | refine w_rev ?_ | refine rv_t ?_ | refine rv_n ?_ | refine rv_l ?_ | refine rv_b ?_ | refine w_onone ?_ | refine w_osome ?_ | refine b_asg ?_ | refine b_ret ?_ | refine b_retN ?_ | refine b_expr ?_ | refine b_pass ?_ | refine b_ifs ?_ | refine b_for ?_ | refine b_asgO ?_ | refine b_asgR ?_ | refine bw_add ?_ | refine bw_sub ?_ | refine cw_lt ?_ | refine cw_le ?_ | refine cw_gt ?_ | refine cw_ge ?_ | refine cw_eqI ?_ | refine cw_neI ?_ | refine bl_w ?_ | refine if_t ?_ | refine if_f ?_ | refine w_comp ?_ | refine b_nil ?_ | refine b_par ?_ | refine b_par2 ?_ | refine b_appO rfl ?_ | refine b_extO rfl ?_ | refine fl_rt ?_ | refine fl_nx ?_ | refine And.intro (by assumption) ?_ | refine And.intro rfl ?_ | refine ⟨_, rfl, ?_⟩ | refine ⟨_, _, rfl, rfl, ?_⟩ | refine ⟨_, rfl, rfl, ?_⟩ | refine ⟨_, _, _, rfl, rfl, rfl, ?_⟩ | refine ⟨_, _, _, rfl, rfl, atD0, ?_⟩ | refine ⟨_, _, _, rfl, rfl, atD1, ?_⟩ | refine ⟨_, _, rfl, rfl, rfl, ?_⟩ | refine for_cons rfl ?_ | refine for_nil ?_ | dsimp only))
  refine O.wp_mono (draw_wp L.toPDr s1 (by omega) (by decide) hl) fun r h2 z => ?_
  obtain ⟨⟨c, rfl, c0, c1⟩, s2⟩ := z
  (repeat' (first | refine w_v rfl ?_ | refine w_int ?_ | refine w_bl ?_ | refine w_non ?_ | refine w_str ?_ | refine w_cons ?_ | refine w_nil ?_ | refine w_bin ?_ | refine w_cmp ?_ | refine w_call ?_ | refine w_bi ?_ | refine w_isi ?_ | refine w_ix ?_ | refine w_and ?_ | refine w_or ?_ | refine w_not ?_ | refine w_chn ?_ | refine w_tup ?_ | refine w_lst ?_ | refine w_ite ?_ | refine w_neg ?_ | refine w_sl ?_ | refine sl_t ?_ | refine sl_n ?_ | refine sl_b ?_ | refine sl_l ?_ | refine w_rev ?_ | refine rv_t ?_ | refine rv_n ?_ | refine rv_l ?_ | refine rv_b ?_ | refine w_onone ?_ | refine w_osome ?_ | refine b_asg ?_ | refine b_ret ?_ | refine b_retN ?_ | refine b_expr ?_ | refine b_pass ?_ | refine b_ifs ?_ | refine b_for ?_ | refine b_asgO ?_ | refine b_asgR ?_ | refine bw_add ?_ | refine bw_sub ?_ | refine cw_lt ?_ | refine cw_le ?_ | refine cw_gt ?_ | refine cw_ge ?_ | refine cw_eqI ?_ | refine cw_neI ?_ | refine bl_w ?_ | refine if_t ?_ | refine if_f ?_ | refine w_comp ?_ | refine b_nil ?_ | refine b_par ?_ | refine b_par2 ?_ | refine b_appO rfl ?_ | refine b_extO rfl ?_ | refine fl_rt ?_ | refine fl_nx ?_ | refine And.intro (by assumption) ?_ | refine And.intro rfl ?_ | refine ⟨_, rfl, ?_⟩ | refine ⟨_, _, rfl, rfl, ?_⟩ | refine ⟨_, rfl, rfl, ?_⟩ | refine ⟨_, _, _, rfl, rfl, rfl, ?_⟩ | refine ⟨_, _, _, rfl, rfl, atD0, ?_⟩ | refine ⟨_, _, _, rfl, rfl, atD1, ?_⟩ | refine ⟨_, _, rfl, rfl, rfl, ?_⟩ | refine for_cons rfl ?_ | refine for_nil ?_ | dsimp only))
  refine it_rng (by omega) (by omega) ?_
  refine c_inv (J := fun acc h => (∃ es : List Ex, acc = es.map exD ∧ ∀ e ∈ es, EV t e) ∧ Sta i h0 (k + 2 + 10 * acc.length) h) ⟨⟨[], rfl, by simp⟩, s2⟩ (fun d hd acc h ha J => ?_) (by rw [rngD_len]; omega) fun ys h3 hy J => ?_
  · obtain ⟨⟨es, rfl, he⟩, s⟩ := J
    refine ⟨_, rfl, ?_⟩
    rw [rngD_len] at ha
    simp only [List.length_map] at ha s
    (repeat' (first | refine w_v rfl ?_ | refine w_int ?_ | refine w_bl ?_ | refine w_non ?_ | refine w_str ?_ | refine w_cons ?_ | refine w_nil ?_ | refine w_bin ?_ | refine w_cmp ?_ | refine w_call ?_ | refine w_bi ?_ | refine w_isi ?_ | refine w_ix ?_ | refine w_and ?_ | refine w_or ?_ | refine w_not ?_ | refine w_chn ?_ | refine w_tup ?_ | refine w_lst ?_ | refine w_ite ?_ | refine w_neg ?_ | refine w_sl ?_ | refine sl_t ?_ | refine sl_n ?_ | refine sl_b ?_ | refine sl_l ?_ | refine w_rev ?_ | refine rv_t ?_ | refine rv_n ?_ | refine rv_l ?_ | refine rv_b ?_ | refine w_onone ?_ | refine w_osome ?_ | refine b_asg ?_ | refine b_ret ?_ | refine b_retN ?_ | refine b_expr ?_ | refine b_pass ?_ | refine b_ifs ?_ | refine b_for ?_ | refine b_asgO ?_ | refine b_asgR ?_ | refine bw_add ?_ | refine bw_sub ?_ | refine cw_lt ?_ | refine cw_le ?_ | refine cw_gt ?_ | refine cw_ge ?_ | refine cw_eqI ?_ | refine cw_neI ?_ | refine bl_w ?_ | refine if_t ?_ | refine if_f ?_ | refine w_comp ?_ | refine b_nil ?_ | refine b_par ?_ | refine b_par2 ?_ | refine b_appO rfl ?_ | refine b_extO rfl ?_ | refine fl_rt ?_ | refine fl_nx ?_ | refine And.intro (by assumption) ?_ | refine And.intro rfl ?_ | refine ⟨_, rfl, ?_⟩ | refine ⟨_, _, rfl, rfl, ?_⟩ | refine ⟨_, rfl, rfl, ?_⟩ | refine ⟨_, _, _, rfl, rfl, rfl, ?_⟩ | refine ⟨_, _, _, rfl, rfl, atD0, ?_⟩ | refine ⟨_, _, _, rfl, rfl, atD1, ?_⟩ | refine ⟨_, _, rfl, rfl, rfl, ?_⟩ | refine for_cons rfl ?_ | refine for_nil ?_ | dsimp only))
    refine O.wp_mono (some_exchange_wp L s (by omega) (by omega) (by omega) hl) fun r h' z => ?_
    obtain ⟨⟨e, rfl, v⟩, s⟩ := z
    (repeat' (first | refine w_v rfl ?_ | refine w_int ?_ | refine w_bl ?_ | refine w_non ?_ | refine w_str ?_ | refine w_cons ?_ | refine w_nil ?_ | refine w_bin ?_ | refine w_cmp ?_ | refine w_call ?_ | refine w_bi ?_ | refine w_isi ?_ | refine w_ix ?_ | refine w_and ?_ | refine w_or ?_ | refine w_not ?_ | refine w_chn ?_ | refine w_tup ?_ | refine w_lst ?_ | refine w_ite ?_ | refine w_neg ?_ | refine w_sl ?_ | refine sl_t ?_ | refine sl_n ?_ | refine sl_b ?_ | refine sl_l ?_ | refine w_rev ?_ | refine rv_t ?_ | refine rv_n ?_ | refine rv_l ?_ | refine rv_b ?_ | refine w_onone ?_ | refine w_osome ?_ | refine b_asg ?_ | refine b_ret ?_ | refine b_retN ?_ | refine b_expr ?_ | refine b_pass ?_ | refine b_ifs ?_ | refine b_for ?_ | refine b_asgO ?_ | refine b_asgR ?_ | refine bw_add ?_ | refine bw_sub ?_ | refine cw_lt ?_ | refine cw_le ?_ | refine cw_gt ?_ | refine cw_ge ?_ | refine cw_eqI ?_ | refine cw_neI ?_ | refine bl_w ?_ | refine if_t ?_ | refine if_f ?_ | refine w_comp ?_ | refine b_nil ?_ | refine b_par ?_ | refine b_par2 ?_ | refine b_appO rfl ?_ | refine b_extO rfl ?_ | refine fl_rt ?_ | refine fl_nx ?_ | refine And.intro (by assumption) ?_ | refine And.intro rfl ?_ | refine ⟨_, rfl, ?_⟩ | refine ⟨_, _, rfl, rfl, ?_⟩ | refine ⟨_, rfl, rfl, ?_⟩ | refine ⟨_, _, _, rfl, rfl, rfl, ?_⟩ | refine ⟨_, _, _, rfl, rfl, atD0, ?_⟩ | refine ⟨_, _, _, rfl, rfl, atD1, ?_⟩ | refine ⟨_, _, rfl, rfl, rfl, ?_⟩ | refine for_cons rfl ?_ | refine for_nil ?_ | dsimp only))
    refine ⟨⟨es ++ [e], by rw [List.map_append]; rfl, ?_⟩, s.mono (by simp; omega)⟩
    intro x hx
    rcases List.mem_append.mp hx with q | q
    · exact he x q
    · simp only [List.mem_singleton] at q
      subst q
      exact v
  · obtain ⟨⟨es, rfl, he⟩, s3⟩ := J
    rw [rngD_len] at hy
    simp only [List.length_map] at hy s3
    (repeat' (first | refine w_v rfl ?_ | refine w_int ?_ | refine w_bl ?_ | refine w_non ?_ | refine w_str ?_ | refine w_cons ?_ | refine w_nil ?_ | refine w_bin ?_ | refine w_cmp ?_ | refine w_call ?_ | refine w_bi ?_ | refine w_isi ?_ | refine w_ix ?_ | refine w_and ?_ | refine w_or ?_ | refine w_not ?_ | refine w_chn ?_ | refine w_tup ?_ | refine w_lst ?_ | refine w_ite ?_ | refine w_neg ?_ | refine w_sl ?_ | refine sl_t ?_ | refine sl_n ?_ | refine sl_b ?_ | refine sl_l ?_ | refine w_rev ?_ | refine rv_t ?_ | refine rv_n ?_ | refine rv_l ?_ | refine rv_b ?_ | refine w_onone ?_ | refine w_osome ?_ | refine b_asg ?_ | refine b_ret ?_ | refine b_retN ?_ | refine b_expr ?_ | refine b_pass ?_ | refine b_ifs ?_ | refine b_for ?_ | refine b_asgO ?_ | refine b_asgR ?_ | refine bw_add ?_ | refine bw_sub ?_ | refine cw_lt ?_ | refine cw_le ?_ | refine cw_gt ?_ | refine cw_ge ?_ | refine cw_eqI ?_ | refine cw_neI ?_ | refine bl_w ?_ | refine if_t ?_ | refine if_f ?_ | refine w_comp ?_ | refine b_nil ?_ | refine b_par ?_ | refine b_par2 ?_ | refine b_appO rfl ?_ | refine b_extO rfl ?_ | refine fl_rt ?_ | refine fl_nx ?_ | refine And.intro (by assumption) ?_ | refine And.intro rfl ?_ | refine ⟨_, rfl, ?_⟩ | refine ⟨_, _, rfl, rfl, ?_⟩ | refine ⟨_, rfl, rfl, ?_⟩ | refine ⟨_, _, _, rfl, rfl, rfl, ?_⟩ | refine ⟨_, _, _, rfl, rfl, atD0, ?_⟩ | refine ⟨_, _, _, rfl, rfl, atD1, ?_⟩ | refine ⟨_, _, rfl, rfl, rfl, ?_⟩ | refine for_cons rfl ?_ | refine for_nil ?_ | dsimp only))
    rw [cut_to (by decide)]
    refine for_inv (fun j ss h' => ∃ fs x4 x5 x6, ss = [some (.v (scD ns)), some (.v (.obj i)), some (.v (.int t)), some (.own (fs.map exD)), x4, x5, x6] ∧ fs.length ≤ 4 + j ∧ (∀ e ∈ fs, EV t e) ∧ Sta i h0 (k + 42 + j) h') ⟨es, _, _, _, rfl, by omega, he, s3.mono (by omega)⟩ (fun j d hd ss h' J => ?_) fun ss h' J => ?_
    · obtain ⟨fs, x4, x5, x6, rfl, hf, hv, s4⟩ := J
      have hm := List.mem_of_mem_take (List.mem_of_getElem? hd)
      simp only [List.mem_map] at hm
      obtain ⟨e, he', rfl⟩ := hm
      have hj : j < 2 := by
        have := (List.getElem?_eq_some_iff.mp hd).1
        simp at this
        omega
      have v := he e he'
      refine ⟨_, rfl, ?_⟩
      (repeat' (first | refine w_v rfl ?_ | refine w_int ?_ | refine w_bl ?_ | refine w_non ?_ | refine w_str ?_ | refine w_cons ?_ | refine w_nil ?_ | refine w_bin ?_ | refine w_cmp ?_ | refine w_call ?_ | refine w_bi ?_ | refine w_isi ?_ | refine w_ix ?_ | refine w_and ?_ | refine w_or ?_ | refine w_not ?_ | refine w_chn ?_ | refine w_tup ?_ | refine w_lst ?_ | refine w_ite ?_ | refine w_neg ?_ | refine w_sl ?_ | refine sl_t ?_ | refine sl_n ?_ | refine sl_b ?_ | refine sl_l ?_ | refine w_rev ?_ | refine rv_t ?_ | refine rv_n ?_ | refine rv_l ?_ | refine rv_b ?_ | refine w_onone ?_ | refine w_osome ?_ | refine b_asg ?_ | refine b_ret ?_ | refine b_retN ?_ | refine b_expr ?_ | refine b_pass ?_ | refine b_ifs ?_ | refine b_for ?_ | refine b_asgO ?_ | refine b_asgR ?_ | refine bw_add ?_ | refine bw_sub ?_ | refine cw_lt ?_ | refine cw_le ?_ | refine cw_gt ?_ | refine cw_ge ?_ | refine cw_eqI ?_ | refine cw_neI ?_ | refine bl_w ?_ | refine if_t ?_ | refine if_f ?_ | refine w_comp ?_ | refine b_nil ?_ | refine b_par ?_ | refine b_par2 ?_ | refine b_appO rfl ?_ | refine b_extO rfl ?_ | refine fl_rt ?_ | refine fl_nx ?_ | refine And.intro (by assumption) ?_ | refine And.intro rfl ?_ | refine ⟨_, rfl, ?_⟩ | refine ⟨_, _, rfl, rfl, ?_⟩ | refine ⟨_, rfl, rfl, ?_⟩ | refine ⟨_, _, _, rfl, rfl, rfl, ?_⟩ | refine ⟨_, _, _, rfl, rfl, atD0, ?_⟩ | refine ⟨_, _, _, rfl, rfl, atD1, ?_⟩ | refine ⟨_, _, rfl, rfl, rfl, ?_⟩ | refine for_cons rfl ?_ | refine for_nil ?_ | dsimp only))
      refine O.wp_mono (draw_wp L.toPDr s4 (by omega) (by decide) hl) fun r h5 z => ?_
      obtain ⟨⟨c, rfl, c0, c1⟩, s5⟩ := z
      (repeat' (first | refine w_v rfl ?_ | refine w_int ?_ | refine w_bl ?_ | refine w_non ?_ | refine w_str ?_ | refine w_cons ?_ | refine w_nil ?_ | refine w_bin ?_ | refine w_cmp ?_ | refine w_call ?_ | refine w_bi ?_ | refine w_isi ?_ | refine w_ix ?_ | refine w_and ?_ | refine w_or ?_ | refine w_not ?_ | refine w_chn ?_ | refine w_tup ?_ | refine w_lst ?_ | refine w_ite ?_ | refine w_neg ?_ | refine w_sl ?_ | refine sl_t ?_ | refine sl_n ?_ | refine sl_b ?_ | refine sl_l ?_ | refine w_rev ?_ | refine rv_t ?_ | refine rv_n ?_ | refine rv_l ?_ | refine rv_b ?_ | refine w_onone ?_ | refine w_osome ?_ | refine b_asg ?_ | refine b_ret ?_ | refine b_retN ?_ | refine b_expr ?_ | refine b_pass ?_ | refine b_ifs ?_ | refine b_for ?_ | refine b_asgO ?_ | refine b_asgR ?_ | refine bw_add ?_ | refine bw_sub ?_ | refine cw_lt ?_ | refine cw_le ?_ | refine cw_gt ?_ | refine cw_ge ?_ | refine cw_eqI ?_ | refine cw_neI ?_ | refine bl_w ?_ | refine if_t ?_ | refine if_f ?_ | refine w_comp ?_ | refine b_nil ?_ | refine b_par ?_ | refine b_par2 ?_ | refine b_appO rfl ?_ | refine b_extO rfl ?_ | refine fl_rt ?_ | refine fl_nx ?_ | refine And.intro (by assumption) ?_ | refine And.intro rfl ?_ | refine ⟨_, rfl, ?_⟩ | refine ⟨_, _, rfl, rfl, ?_⟩ | refine ⟨_, rfl, rfl, ?_⟩ | refine ⟨_, _, _, rfl, rfl, rfl, ?_⟩ | refine ⟨_, _, _, rfl, rfl, atD0, ?_⟩ | refine ⟨_, _, _, rfl, rfl, atD1, ?_⟩ | refine ⟨_, _, rfl, rfl, rfl, ?_⟩ | refine for_cons rfl ?_ | refine for_nil ?_ | dsimp only))
      refine if_s (fun q => ?_) (fun q => ?_)
      · (repeat' (first | refine w_v rfl ?_ | refine w_int ?_ | refine w_bl ?_ | refine w_non ?_ | refine w_str ?_ | refine w_cons ?_ | refine w_nil ?_ | refine w_bin ?_ | refine w_cmp ?_ | refine w_call ?_ | refine w_bi ?_ | refine w_isi ?_ | refine w_ix ?_ | refine w_and ?_ | refine w_or ?_ | refine w_not ?_ | refine w_chn ?_ | refine w_tup ?_ | refine w_lst ?_ | refine w_ite ?_ | refine w_neg ?_ | refine w_sl ?_ | refine sl_t ?_ | refine sl_n ?_ | refine sl_b ?_ | refine sl_l ?_ | refine w_rev ?_ | refine rv_t ?_ | refine rv_n ?_ | refine rv_l ?_ | refine rv_b ?_ | refine w_onone ?_ | refine w_osome ?_ | refine b_asg ?_ | refine b_ret ?_ | refine b_retN ?_ | refine b_expr ?_ | refine b_pass ?_ | refine b_ifs ?_ | refine b_for ?_ | refine b_asgO ?_ | refine b_asgR ?_ | refine bw_add ?_ | refine bw_sub ?_ | refine cw_lt ?_ | refine cw_le ?_ | refine cw_gt ?_ | refine cw_ge ?_ | refine cw_eqI ?_ | refine cw_neI ?_ | refine bl_w ?_ | refine if_t ?_ | refine if_f ?_ | refine w_comp ?_ | refine b_nil ?_ | refine b_par ?_ | refine b_par2 ?_ | refine b_appO rfl ?_ | refine b_extO rfl ?_ | refine fl_rt ?_ | refine fl_nx ?_ | refine And.intro (by assumption) ?_ | refine And.intro rfl ?_ | refine ⟨_, rfl, ?_⟩ | refine ⟨_, _, rfl, rfl, ?_⟩ | refine ⟨_, rfl, rfl, ?_⟩ | refine ⟨_, _, _, rfl, rfl, rfl, ?_⟩ | refine ⟨_, _, _, rfl, rfl, atD0, ?_⟩ | refine ⟨_, _, _, rfl, rfl, atD1, ?_⟩ | refine ⟨_, _, rfl, rfl, rfl, ?_⟩ | refine for_cons rfl ?_ | refine for_nil ?_ | dsimp only))
        refine ⟨.v (.int e.2.sum), by simp [biR, R.rd, tupI, D.seq, ints_map], ?_⟩
        (repeat' (first | refine w_v rfl ?_ | refine w_int ?_ | refine w_bl ?_ | refine w_non ?_ | refine w_str ?_ | refine w_cons ?_ | refine w_nil ?_ | refine w_bin ?_ | refine w_cmp ?_ | refine w_call ?_ | refine w_bi ?_ | refine w_isi ?_ | refine w_ix ?_ | refine w_and ?_ | refine w_or ?_ | refine w_not ?_ | refine w_chn ?_ | refine w_tup ?_ | refine w_lst ?_ | refine w_ite ?_ | refine w_neg ?_ | refine w_sl ?_ | refine sl_t ?_ | refine sl_n ?_ | refine sl_b ?_ | refine sl_l ?_ | refine w_rev ?_ | refine rv_t ?_ | refine rv_n ?_ | refine rv_l ?_ | refine rv_b ?_ | refine w_onone ?_ | refine w_osome ?_ | refine b_asg ?_ | refine b_ret ?_ | refine b_retN ?_ | refine b_expr ?_ | refine b_pass ?_ | refine b_ifs ?_ | refine b_for ?_ | refine b_asgO ?_ | refine b_asgR ?_ | refine bw_add ?_ | refine bw_sub ?_ | refine cw_lt ?_ | refine cw_le ?_ | refine cw_gt ?_ | refine cw_ge ?_ | refine cw_eqI ?_ | refine cw_neI ?_ | refine bl_w ?_ | refine if_t ?_ | refine if_f ?_ | refine w_comp ?_ | refine b_nil ?_ | refine b_par ?_ | refine b_par2 ?_ | refine b_appO rfl ?_ | refine b_extO rfl ?_ | refine fl_rt ?_ | refine fl_nx ?_ | refine And.intro (by assumption) ?_ | refine And.intro rfl ?_ | refine ⟨_, rfl, ?_⟩ | refine ⟨_, _, rfl, rfl, ?_⟩ | refine ⟨_, rfl, rfl, ?_⟩ | refine ⟨_, _, _, rfl, rfl, rfl, ?_⟩ | refine ⟨_, _, _, rfl, rfl, atD0, ?_⟩ | refine ⟨_, _, _, rfl, rfl, atD1, ?_⟩ | refine ⟨_, _, rfl, rfl, rfl, ?_⟩ | refine for_cons rfl ?_ | refine for_nil ?_ | dsimp only))
        refine if_s (fun q => ?_) (fun q => ?_)
        · refine b_appO rfl ?_
          (repeat' (first | refine w_v rfl ?_ | refine w_int ?_ | refine w_bl ?_ | refine w_non ?_ | refine w_str ?_ | refine w_cons ?_ | refine w_nil ?_ | refine w_bin ?_ | refine w_cmp ?_ | refine w_call ?_ | refine w_bi ?_ | refine w_isi ?_ | refine w_ix ?_ | refine w_and ?_ | refine w_or ?_ | refine w_not ?_ | refine w_chn ?_ | refine w_tup ?_ | refine w_lst ?_ | refine w_ite ?_ | refine w_neg ?_ | refine w_sl ?_ | refine sl_t ?_ | refine sl_n ?_ | refine sl_b ?_ | refine sl_l ?_ | refine w_rev ?_ | refine rv_t ?_ | refine rv_n ?_ | refine rv_l ?_ | refine rv_b ?_ | refine w_onone ?_ | refine w_osome ?_ | refine b_asg ?_ | refine b_ret ?_ | refine b_retN ?_ | refine b_expr ?_ | refine b_pass ?_ | refine b_ifs ?_ | refine b_for ?_ | refine b_asgO ?_ | refine b_asgR ?_ | refine bw_add ?_ | refine bw_sub ?_ | refine cw_lt ?_ | refine cw_le ?_ | refine cw_gt ?_ | refine cw_ge ?_ | refine cw_eqI ?_ | refine cw_neI ?_ | refine bl_w ?_ | refine if_t ?_ | refine if_f ?_ | refine w_comp ?_ | refine b_nil ?_ | refine b_par ?_ | refine b_par2 ?_ | refine b_appO rfl ?_ | refine b_extO rfl ?_ | refine fl_rt ?_ | refine fl_nx ?_ | refine And.intro (by assumption) ?_ | refine And.intro rfl ?_ | refine ⟨_, rfl, ?_⟩ | refine ⟨_, _, rfl, rfl, ?_⟩ | refine ⟨_, rfl, rfl, ?_⟩ | refine ⟨_, _, _, rfl, rfl, rfl, ?_⟩ | refine ⟨_, _, _, rfl, rfl, atD0, ?_⟩ | refine ⟨_, _, _, rfl, rfl, atD1, ?_⟩ | refine ⟨_, _, rfl, rfl, rfl, ?_⟩ | refine for_cons rfl ?_ | refine for_nil ?_ | dsimp only))
          refine ⟨_, _, rfl, by unfold small; exact decide_eq_true (by simp; omega), rfl, b_nil (fl_nx ?_)⟩
          refine b_nil (fl_nx ⟨fs ++ [(e.2, e.1)], _, _, _, by rw [List.map_append]; rfl, by simp; omega, ?_, s5⟩)
          intro x hx
          rcases List.mem_append.mp hx with q2 | q2
          · exact hv x q2
          · simp only [List.mem_singleton] at q2
            subst q2
            exact v.swap (by simpa using q)
        · (repeat' (first | refine w_v rfl ?_ | refine w_int ?_ | refine w_bl ?_ | refine w_non ?_ | refine w_str ?_ | refine w_cons ?_ | refine w_nil ?_ | refine w_bin ?_ | refine w_cmp ?_ | refine w_call ?_ | refine w_bi ?_ | refine w_isi ?_ | refine w_ix ?_ | refine w_and ?_ | refine w_or ?_ | refine w_not ?_ | refine w_chn ?_ | refine w_tup ?_ | refine w_lst ?_ | refine w_ite ?_ | refine w_neg ?_ | refine w_sl ?_ | refine sl_t ?_ | refine sl_n ?_ | refine sl_b ?_ | refine sl_l ?_ | refine w_rev ?_ | refine rv_t ?_ | refine rv_n ?_ | refine rv_l ?_ | refine rv_b ?_ | refine w_onone ?_ | refine w_osome ?_ | refine b_asg ?_ | refine b_ret ?_ | refine b_retN ?_ | refine b_expr ?_ | refine b_pass ?_ | refine b_ifs ?_ | refine b_for ?_ | refine b_asgO ?_ | refine b_asgR ?_ | refine bw_add ?_ | refine bw_sub ?_ | refine cw_lt ?_ | refine cw_le ?_ | refine cw_gt ?_ | refine cw_ge ?_ | refine cw_eqI ?_ | refine cw_neI ?_ | refine bl_w ?_ | refine if_t ?_ | refine if_f ?_ | refine w_comp ?_ | refine b_nil ?_ | refine b_par ?_ | refine b_par2 ?_ | refine b_appO rfl ?_ | refine b_extO rfl ?_ | refine fl_rt ?_ | refine fl_nx ?_ | refine And.intro (by assumption) ?_ | refine And.intro rfl ?_ | refine ⟨_, rfl, ?_⟩ | refine ⟨_, _, rfl, rfl, ?_⟩ | refine ⟨_, rfl, rfl, ?_⟩ | refine ⟨_, _, _, rfl, rfl, rfl, ?_⟩ | refine ⟨_, _, _, rfl, rfl, atD0, ?_⟩ | refine ⟨_, _, _, rfl, rfl, atD1, ?_⟩ | refine ⟨_, _, rfl, rfl, rfl, ?_⟩ | refine for_cons rfl ?_ | refine for_nil ?_ | dsimp only))
          exact ⟨fs, _, _, _, rfl, by omega, hv, s5⟩
      · (repeat' (first | refine w_v rfl ?_ | refine w_int ?_ | refine w_bl ?_ | refine w_non ?_ | refine w_str ?_ | refine w_cons ?_ | refine w_nil ?_ | refine w_bin ?_ | refine w_cmp ?_ | refine w_call ?_ | refine w_bi ?_ | refine w_isi ?_ | refine w_ix ?_ | refine w_and ?_ | refine w_or ?_ | refine w_not ?_ | refine w_chn ?_ | refine w_tup ?_ | refine w_lst ?_ | refine w_ite ?_ | refine w_neg ?_ | refine w_sl ?_ | refine sl_t ?_ | refine sl_n ?_ | refine sl_b ?_ | refine sl_l ?_ | refine w_rev ?_ | refine rv_t ?_ | refine rv_n ?_ | refine rv_l ?_ | refine rv_b ?_ | refine w_onone ?_ | refine w_osome ?_ | refine b_asg ?_ | refine b_ret ?_ | refine b_retN ?_ | refine b_expr ?_ | refine b_pass ?_ | refine b_ifs ?_ | refine b_for ?_ | refine b_asgO ?_ | refine b_asgR ?_ | refine bw_add ?_ | refine bw_sub ?_ | refine cw_lt ?_ | refine cw_le ?_ | refine cw_gt ?_ | refine cw_ge ?_ | refine cw_eqI ?_ | refine cw_neI ?_ | refine bl_w ?_ | refine if_t ?_ | refine if_f ?_ | refine w_comp ?_ | refine b_nil ?_ | refine b_par ?_ | refine b_par2 ?_ | refine b_appO rfl ?_ | refine b_extO rfl ?_ | refine fl_rt ?_ | refine fl_nx ?_ | refine And.intro (by assumption) ?_ | refine And.intro rfl ?_ | refine ⟨_, rfl, ?_⟩ | refine ⟨_, _, rfl, rfl, ?_⟩ | refine ⟨_, rfl, rfl, ?_⟩ | refine ⟨_, _, _, rfl, rfl, rfl, ?_⟩ | refine ⟨_, _, _, rfl, rfl, atD0, ?_⟩ | refine ⟨_, _, _, rfl, rfl, atD1, ?_⟩ | refine ⟨_, _, rfl, rfl, rfl, ?_⟩ | refine for_cons rfl ?_ | refine for_nil ?_ | dsimp only))
        exact ⟨fs, _, _, _, rfl, by omega, hv, s5⟩
    · obtain ⟨fs, x4, x5, x6, rfl, hf, hv, s4⟩ := J
      have hj : (List.take (Int.toNat 2) (es.map exD)).length ≤ 2 := by simp; omega
      (repeat' (first | refine w_v rfl ?_ | refine w_int ?_ | refine w_bl ?_ | refine w_non ?_ | refine w_str ?_ | refine w_cons ?_ | refine w_nil ?_ | refine w_bin ?_ | refine w_cmp ?_ | refine w_call ?_ | refine w_bi ?_ | refine w_isi ?_ | refine w_ix ?_ | refine w_and ?_ | refine w_or ?_ | refine w_not ?_ | refine w_chn ?_ | refine w_tup ?_ | refine w_lst ?_ | refine w_ite ?_ | refine w_neg ?_ | refine w_sl ?_ | refine sl_t ?_ | refine sl_n ?_ | refine sl_b ?_ | refine sl_l ?_ | refine w_rev ?_ | refine rv_t ?_ | refine rv_n ?_ | refine rv_l ?_ | refine rv_b ?_ | refine w_onone ?_ | refine w_osome ?_ | refine b_asg ?_ | refine b_ret ?_ | refine b_retN ?_ | refine b_expr ?_ | refine b_pass ?_ | refine b_ifs ?_ | refine b_for ?_ | refine b_asgO ?_ | refine b_asgR ?_ | refine bw_add ?_ | refine bw_sub ?_ | refine cw_lt ?_ | refine cw_le ?_ | refine cw_gt ?_ | refine cw_ge ?_ | refine cw_eqI ?_ | refine cw_neI ?_ | refine bl_w ?_ | refine if_t ?_ | refine if_f ?_ | refine w_comp ?_ | refine b_nil ?_ | refine b_par ?_ | refine b_par2 ?_ | refine b_appO rfl ?_ | refine b_extO rfl ?_ | refine fl_rt ?_ | refine fl_nx ?_ | refine And.intro (by assumption) ?_ | refine And.intro rfl ?_ | refine ⟨_, rfl, ?_⟩ | refine ⟨_, _, rfl, rfl, ?_⟩ | refine ⟨_, rfl, rfl, ?_⟩ | refine ⟨_, _, _, rfl, rfl, rfl, ?_⟩ | refine ⟨_, _, _, rfl, rfl, atD0, ?_⟩ | refine ⟨_, _, _, rfl, rfl, atD1, ?_⟩ | refine ⟨_, _, rfl, rfl, rfl, ?_⟩ | refine for_cons rfl ?_ | refine for_nil ?_ | dsimp only))
      exact ⟨by rw [s4.len, hs.len], ⟨t, fs, rfl, t2, t4, by omega, hv⟩, s4.mono (by omega)⟩
theorem net_zip {e : Ex} : D.tup ((((e.1.map D.int).zip (e.2.map D.int)).map fun p => D.tup [p.1, p.2]).map fun d => match d with | .tup [.int a, .int b] => .int (b - a) | _ => .non) = netD e := by
  simp only [netD, tupI, netL]
  congr 1
  generalize e.1 = xs, e.2 = ys
  induction xs generalizing ys with
  | nil => rfl
  | cons x xs ih => cases ys <;> simp_all
theorem law_nets_eq {p : Pg} (h17 : p.Pt 17 = some f_law_nets) {n : Nat} {t : Int} {es : List Ex} {h : MH} (v : BV t es) : p.c (n + 1) 17 [.v (bD t es)] h = .ok (.nl (es.map netD)) h := by
  refine O.eq_of (Pg.call_wp h17 rfl ?_)
  unfold f_law_nets b_law_nets bD
  (repeat' (first | refine w_v rfl ?_ | refine w_int ?_ | refine w_bl ?_ | refine w_non ?_ | refine w_str ?_ | refine w_cons ?_ | refine w_nil ?_ | refine w_bin ?_ | refine w_cmp ?_ | refine w_call ?_ | refine w_bi ?_ | refine w_isi ?_ | refine w_ix ?_ | refine w_and ?_ | refine w_or ?_ | refine w_not ?_ | refine w_chn ?_ | refine w_tup ?_ | refine w_lst ?_ | refine w_ite ?_ | refine w_neg ?_ | refine w_sl ?_ | refine sl_t ?_ | refine sl_n ?_ | refine sl_b ?_ | refine sl_l ?_ | refine w_rev ?_ | refine rv_t ?_ | refine rv_n ?_ | refine rv_l ?_ | refine rv_b ?_ | refine w_onone ?_ | refine w_osome ?_ | refine b_asg ?_ | refine b_ret ?_ | refine b_retN ?_ | refine b_expr ?_ | refine b_pass ?_ | refine b_ifs ?_ | refine b_for ?_ | refine b_asgO ?_ | refine b_asgR ?_ | refine bw_add ?_ | refine bw_sub ?_ | refine cw_lt ?_ | refine cw_le ?_ | refine cw_gt ?_ | refine cw_ge ?_ | refine cw_eqI ?_ | refine cw_neI ?_ | refine bl_w ?_ | refine if_t ?_ | refine if_f ?_ | refine w_comp ?_ | refine b_nil ?_ | refine b_par ?_ | refine b_par2 ?_ | refine b_appO rfl ?_ | refine b_extO rfl ?_ | refine fl_rt ?_ | refine fl_nx ?_ | refine And.intro (by assumption) ?_ | refine And.intro rfl ?_ | refine ⟨_, rfl, ?_⟩ | refine ⟨_, _, rfl, rfl, ?_⟩ | refine ⟨_, rfl, rfl, ?_⟩ | refine ⟨_, _, _, rfl, rfl, rfl, ?_⟩ | refine ⟨_, _, _, rfl, rfl, atD0, ?_⟩ | refine ⟨_, _, _, rfl, rfl, atD1, ?_⟩ | refine ⟨_, _, rfl, rfl, rfl, ?_⟩ | refine for_cons rfl ?_ | refine for_nil ?_ | dsimp only))
  refine for_inv (fun j ss h' => (∃ x2 x3 x4 x5, ss = [some (.v (bD t es)), some (.own ((es.take j).map netD)), x2, x3, x4, x5]) ∧ h' = h) ⟨⟨_, _, _, _, rfl⟩, rfl⟩ (fun j d hd ss h' J => ?_) fun ss h' J => ?_
  · obtain ⟨⟨x2, x3, x4, x5, rfl⟩, rfl⟩ := J
    rw [List.getElem?_map] at hd
    cases q : es[j]? with
    | none => rw [q] at hd; cases hd
    | some e =>
      rw [q] at hd
      cases hd
      have ve := v.ex e (List.mem_of_getElem? q)
      have l1 := ve.l1
      have t4 := v.t4
      have le := v.len
      refine ⟨_, rfl, ?_⟩
      refine b_appO rfl ?_
      (repeat' (first | refine w_v rfl ?_ | refine w_int ?_ | refine w_bl ?_ | refine w_non ?_ | refine w_str ?_ | refine w_cons ?_ | refine w_nil ?_ | refine w_bin ?_ | refine w_cmp ?_ | refine w_call ?_ | refine w_bi ?_ | refine w_isi ?_ | refine w_ix ?_ | refine w_and ?_ | refine w_or ?_ | refine w_not ?_ | refine w_chn ?_ | refine w_tup ?_ | refine w_lst ?_ | refine w_ite ?_ | refine w_neg ?_ | refine w_sl ?_ | refine sl_t ?_ | refine sl_n ?_ | refine sl_b ?_ | refine sl_l ?_ | refine w_rev ?_ | refine rv_t ?_ | refine rv_n ?_ | refine rv_l ?_ | refine rv_b ?_ | refine w_onone ?_ | refine w_osome ?_ | refine b_asg ?_ | refine b_ret ?_ | refine b_retN ?_ | refine b_expr ?_ | refine b_pass ?_ | refine b_ifs ?_ | refine b_for ?_ | refine b_asgO ?_ | refine b_asgR ?_ | refine bw_add ?_ | refine bw_sub ?_ | refine cw_lt ?_ | refine cw_le ?_ | refine cw_gt ?_ | refine cw_ge ?_ | refine cw_eqI ?_ | refine cw_neI ?_ | refine bl_w ?_ | refine if_t ?_ | refine if_f ?_ | refine w_comp ?_ | refine b_nil ?_ | refine b_par ?_ | refine b_par2 ?_ | refine b_appO rfl ?_ | refine b_extO rfl ?_ | refine fl_rt ?_ | refine fl_nx ?_ | refine And.intro (by assumption) ?_ | refine And.intro rfl ?_ | refine ⟨_, rfl, ?_⟩ | refine ⟨_, _, rfl, rfl, ?_⟩ | refine ⟨_, rfl, rfl, ?_⟩ | refine ⟨_, _, _, rfl, rfl, rfl, ?_⟩ | refine ⟨_, _, _, rfl, rfl, atD0, ?_⟩ | refine ⟨_, _, _, rfl, rfl, atD1, ?_⟩ | refine ⟨_, _, rfl, rfl, rfl, ?_⟩ | refine for_cons rfl ?_ | refine for_nil ?_ | dsimp only))
      refine c_pure (fun d => match d with | .tup [.int a, .int b] => .int (b - a) | _ => .non) (fun d hd => ?_) ?_ ?_
      · simp only [List.mem_map] at hd
        obtain ⟨⟨x, y⟩, hxy, rfl⟩ := hd
        have hx := (List.of_mem_zip hxy).1
        have hy := (List.of_mem_zip hxy).2
        simp only [List.mem_map] at hx hy
        obtain ⟨a, _, rfl⟩ := hx
        obtain ⟨b, _, rfl⟩ := hy
        refine ⟨_, rfl, ?_⟩
        (repeat' (first | refine w_v rfl ?_ | refine w_int ?_ | refine w_bl ?_ | refine w_non ?_ | refine w_str ?_ | refine w_cons ?_ | refine w_nil ?_ | refine w_bin ?_ | refine w_cmp ?_ | refine w_call ?_ | refine w_bi ?_ | refine w_isi ?_ | refine w_ix ?_ | refine w_and ?_ | refine w_or ?_ | refine w_not ?_ | refine w_chn ?_ | refine w_tup ?_ | refine w_lst ?_ | refine w_ite ?_ | refine w_neg ?_ | refine w_sl ?_ | refine sl_t ?_ | refine sl_n ?_ | refine sl_b ?_ | refine sl_l ?_ | refine w_rev ?_ | refine rv_t ?_ | refine rv_n ?_ | refine rv_l ?_ | refine rv_b ?_ | refine w_onone ?_ | refine w_osome ?_ | refine b_asg ?_ | refine b_ret ?_ | refine b_retN ?_ | refine b_expr ?_ | refine b_pass ?_ | refine b_ifs ?_ | refine b_for ?_ | refine b_asgO ?_ | refine b_asgR ?_ | refine bw_add ?_ | refine bw_sub ?_ | refine cw_lt ?_ | refine cw_le ?_ | refine cw_gt ?_ | refine cw_ge ?_ | refine cw_eqI ?_ | refine cw_neI ?_ | refine bl_w ?_ | refine if_t ?_ | refine if_f ?_ | refine w_comp ?_ | refine b_nil ?_ | refine b_par ?_ | refine b_par2 ?_ | refine b_appO rfl ?_ | refine b_extO rfl ?_ | refine fl_rt ?_ | refine fl_nx ?_ | refine And.intro (by assumption) ?_ | refine And.intro rfl ?_ | refine ⟨_, rfl, ?_⟩ | refine ⟨_, _, rfl, rfl, ?_⟩ | refine ⟨_, rfl, rfl, ?_⟩ | refine ⟨_, _, _, rfl, rfl, rfl, ?_⟩ | refine ⟨_, _, _, rfl, rfl, atD0, ?_⟩ | refine ⟨_, _, _, rfl, rfl, atD1, ?_⟩ | refine ⟨_, _, rfl, rfl, rfl, ?_⟩ | refine for_cons rfl ?_ | refine for_nil ?_ | dsimp only))
      · simp; omega
      · (repeat' (first | refine w_v rfl ?_ | refine w_int ?_ | refine w_bl ?_ | refine w_non ?_ | refine w_str ?_ | refine w_cons ?_ | refine w_nil ?_ | refine w_bin ?_ | refine w_cmp ?_ | refine w_call ?_ | refine w_bi ?_ | refine w_isi ?_ | refine w_ix ?_ | refine w_and ?_ | refine w_or ?_ | refine w_not ?_ | refine w_chn ?_ | refine w_tup ?_ | refine w_lst ?_ | refine w_ite ?_ | refine w_neg ?_ | refine w_sl ?_ | refine sl_t ?_ | refine sl_n ?_ | refine sl_b ?_ | refine sl_l ?_ | refine w_rev ?_ | refine rv_t ?_ | refine rv_n ?_ | refine rv_l ?_ | refine rv_b ?_ | refine w_onone ?_ | refine w_osome ?_ | refine b_asg ?_ | refine b_ret ?_ | refine b_retN ?_ | refine b_expr ?_ | refine b_pass ?_ | refine b_ifs ?_ | refine b_for ?_ | refine b_asgO ?_ | refine b_asgR ?_ | refine bw_add ?_ | refine bw_sub ?_ | refine cw_lt ?_ | refine cw_le ?_ | refine cw_gt ?_ | refine cw_ge ?_ | refine cw_eqI ?_ | refine cw_neI ?_ | refine bl_w ?_ | refine if_t ?_ | refine if_f ?_ | refine w_comp ?_ | refine b_nil ?_ | refine b_par ?_ | refine b_par2 ?_ | refine b_appO rfl ?_ | refine b_extO rfl ?_ | refine fl_rt ?_ | refine fl_nx ?_ | refine And.intro (by assumption) ?_ | refine And.intro rfl ?_ | refine ⟨_, rfl, ?_⟩ | refine ⟨_, _, rfl, rfl, ?_⟩ | refine ⟨_, rfl, rfl, ?_⟩ | refine ⟨_, _, _, rfl, rfl, rfl, ?_⟩ | refine ⟨_, _, _, rfl, rfl, atD0, ?_⟩ | refine ⟨_, _, _, rfl, rfl, atD1, ?_⟩ | refine ⟨_, _, rfl, rfl, rfl, ?_⟩ | refine for_cons rfl ?_ | refine for_nil ?_ | dsimp only))
        refine ⟨_, _, rfl, by unfold small; exact decide_eq_true (by simp; omega), rfl, b_nil (fl_nx ⟨⟨some (.v (tupI e.1)), some (.v (tupI e.2)), x4, x5, ?_⟩, rfl⟩)⟩
        rw [net_zip, List.take_succ, q, List.map_append]
        rfl
  · obtain ⟨⟨x2, x3, x4, x5, rfl⟩, rfl⟩ := J
    refine b_retO rfl ?_
    (repeat' (first | refine w_v rfl ?_ | refine w_int ?_ | refine w_bl ?_ | refine w_non ?_ | refine w_str ?_ | refine w_cons ?_ | refine w_nil ?_ | refine w_bin ?_ | refine w_cmp ?_ | refine w_call ?_ | refine w_bi ?_ | refine w_isi ?_ | refine w_ix ?_ | refine w_and ?_ | refine w_or ?_ | refine w_not ?_ | refine w_chn ?_ | refine w_tup ?_ | refine w_lst ?_ | refine w_ite ?_ | refine w_neg ?_ | refine w_sl ?_ | refine sl_t ?_ | refine sl_n ?_ | refine sl_b ?_ | refine sl_l ?_ | refine w_rev ?_ | refine rv_t ?_ | refine rv_n ?_ | refine rv_l ?_ | refine rv_b ?_ | refine w_onone ?_ | refine w_osome ?_ | refine b_asg ?_ | refine b_ret ?_ | refine b_retN ?_ | refine b_expr ?_ | refine b_pass ?_ | refine b_ifs ?_ | refine b_for ?_ | refine b_asgO ?_ | refine b_asgR ?_ | refine bw_add ?_ | refine bw_sub ?_ | refine cw_lt ?_ | refine cw_le ?_ | refine cw_gt ?_ | refine cw_ge ?_ | refine cw_eqI ?_ | refine cw_neI ?_ | refine bl_w ?_ | refine if_t ?_ | refine if_f ?_ | refine w_comp ?_ | refine b_nil ?_ | refine b_par ?_ | refine b_par2 ?_ | refine b_appO rfl ?_ | refine b_extO rfl ?_ | refine fl_rt ?_ | refine fl_nx ?_ | refine And.intro (by assumption) ?_ | refine And.intro rfl ?_ | refine ⟨_, rfl, ?_⟩ | refine ⟨_, _, rfl, rfl, ?_⟩ | refine ⟨_, rfl, rfl, ?_⟩ | refine ⟨_, _, _, rfl, rfl, rfl, ?_⟩ | refine ⟨_, _, _, rfl, rfl, atD0, ?_⟩ | refine ⟨_, _, _, rfl, rfl, atD1, ?_⟩ | refine ⟨_, _, rfl, rfl, rfl, ?_⟩ | refine for_cons rfl ?_ | refine for_nil ?_ | dsimp only))
    simp
mutual
theorem eqb_self : ∀ {d : D} {n : Nat}, d.okN n = true → D.eqb d d = true
  | .non, _, _ => rfl
  | .bl b, _, _ => by simp [D.eqb]
  | .int i, _, _ => by simp [D.eqb]
  | .str x, _, _ => by simp [D.eqb]
  | .tup xs, n, h => by
    obtain ⟨m, rfl, hx⟩ := ok_tup h
    simp only [D.eqb]
    exact eqbL_self hx
  | .lst xs, n, h => by
    obtain ⟨m, rfl, hx⟩ := ok_lst h
    simp only [D.eqb]
    exact eqbL_self hx
  | .obj _, n, h => by cases n <;> simp [D.okN] at h
theorem eqbL_self : ∀ {xs : List D} {n : Nat}, (∀ x ∈ xs, x.okN n = true) → D.eqbL xs xs = true
  | [], _, _ => rfl
  | x :: xs, n, h => by
    simp only [D.eqbL, Bool.and_eq_true]
    exact ⟨eqb_self (h x (by simp)), eqbL_self fun y hy => h y (by simp [hy])⟩
end
theorem cut_last {xs : List D} {d : D} : cutD (xs ++ [d]) none (some (-1)) = xs := by
  unfold cutD
  rw [HT.sIx_none]
  have : HT.sIx (xs ++ [d]).length (xs ++ [d]).length (some (-1)) = xs.length := by
    simp only [HT.sIx]
    rw [if_pos (by decide)]
    simp only [List.length_append, List.length_singleton]
    omega
  rw [this]
  simp
theorem atD_get {α : Type} {f : α → D} {l : List α} {i : Int} {x : α} (h0 : 0 ≤ i) (e : l[i.toNat]? = some x) : atD (l.map f) i = some (f x) := by
  obtain ⟨j, rfl⟩ := Int.eq_ofNat_of_zero_le h0
  have : (l.map f)[j]? = some (f x) := by
    rw [List.getElem?_map]
    have e' : l[j]? = some x := e
    rw [e']
    rfl
  exact L2.atI_nat this
end GV
set_option Elab.async false
set_option linter.all false
set_option maxRecDepth 100000
set_option maxHeartbeats 4000000
/-! GA3: acts. -/
namespace GV
open PySem L2
def b_rises : List S := [
  .ret (.bi .all [(.comp .zip [(.v 0), (.sl (.v 0) (some (.int 1)) none)] (.t [(.n 1), (.n 2)]) [1, 2] [] (.cmp .lt (.v 1) (.v 2)))])]
def n_rises : List Str := ["some", "one", "other"]
def f_rises : FD := ⟨3, 1, b_rises⟩
def b_is_act : List S := [
  .ifs (.or (.not (.isi (.v 1) .tuple)) (.or (.not (.chn .le .le (.int 2) (.bi .len [(.v 1)]) (.int 4))) (.not (.isi (.ix (.v 1) (.int 0)) .str)))) [
    .ret (.bl false)] [],
  .ifs (.not (.call 1 [(.ix (.v 1) (.int 1)), (.int 0), (.bin .sub (.bi .len [(.ix (.v 0) (.int 1))]) (.int 1))])) [
    .ret (.bl false)] [],
  .ifs (.cmp .eq (.ix (.v 1) (.int 0)) (.str "bar")) [
    .ret (.cmp .eq (.bi .len [(.v 1)]) (.int 2))] [],
  .ifs (.or (.cmp .ne (.ix (.v 1) (.int 0)) (.str "fee")) (.or (.cmp .ne (.bi .len [(.v 1)]) (.int 4)) (.not (.call 1 [(.ix (.v 1) (.int 2)), (.int 0), (.bin .sub (.ix (.v 0) (.int 0)) (.int 1))])))) [
    .ret (.bl false)] [],
  .ret (.call 1 [(.ix (.v 1) (.int 3)), (.int 1), (.ix (.ix (.ix (.ix (.v 0) (.int 1)) (.ix (.v 1) (.int 1))) (.int 1)) (.ix (.v 1) (.int 2)))])]
def n_is_act : List Str := ["board", "value"]
def f_is_act : FD := ⟨2, 2, b_is_act⟩
def b_acts_stand : List S := [
  .ifs (.or (.not (.isi (.v 1) .tuple)) (.or (.cmp .gt (.bi .len [(.v 1)]) (.int 10)) (.not (.bi .all [(.comp .seq [(.v 1)] (.n 2) [2] [] (.call 71 [(.v 0), (.v 2)]))])))) [
    .ret (.bl false)] [],
  .ret (.call 70 [(.v 1)])]
def n_acts_stand : List Str := ["board", "value", "one"]
def f_acts_stand : FD := ⟨3, 2, b_acts_stand⟩
def b_are_acts : List S := [
  .expr (.call 13 [(.v 0)]),
  .ret (.call 105 [(.v 0), (.v 1)])]
def n_are_acts : List Str := ["board", "value"]
def f_are_acts : FD := ⟨2, 2, b_are_acts⟩
def b_law_all_acts : List S := [
  .asgO 1 (.lst []),
  .for_ .enum [(.ix (.v 0) (.int 1))] (.t [(.n 2), (.n 3)]) [
    .app 1 (.tup [(.str "bar"), (.v 2)]),
    .for_ .enum [(.ix (.v 3) (.int 1))] (.t [(.n 4), (.n 5)]) [
      .ext 1 (.comp .rng [(.int 1), (.bin .add (.v 5) (.int 1))] (.n 6) [6] [] (.tup [(.str "fee"), (.v 2), (.v 4), (.v 6)]))]],
  .ret (.bi .sorted [(.v 1)])]
def n_law_all_acts : List Str := ["board", "found", "number", "exchange", "thing", "count", "amount"]
def f_law_all_acts : FD := ⟨7, 1, b_law_all_acts⟩
def b_law_some_of : List S := [
  .par2 true true 4 5 (.bi .list [(.v 2)]) (.lst []),
  .while_ (.and (.cmp .ne (.v 4) (.lst [])) (.cmp .lt (.bi .len [(.v 5)]) (.v 3))) [
    .appPop 5 4 (.call 8 [(.v 0), (.v 1), (.bi .len [(.v 4)])])],
  .ret (.bi .tuple [(.bi .sorted [(.v 5)])])]
def n_law_some_of : List Str := ["script", "state", "some", "count", "left", "found"]
def f_law_some_of : FD := ⟨6, 4, b_law_some_of⟩
def b_law_some_acts : List S := [
  .asg (.n 4) (.call 62 [(.v 2)]),
  .ret (.ite (.cmp .ne (.v 4) (.lst [])) (.call 61 [(.v 0), (.v 1), (.v 4), (.call 8 [(.v 0), (.v 1), (.bin .add (.v 3) (.int 1))])]) (.tup []))]
def n_law_some_acts : List Str := ["script", "state", "board", "most", "some"]
def f_law_some_acts : FD := ⟨5, 4, b_law_some_acts⟩
def b_offers_stand : List S := [
  .ifs (.or (.not (.isi (.v 1) .tuple)) (.cmp .gt (.bi .len [(.v 1)]) (.int 7))) [
    .ret (.bl false)] [],
  .for_ .seq [(.v 1)] (.n 2) [
    .ifs (.or (.not (.isi (.v 2) .tuple)) (.or (.cmp .ne (.bi .len [(.v 2)]) (.int 2)) (.or (.not (.call 71 [(.v 0), (.ix (.v 2) (.int 0))])) (.not (.call 1 [(.ix (.v 2) (.int 1)), (.int 1), (.int 9)]))))) [
      .ret (.bl false)] []],
  .ret (.call 70 [(.comp .seq [(.v 1)] (.n 2) [2] [] (.ix (.v 2) (.int 0)))])]
def n_offers_stand : List Str := ["board", "value", "one"]
def f_offers_stand : FD := ⟨3, 2, b_offers_stand⟩
def b_are_offers : List S := [
  .expr (.call 13 [(.v 0)]),
  .ret (.call 73 [(.v 0), (.v 1)])]
def n_are_offers : List Str := ["board", "value"]
def f_are_offers : FD := ⟨2, 2, b_are_offers⟩
def barD (n : Int) : D := .tup [.str "bar", .int n]
def feeD (n t a : Int) : D := .tup [.str "fee", .int n, .int t, .int a]
inductive ActL : D → Prop
  | bar (n : Int) : ActL (barD n)
  | fee (n t a : Int) : ActL (feeD n t a)
theorem strBar : strOkB "bar" = true := by decide +kernel
theorem strFee : strOkB "fee" = true := by decide +kernel
theorem ActL.ok {d : D} (h : ActL d) {k : Nat} : d.okN (k + 1) = true := by
  cases h <;> simp [barD, feeD, D.okN, strBar, strFee]
theorem ActL.alike {d e : D} (h : ActL d) (h' : ActL e) : PySem.W.alike d.py e.py = true := by
  cases h <;> cases h' <;> simp [barD, feeD, D.py, D.pyL, PySem.W.alike, PySem.W.alikeAll]
def ltA (x y : D) : Bool := PySem.W.dataLt x.py y.py
theorem ltA_trans {x y z : D} (h1 : ltA x y = true) (h2 : ltA y z = true) : ltA x z = true := PyProof.Rows.lex_trans (O := PyProof.Rows.itemOrd) _ _ _ h1 h2
theorem ltA_irrefl {x : D} : ltA x x = false := PyProof.Rows.lex_irrefl (O := PyProof.Rows.itemOrd) _
theorem strNe : (("bar" : Str) == ("fee" : Str)) = false := by decide +kernel
theorem strNe' : (("fee" : Str) == ("bar" : Str)) = false := by decide +kernel
theorem ltA_total {x y : D} (hx : ActL x) (hy : ActL y) (h1 : ltA x y = false) (h2 : ltA y x = false) : x = y := by
  have ek : PySem.W.keyToks x.py = PySem.W.keyToks y.py := PyProof.Rows.lex_total (O := PyProof.Rows.itemOrd) _ _ h1 h2
  have al := hx.alike hy
  have ev : PyData.eqv x.py y.py = true := by
    cases e : PyData.eqv x.py y.py with
    | true => rfl
    | false =>
      have a := (PySem.W.toks_eqv x.py y.py al).2 e [] [.inl 0]
      rw [ek, PySem.W.lex_pre, PyProof.Rows.lex_irrefl] at a
      cases a
  rw [eqv_py x y 5 5 hx.ok hy.ok] at ev
  cases hx with
  | bar n => cases hy with
    | bar m => simp [barD, D.eqb, D.eqbL] at ev; rw [ev]
    | fee m u b => simp [barD, feeD, D.eqb, D.eqbL] at ev
  | fee n t a => cases hy with
    | bar m => simp [barD, feeD, D.eqb, D.eqbL] at ev
    | fee m u b => simp [feeD, D.eqb, D.eqbL] at ev; rw [ev.1, ev.2.1, ev.2.2]
def sortA (xs : List D) : List D := xs.mergeSort (PySem.W.dataLe false D.py)
theorem sortA_perm (xs : List D) : (sortA xs).Perm xs := List.mergeSort_perm _ _
theorem sortA_mem {xs : List D} {x : D} : x ∈ sortA xs ↔ x ∈ xs := (sortA_perm xs).mem_iff
abbrev Srt (xs : List D) : Prop := xs.Pairwise fun a b => ltA a b = true
theorem sortA_lt {xs : List D} (h : ∀ x ∈ xs, ActL x) (nd : xs.Nodup) : Srt (sortA xs) := by
  have p : (sortA xs).Pairwise (fun a b => PySem.W.dataLe false D.py a b = true) := PySem.W.sort_pairwise (PySem.W.sortLe_total (PyProof.Rows.listOrd PyProof.Rows.itemOrd) false fun d => PySem.W.keyToks (D.py d)) xs
  have nd2 : (sortA xs).Nodup := (sortA_perm xs).nodup_iff.mpr nd
  refine List.Pairwise.imp_of_mem ?_ (p.and nd2)
  intro a b ha hb hab
  obtain ⟨h1, h2⟩ := hab
  cases e : ltA a b with
  | true => rfl
  | false =>
    have h1' : ltA b a = false := by
      have : (!PySem.W.dataLt b.py a.py) = true := h1
      simpa [ltA] using this
    exact absurd (ltA_total (h a (sortA_mem.mp ha)) (h b (sortA_mem.mp hb)) e h1') h2
theorem srtOk_acts {xs : List D} (h : ∀ x ∈ xs, ActL x) (hl : xs.length ≤ 1000000) : srtOk xs = true := by
  unfold srtOk
  simp only [Bool.and_eq_true, Bool.or_eq_true, List.all_eq_true]
  refine ⟨⟨⟨fun x hx => (h x hx).ok, fun x hx y hy => (h x hx).alike (h y hy)⟩, .inl fun x hx => ?_⟩, small_of hl⟩
  cases h x hx <;> rfl
theorem cw_ltA {x y : D} (hx : ActL x) (hy : ActL y) {C : Bool → Prop} (q : C (ltA x y)) : CmpW .lt (.v x) (.v y) C := by
  have e : D.ltb x y = some (ltA x y) := by
    unfold D.ltb
    rw [hx.ok, hy.ok, hx.alike hy]
    rfl
  cases hx with
  | bar n => cases hy with
    | bar m => exact ⟨_, e, q⟩
    | fee m u b => exact ⟨_, e, q⟩
  | fee n t a => cases hy with
    | bar m => exact ⟨_, e, q⟩
    | fee m u b => exact ⟨_, e, q⟩
theorem bi_all {Q : R → Prop} {srt : List D → Option (List D)} {xs : List D} {bs : List Bool} {h : MH} (e : bls? xs = some bs) (q : Q (.v (.bl (bs.all id)))) : BiW srt .all [.nl xs] h Q := ⟨_, by simp [biR, R.rd, e], q⟩
theorem bi_any {Q : R → Prop} {srt : List D → Option (List D)} {xs : List D} {bs : List Bool} {h : MH} (e : bls? xs = some bs) (q : Q (.v (.bl (bs.any id)))) : BiW srt .any [.nl xs] h Q := ⟨_, by simp [biR, R.rd, e], q⟩
/-! ### rises -/
def risD (xs : List D) : Bool := (xs.zip xs.tail).all fun p => ltA p.1 p.2
theorem cut_tail {xs : List D} : cutD xs (some 1) none = xs.tail := by
  cases xs with
  | nil => rfl
  | cons x xs =>
    rw [cut_from (by decide) (by simp only [List.length_cons]; omega)]
    rfl
theorem risD_of {xs : List D} (h : Srt xs) : risD xs = true := by
  unfold risD
  induction xs with
  | nil => rfl
  | cons x xs ih =>
    cases xs with
    | nil => rfl
    | cons y ys =>
      have h1 := (List.pairwise_cons.mp h).1 y (by simp)
      have h2 := ih (List.pairwise_cons.mp h).2
      simp only [List.tail_cons, List.zip_cons_cons, List.all_cons, h1, Bool.true_and] at h2 ⊢
      exact h2
theorem zip_tail_mem {xs : List D} {p : D × D} (h : p ∈ xs.zip xs.tail) : p.1 ∈ xs ∧ p.2 ∈ xs := by
  have := List.of_mem_zip (a := p.1) (b := p.2) h
  exact ⟨this.1, List.mem_of_mem_tail this.2⟩
def ltP : D → D
  | .tup [a, b] => .bl (ltA a b)
  | _ => .non
theorem bls_ltP : ∀ {l : List (D × D)}, bls? ((l.map fun p => D.tup [p.1, p.2]).map ltP) = some (l.map fun p => ltA p.1 p.2)
  | [] => rfl
  | p :: l => by
    simp only [List.map_cons, ltP, bls?]
    rw [bls_ltP (l := l)]
    rfl
theorem all_ltP {l : List (D × D)} : (l.map fun p => ltA p.1 p.2).all id = l.all fun p => ltA p.1 p.2 := by
  simp [List.all_map, Function.comp_def]
theorem rises_eq {p : Pg} (h70 : p.Pt 70 = some f_rises) {n : Nat} {xs : List D} {b : Bool} {h : MH} (hx : ∀ x ∈ xs, ActL x) (hl : xs.length ≤ 1000000) : p.c (n + 1) 70 [.v (if b then .tup xs else .lst xs)] h = .ok (.v (.bl (risD xs))) h := by
  refine O.eq_of (Pg.call_wp h70 rfl ?_)
  unfold f_rises b_rises
  cases b with
  | true =>
    simp only [if_true]
    (repeat' (first | refine w_v rfl ?_ | refine w_int ?_ | refine w_bl ?_ | refine w_non ?_ | refine w_str ?_ | refine w_cons ?_ | refine w_nil ?_ | refine w_bin ?_ | refine w_cmp ?_ | refine w_call ?_ | refine w_bi ?_ | refine w_isi ?_ | refine w_ix ?_ | refine w_and ?_ | refine w_or ?_ | refine w_not ?_ | refine w_chn ?_ | refine w_tup ?_ | refine w_lst ?_ | refine w_ite ?_ | refine w_neg ?_ | refine w_sl ?_ | refine sl_t ?_ | refine sl_n ?_ | refine sl_b ?_ | refine sl_l ?_ | refine w_rev ?_ | refine rv_t ?_ | refine rv_n ?_ | refine rv_l ?_ | refine rv_b ?_ | refine w_onone ?_ | refine w_osome ?_ | refine b_asg ?_ | refine b_ret ?_ | refine b_retN ?_ | refine b_expr ?_ | refine b_pass ?_ | refine b_ifs ?_ | refine b_for ?_ | refine b_asgO ?_ | refine b_asgR ?_ | refine bw_add ?_ | refine bw_sub ?_ | refine cw_lt ?_ | refine cw_le ?_ | refine cw_gt ?_ | refine cw_ge ?_ | refine cw_eqI ?_ | refine cw_neI ?_ | refine bl_w ?_ | refine if_t ?_ | refine if_f ?_ | refine w_comp ?_ | refine b_nil ?_ | refine b_par ?_ | refine b_par2 ?_ | refine b_appO rfl ?_ | refine b_extO rfl ?_ | refine fl_rt ?_ | refine fl_nx ?_ | refine And.intro (by assumption) ?_ | refine And.intro rfl ?_ | refine ⟨_, rfl, ?_⟩ | refine ⟨_, _, rfl, rfl, ?_⟩ | refine ⟨_, rfl, rfl, ?_⟩ | refine ⟨_, _, _, rfl, rfl, rfl, ?_⟩ | refine ⟨_, _, _, rfl, rfl, atD0, ?_⟩ | refine ⟨_, _, _, rfl, rfl, atD1, ?_⟩ | refine ⟨_, _, rfl, rfl, rfl, ?_⟩ | refine for_cons rfl ?_ | refine for_nil ?_ | dsimp only))
    rw [cut_tail]
    refine c_pure ltP (fun d hd => ?_) (by simp; omega) ?_
    · simp only [List.mem_map] at hd
      obtain ⟨p, hp, rfl⟩ := hd
      obtain ⟨m1, m2⟩ := zip_tail_mem hp
      refine ⟨_, rfl, ?_⟩
      refine w_cmp (w_v rfl (w_v rfl (cw_ltA (hx _ m1) (hx _ m2) ?_)))
      exact ⟨rfl, rfl⟩
    · refine w_nil ?_
      refine bi_all bls_ltP ?_
      rw [all_ltP]
      exact ⟨_, rfl, rfl, rfl, rfl⟩
  | false =>
    simp only [Bool.false_eq_true, if_false]
    (repeat' (first | refine w_v rfl ?_ | refine w_int ?_ | refine w_bl ?_ | refine w_non ?_ | refine w_str ?_ | refine w_cons ?_ | refine w_nil ?_ | refine w_bin ?_ | refine w_cmp ?_ | refine w_call ?_ | refine w_bi ?_ | refine w_isi ?_ | refine w_ix ?_ | refine w_and ?_ | refine w_or ?_ | refine w_not ?_ | refine w_chn ?_ | refine w_tup ?_ | refine w_lst ?_ | refine w_ite ?_ | refine w_neg ?_ | refine w_sl ?_ | refine sl_t ?_ | refine sl_n ?_ | refine sl_b ?_ | refine sl_l ?_ | refine w_rev ?_ | refine rv_t ?_ | refine rv_n ?_ | refine rv_l ?_ | refine rv_b ?_ | refine w_onone ?_ | refine w_osome ?_ | refine b_asg ?_ | refine b_ret ?_ | refine b_retN ?_ | refine b_expr ?_ | refine b_pass ?_ | refine b_ifs ?_ | refine b_for ?_ | refine b_asgO ?_ | refine b_asgR ?_ | refine bw_add ?_ | refine bw_sub ?_ | refine cw_lt ?_ | refine cw_le ?_ | refine cw_gt ?_ | refine cw_ge ?_ | refine cw_eqI ?_ | refine cw_neI ?_ | refine bl_w ?_ | refine if_t ?_ | refine if_f ?_ | refine w_comp ?_ | refine b_nil ?_ | refine b_par ?_ | refine b_par2 ?_ | refine b_appO rfl ?_ | refine b_extO rfl ?_ | refine fl_rt ?_ | refine fl_nx ?_ | refine And.intro (by assumption) ?_ | refine And.intro rfl ?_ | refine ⟨_, rfl, ?_⟩ | refine ⟨_, _, rfl, rfl, ?_⟩ | refine ⟨_, rfl, rfl, ?_⟩ | refine ⟨_, _, _, rfl, rfl, rfl, ?_⟩ | refine ⟨_, _, _, rfl, rfl, atD0, ?_⟩ | refine ⟨_, _, _, rfl, rfl, atD1, ?_⟩ | refine ⟨_, _, rfl, rfl, rfl, ?_⟩ | refine for_cons rfl ?_ | refine for_nil ?_ | dsimp only))
    rw [cut_tail]
    refine c_pure ltP (fun d hd => ?_) (by simp; omega) ?_
    · simp only [List.mem_map] at hd
      obtain ⟨p, hp, rfl⟩ := hd
      obtain ⟨m1, m2⟩ := zip_tail_mem hp
      refine ⟨_, rfl, ?_⟩
      refine w_cmp (w_v rfl (w_v rfl (cw_ltA (hx _ m1) (hx _ m2) ?_)))
      exact ⟨rfl, rfl⟩
    · refine w_nil ?_
      refine bi_all bls_ltP ?_
      rw [all_ltP]
      exact ⟨_, rfl, rfl, rfl, rfl⟩
end GV
set_option Elab.async false
set_option linter.all false
set_option maxRecDepth 100000
set_option maxHeartbeats 4000000
/-! GB1: bags, rows. -/
namespace GV
open PySem L2
def b_need_bag : List S := [
  .expr (.call 13 [(.v 0)]),
  .ifs (.not (.call 2 [(.v 1), (.ix (.v 0) (.int 0)), (.int 0), (.bin .pow (.int 10) (.int 6))])) [
    .raise 1] []]
def n_need_bag : List Str := ["board", "bag"]
def f_need_bag : FD := ⟨2, 2, b_need_bag⟩
def b_holds : List S := [
  .ret (.bi .all [(.comp .zip [(.v 0), (.v 1)] (.t [(.n 2), (.n 3)]) [2, 3] [] (.cmp .ge (.v 2) (.v 3)))])]
def n_holds : List Str := ["bag", "some", "one", "other"]
def f_holds : FD := ⟨4, 2, b_holds⟩
def b_added : List S := [
  .ret (.bi .tuple [(.comp .zip [(.v 0), (.v 1)] (.t [(.n 2), (.n 3)]) [2, 3] [] (.bin .add (.v 2) (.v 3)))])]
def n_added : List Str := ["bag", "net", "one", "other"]
def f_added : FD := ⟨4, 2, b_added⟩
def b_run : List S := [
  .expr (.call 18 [(.v 0), (.v 1)]),
  .asg (.n 3) (.bin .sub (.bi .len [(.ix (.v 0) (.int 1))]) (.int 1)),
  .ifs (.or (.not (.isi (.v 2) .tuple)) (.or (.cmp .gt (.bi .len [(.v 2)]) (.int 40)) (.not (.bi .all [(.comp .seq [(.v 2)] (.n 5) [5] [] (.call 1 [(.v 5), (.int 0), (.v 3)]))])))) [
    .raise 2] [],
  .for_ .seq [(.v 2)] (.n 4) [
    .ifs (.not (.call 19 [(.v 1), (.ix (.ix (.ix (.v 0) (.int 1)) (.v 4)) (.int 0))])) [
      .raise 10] [],
    .asg (.n 1) (.call 20 [(.v 1), (.call 14 [(.ix (.ix (.v 0) (.int 1)) (.v 4))])])],
  .ret (.v 1)]
def n_run : List Str := ["board", "bag", "row", "last", "number", "one"]
def f_run : FD := ⟨6, 3, b_run⟩
def b_law_behind : List S := [
  .for_ .seq [(.v 2)] (.n 3) [
    .asg (.t [(.n 4), (.n 5)]) (.ix (.ix (.v 0) (.int 1)) (.v 3)),
    .ifs (.not (.bi .all [(.comp .zip [(.v 1), (.v 4)] (.t [(.n 6), (.n 7)]) [6, 7] [] (.cmp .ge (.v 6) (.v 7)))])) [
      .ret .non] [],
    .asg (.n 1) (.bi .tuple [(.comp .zip [(.v 1), (.v 4), (.v 5)] (.t [(.n 6), (.n 7), (.n 8)]) [6, 7, 8] [] (.bin .add (.bin .sub (.v 6) (.v 7)) (.v 8)))])],
  .ret (.v 1)]
def n_law_behind : List Str := ["board", "bag", "row", "number", "takes", "gives", "a", "b", "c"]
def f_law_behind : FD := ⟨9, 3, b_law_behind⟩
def b_law_run : List S := [
  .tryW (.call 21 [(.v 0), (.v 1), (.v 2)]) 3]
def n_law_run : List Str := ["board", "bag", "row", "e"]
def f_law_run : FD := ⟨4, 3, b_law_run⟩
theorem need_board_ex {p : Pg} (h1 : p.Pt 1 = some f_is_integer) (h2 : p.Pt 2 = some f_are_numbers) (h3 : p.Pt 3 = some f_is_exchange) (h4 : p.Pt 4 = some f_stands) (h13 : p.Pt 13 = some f_need_board) {n m : Nat} {d : D} {h : MH} (hd : d.okN m = true) (hs : standsD d = false) : p.c (n + 5) 13 [.v d] h = .ex 0 h := by
  refine Pg.call_ex h13 rfl ?_
  unfold f_need_board b_need_board
  refine b_ifs (w_not (w_call (w_cons (w_v rfl (w_nil (O.wp_eq (stands_eq h1 h2 h3 h4 hd) ?_))))))
  rw [hs]
  exact bl_w (bl_w (if_t (b_raise ⟨rfl, rfl⟩)))
def raisedD (c : Nat) : D := .tup [.str "raised", .int (c : Nat)]
theorem strRaised : strOkB "raised" = true := by decide +kernel
theorem raised_ok {c n : Nat} : (raisedD c).okN (n + 1) = true := by simp [raisedD, D.okN, strRaised]
structure PBag (p : Pg) : Prop where
  h1 : p.Pt 1 = some f_is_integer
  h2 : p.Pt 2 = some f_are_numbers
  h3 : p.Pt 3 = some f_is_exchange
  h4 : p.Pt 4 = some f_stands
  h13 : p.Pt 13 = some f_need_board
  h14 : p.Pt 14 = some f_net_of
  h18 : p.Pt 18 = some f_need_bag
  h19 : p.Pt 19 = some f_holds
  h20 : p.Pt 20 = some f_added
  h21 : p.Pt 21 = some f_run
theorem e6 : ((10 : Int) ^ (6 : Int).toNat) = 1000000 := by decide
theorem need_bag_eq {p : Pg} (L : PBag p) {n m : Nat} {t : Int} {es : List Ex} {d : D} {h : MH} (v : BV t es) (hd : d.okN m = true) (ha : areNum t 0 1000000 d = true) : p.c (n + 6) 18 [.v (bD t es), .v d] h = .ok (.v .non) h := by
  have t4 := v.t4
  refine O.eq_of (Pg.call_wp L.h18 rfl ?_)
  unfold f_need_bag b_need_bag
  refine b_expr (w_call (w_cons (w_v rfl (w_nil (O.wp_eq (need_board_eq L.h1 L.h2 L.h3 L.h4 L.h13 (ok_bD (n := 0)) (stands_bD v)) ?_)))))
  (repeat' (first | refine w_v rfl ?_ | refine w_int ?_ | refine w_bl ?_ | refine w_non ?_ | refine w_str ?_ | refine w_cons ?_ | refine w_nil ?_ | refine w_bin ?_ | refine w_cmp ?_ | refine w_call ?_ | refine w_bi ?_ | refine w_isi ?_ | refine w_ix ?_ | refine w_and ?_ | refine w_or ?_ | refine w_not ?_ | refine w_chn ?_ | refine w_tup ?_ | refine w_lst ?_ | refine w_ite ?_ | refine w_neg ?_ | refine w_sl ?_ | refine sl_t ?_ | refine sl_n ?_ | refine sl_b ?_ | refine sl_l ?_ | refine w_rev ?_ | refine rv_t ?_ | refine rv_n ?_ | refine rv_l ?_ | refine rv_b ?_ | refine w_onone ?_ | refine w_osome ?_ | refine b_asg ?_ | refine b_ret ?_ | refine b_retN ?_ | refine b_expr ?_ | refine b_pass ?_ | refine b_ifs ?_ | refine b_for ?_ | refine b_asgO ?_ | refine b_asgR ?_ | refine bw_add ?_ | refine bw_sub ?_ | refine cw_lt ?_ | refine cw_le ?_ | refine cw_gt ?_ | refine cw_ge ?_ | refine cw_eqI ?_ | refine cw_neI ?_ | refine bl_w ?_ | refine if_t ?_ | refine if_f ?_ | refine w_comp ?_ | refine b_nil ?_ | refine b_par ?_ | refine b_par2 ?_ | refine b_appO rfl ?_ | refine b_extO rfl ?_ | refine fl_rt ?_ | refine fl_nx ?_ | refine And.intro (by assumption) ?_ | refine And.intro rfl ?_ | refine ⟨_, rfl, ?_⟩ | refine ⟨_, _, rfl, rfl, ?_⟩ | refine ⟨_, rfl, rfl, ?_⟩ | refine ⟨_, _, _, rfl, rfl, rfl, ?_⟩ | refine ⟨_, _, _, rfl, rfl, atD0, ?_⟩ | refine ⟨_, _, _, rfl, rfl, atD1, ?_⟩ | refine ⟨_, _, rfl, rfl, rfl, ?_⟩ | refine for_cons rfl ?_ | refine for_nil ?_ | dsimp only))
  rw [e6]
  refine O.wp_eq (are_numbers_eq L.h1 L.h2 hd (by omega)) ?_
  rw [ha]
  (repeat' (first | refine w_v rfl ?_ | refine w_int ?_ | refine w_bl ?_ | refine w_non ?_ | refine w_str ?_ | refine w_cons ?_ | refine w_nil ?_ | refine w_bin ?_ | refine w_cmp ?_ | refine w_call ?_ | refine w_bi ?_ | refine w_isi ?_ | refine w_ix ?_ | refine w_and ?_ | refine w_or ?_ | refine w_not ?_ | refine w_chn ?_ | refine w_tup ?_ | refine w_lst ?_ | refine w_ite ?_ | refine w_neg ?_ | refine w_sl ?_ | refine sl_t ?_ | refine sl_n ?_ | refine sl_b ?_ | refine sl_l ?_ | refine w_rev ?_ | refine rv_t ?_ | refine rv_n ?_ | refine rv_l ?_ | refine rv_b ?_ | refine w_onone ?_ | refine w_osome ?_ | refine b_asg ?_ | refine b_ret ?_ | refine b_retN ?_ | refine b_expr ?_ | refine b_pass ?_ | refine b_ifs ?_ | refine b_for ?_ | refine b_asgO ?_ | refine b_asgR ?_ | refine bw_add ?_ | refine bw_sub ?_ | refine cw_lt ?_ | refine cw_le ?_ | refine cw_gt ?_ | refine cw_ge ?_ | refine cw_eqI ?_ | refine cw_neI ?_ | refine bl_w ?_ | refine if_t ?_ | refine if_f ?_ | refine w_comp ?_ | refine b_nil ?_ | refine b_par ?_ | refine b_par2 ?_ | refine b_appO rfl ?_ | refine b_extO rfl ?_ | refine fl_rt ?_ | refine fl_nx ?_ | refine And.intro (by assumption) ?_ | refine And.intro rfl ?_ | refine ⟨_, rfl, ?_⟩ | refine ⟨_, _, rfl, rfl, ?_⟩ | refine ⟨_, rfl, rfl, ?_⟩ | refine ⟨_, _, _, rfl, rfl, rfl, ?_⟩ | refine ⟨_, _, _, rfl, rfl, atD0, ?_⟩ | refine ⟨_, _, _, rfl, rfl, atD1, ?_⟩ | refine ⟨_, _, rfl, rfl, rfl, ?_⟩ | refine for_cons rfl ?_ | refine for_nil ?_ | dsimp only))
theorem need_bag_ex {p : Pg} (L : PBag p) {n m : Nat} {t : Int} {es : List Ex} {d : D} {h : MH} (v : BV t es) (hd : d.okN m = true) (ha : areNum t 0 1000000 d = false) : p.c (n + 6) 18 [.v (bD t es), .v d] h = .ex 1 h := by
  have t4 := v.t4
  refine Pg.call_ex L.h18 rfl ?_
  unfold f_need_bag b_need_bag
  refine b_expr (w_call (w_cons (w_v rfl (w_nil (O.wp_eq (need_board_eq L.h1 L.h2 L.h3 L.h4 L.h13 (ok_bD (n := 0)) (stands_bD v)) ?_)))))
  refine b_ifs ?_
  (repeat' (first | refine w_v rfl ?_ | refine w_int ?_ | refine w_bl ?_ | refine w_non ?_ | refine w_str ?_ | refine w_cons ?_ | refine w_nil ?_ | refine w_bin ?_ | refine w_cmp ?_ | refine w_call ?_ | refine w_bi ?_ | refine w_isi ?_ | refine w_ix ?_ | refine w_and ?_ | refine w_or ?_ | refine w_not ?_ | refine w_chn ?_ | refine w_tup ?_ | refine w_lst ?_ | refine w_ite ?_ | refine w_neg ?_ | refine w_sl ?_ | refine sl_t ?_ | refine sl_n ?_ | refine sl_b ?_ | refine sl_l ?_ | refine w_rev ?_ | refine rv_t ?_ | refine rv_n ?_ | refine rv_l ?_ | refine rv_b ?_ | refine w_onone ?_ | refine w_osome ?_ | refine bw_add ?_ | refine bw_sub ?_ | refine cw_lt ?_ | refine cw_le ?_ | refine cw_gt ?_ | refine cw_ge ?_ | refine cw_eqI ?_ | refine cw_neI ?_ | refine bl_w ?_ | refine if_t ?_ | refine if_f ?_ | refine w_comp ?_ | refine fl_rt ?_ | refine fl_nx ?_ | refine And.intro (by assumption) ?_ | refine And.intro rfl ?_ | refine ⟨_, rfl, ?_⟩ | refine ⟨_, _, rfl, rfl, ?_⟩ | refine ⟨_, rfl, rfl, ?_⟩ | refine ⟨_, _, _, rfl, rfl, rfl, ?_⟩ | refine ⟨_, _, _, rfl, rfl, atD0, ?_⟩ | refine ⟨_, _, _, rfl, rfl, atD1, ?_⟩ | refine ⟨_, _, rfl, rfl, rfl, ?_⟩ | dsimp only))
  rw [e6]
  refine O.wp_eq (are_numbers_eq L.h1 L.h2 hd (by omega)) ?_
  rw [ha]
  exact bl_w (bl_w (if_t (b_raise ⟨rfl, rfl⟩)))
theorem need_bag_ex0 {p : Pg} (L : PBag p) {n m : Nat} {b d : D} {h : MH} (hb : b.okN m = true) (hs : standsD b = false) : p.c (n + 6) 18 [.v b, .v d] h = .ex 0 h := by
  refine Pg.call_ex L.h18 rfl ?_
  unfold f_need_bag b_need_bag
  exact b_expr (w_callX (w_cons (w_v rfl (w_nil (O.wpX_exc (need_board_ex L.h1 L.h2 L.h3 L.h4 L.h13 hb hs) ⟨rfl, rfl⟩)))))
/-! ### holds, added -/
def holdsL (b s : List Int) : Bool := (b.zip s).all fun p => decide (p.2 ≤ p.1)
def geP : D → D
  | .tup [.int a, .int b] => .bl (decide (b ≤ a))
  | _ => .non
theorem bls_geP : ∀ {b s : List Int}, bls? ((((b.map D.int).zip (s.map D.int)).map fun p => D.tup [p.1, p.2]).map geP) = some ((b.zip s).map fun p => decide (p.2 ≤ p.1))
  | [], _ => rfl
  | _ :: _, [] => rfl
  | x :: b, y :: s => by
    simp only [List.map_cons, List.zip_cons_cons, geP, bls?]
    rw [bls_geP (b := b) (s := s)]
    rfl
theorem mem_zip2 {b s : List Int} {d : D} (hd : d ∈ ((b.map D.int).zip (s.map D.int)).map fun p => D.tup [p.1, p.2]) : ∃ x y : Int, d = .tup [.int x, .int y] := by
  simp only [List.mem_map] at hd
  obtain ⟨⟨x, y⟩, hxy, rfl⟩ := hd
  have hx := (List.of_mem_zip hxy).1
  have hy := (List.of_mem_zip hxy).2
  simp only [List.mem_map] at hx hy
  obtain ⟨a, _, rfl⟩ := hx
  obtain ⟨c, _, rfl⟩ := hy
  exact ⟨a, c, rfl⟩
theorem bi_allL {Q : R → Prop} {srt : List D → Option (List D)} {xs : List D} {bs : List Bool} {h : MH} (e : bls? xs = some bs) (q : Q (.v (.bl (bs.all id)))) : BiW srt .all [.nl xs] h Q := ⟨_, by simp [biR, R.rd, e], q⟩
theorem holds_eq {p : Pg} (h19 : p.Pt 19 = some f_holds) {n : Nat} {b s : List Int} {h : MH} (hl : b.length ≤ 1000000) : p.c (n + 1) 19 [.v (tupI b), .v (tupI s)] h = .ok (.v (.bl (holdsL b s))) h := by
  refine O.eq_of (Pg.call_wp h19 rfl ?_)
  unfold f_holds b_holds tupI
  (repeat' (first | refine w_v rfl ?_ | refine w_int ?_ | refine w_bl ?_ | refine w_non ?_ | refine w_str ?_ | refine w_cons ?_ | refine w_nil ?_ | refine w_bin ?_ | refine w_cmp ?_ | refine w_call ?_ | refine w_bi ?_ | refine w_isi ?_ | refine w_ix ?_ | refine w_and ?_ | refine w_or ?_ | refine w_not ?_ | refine w_chn ?_ | refine w_tup ?_ | refine w_lst ?_ | refine w_ite ?_ | refine w_neg ?_ | refine w_sl ?_ | refine sl_t ?_ | refine sl_n ?_ | refine sl_b ?_ | refine sl_l ?_ | refine w_rev ?_ | refine rv_t ?_ | refine rv_n ?_ | refine rv_l ?_ | refine rv_b ?_ | refine w_onone ?_ | refine w_osome ?_ | refine b_asg ?_ | refine b_ret ?_ | refine b_retN ?_ | refine b_expr ?_ | refine b_pass ?_ | refine b_ifs ?_ | refine b_for ?_ | refine b_asgO ?_ | refine b_asgR ?_ | refine bw_add ?_ | refine bw_sub ?_ | refine cw_lt ?_ | refine cw_le ?_ | refine cw_gt ?_ | refine cw_ge ?_ | refine cw_eqI ?_ | refine cw_neI ?_ | refine bl_w ?_ | refine if_t ?_ | refine if_f ?_ | refine w_comp ?_ | refine b_nil ?_ | refine b_par ?_ | refine b_par2 ?_ | refine b_appO rfl ?_ | refine b_extO rfl ?_ | refine fl_rt ?_ | refine fl_nx ?_ | refine And.intro (by assumption) ?_ | refine And.intro rfl ?_ | refine ⟨_, rfl, ?_⟩ | refine ⟨_, _, rfl, rfl, ?_⟩ | refine ⟨_, rfl, rfl, ?_⟩ | refine ⟨_, _, _, rfl, rfl, rfl, ?_⟩ | refine ⟨_, _, _, rfl, rfl, atD0, ?_⟩ | refine ⟨_, _, _, rfl, rfl, atD1, ?_⟩ | refine ⟨_, _, rfl, rfl, rfl, ?_⟩ | refine for_cons rfl ?_ | refine for_nil ?_ | dsimp only))
  refine c_pure geP (fun d hd => ?_) (by simp; omega) ?_
  · obtain ⟨x, y, rfl⟩ := mem_zip2 hd
    refine ⟨_, rfl, ?_⟩
    (repeat' (first | refine w_v rfl ?_ | refine w_int ?_ | refine w_bl ?_ | refine w_non ?_ | refine w_str ?_ | refine w_cons ?_ | refine w_nil ?_ | refine w_bin ?_ | refine w_cmp ?_ | refine w_call ?_ | refine w_bi ?_ | refine w_isi ?_ | refine w_ix ?_ | refine w_and ?_ | refine w_or ?_ | refine w_not ?_ | refine w_chn ?_ | refine w_tup ?_ | refine w_lst ?_ | refine w_ite ?_ | refine w_neg ?_ | refine w_sl ?_ | refine sl_t ?_ | refine sl_n ?_ | refine sl_b ?_ | refine sl_l ?_ | refine w_rev ?_ | refine rv_t ?_ | refine rv_n ?_ | refine rv_l ?_ | refine rv_b ?_ | refine w_onone ?_ | refine w_osome ?_ | refine b_asg ?_ | refine b_ret ?_ | refine b_retN ?_ | refine b_expr ?_ | refine b_pass ?_ | refine b_ifs ?_ | refine b_for ?_ | refine b_asgO ?_ | refine b_asgR ?_ | refine bw_add ?_ | refine bw_sub ?_ | refine cw_lt ?_ | refine cw_le ?_ | refine cw_gt ?_ | refine cw_ge ?_ | refine cw_eqI ?_ | refine cw_neI ?_ | refine bl_w ?_ | refine if_t ?_ | refine if_f ?_ | refine w_comp ?_ | refine b_nil ?_ | refine b_par ?_ | refine b_par2 ?_ | refine b_appO rfl ?_ | refine b_extO rfl ?_ | refine fl_rt ?_ | refine fl_nx ?_ | refine And.intro (by assumption) ?_ | refine And.intro rfl ?_ | refine ⟨_, rfl, ?_⟩ | refine ⟨_, _, rfl, rfl, ?_⟩ | refine ⟨_, rfl, rfl, ?_⟩ | refine ⟨_, _, _, rfl, rfl, rfl, ?_⟩ | refine ⟨_, _, _, rfl, rfl, atD0, ?_⟩ | refine ⟨_, _, _, rfl, rfl, atD1, ?_⟩ | refine ⟨_, _, rfl, rfl, rfl, ?_⟩ | refine for_cons rfl ?_ | refine for_nil ?_ | dsimp only))
  · refine w_nil (bi_allL bls_geP ?_)
    have e : ((b.zip s).map fun p => decide (p.2 ≤ p.1)).all id = holdsL b s := by simp [holdsL, List.all_map, Function.comp_def]
    rw [e]
    exact ⟨_, rfl, rfl, rfl, rfl⟩
def addL (b s : List Int) : List Int := List.zipWith (fun x y => x + y) b s
def adP : D → D
  | .tup [.int a, .int b] => .int (a + b)
  | _ => .non
theorem map_adP : ∀ {b s : List Int}, (((b.map D.int).zip (s.map D.int)).map fun p => D.tup [p.1, p.2]).map adP = (addL b s).map D.int
  | [], _ => rfl
  | _ :: _, [] => rfl
  | x :: b, y :: s => by
    simp only [List.map_cons, List.zip_cons_cons, adP]
    rw [map_adP (b := b) (s := s)]
    rfl
theorem added_eq {p : Pg} (h20 : p.Pt 20 = some f_added) {n : Nat} {b s : List Int} {h : MH} (hl : b.length ≤ 1000000) : p.c (n + 1) 20 [.v (tupI b), .v (tupI s)] h = .ok (.v (tupI (addL b s))) h := by
  refine O.eq_of (Pg.call_wp h20 rfl ?_)
  unfold f_added b_added tupI
  (repeat' (first | refine w_v rfl ?_ | refine w_int ?_ | refine w_bl ?_ | refine w_non ?_ | refine w_str ?_ | refine w_cons ?_ | refine w_nil ?_ | refine w_bin ?_ | refine w_cmp ?_ | refine w_call ?_ | refine w_bi ?_ | refine w_isi ?_ | refine w_ix ?_ | refine w_and ?_ | refine w_or ?_ | refine w_not ?_ | refine w_chn ?_ | refine w_tup ?_ | refine w_lst ?_ | refine w_ite ?_ | refine w_neg ?_ | refine w_sl ?_ | refine sl_t ?_ | refine sl_n ?_ | refine sl_b ?_ | refine sl_l ?_ | refine w_rev ?_ | refine rv_t ?_ | refine rv_n ?_ | refine rv_l ?_ | refine rv_b ?_ | refine w_onone ?_ | refine w_osome ?_ | refine b_asg ?_ | refine b_ret ?_ | refine b_retN ?_ | refine b_expr ?_ | refine b_pass ?_ | refine b_ifs ?_ | refine b_for ?_ | refine b_asgO ?_ | refine b_asgR ?_ | refine bw_add ?_ | refine bw_sub ?_ | refine cw_lt ?_ | refine cw_le ?_ | refine cw_gt ?_ | refine cw_ge ?_ | refine cw_eqI ?_ | refine cw_neI ?_ | refine bl_w ?_ | refine if_t ?_ | refine if_f ?_ | refine w_comp ?_ | refine b_nil ?_ | refine b_par ?_ | refine b_par2 ?_ | refine b_appO rfl ?_ | refine b_extO rfl ?_ | refine fl_rt ?_ | refine fl_nx ?_ | refine And.intro (by assumption) ?_ | refine And.intro rfl ?_ | refine ⟨_, rfl, ?_⟩ | refine ⟨_, _, rfl, rfl, ?_⟩ | refine ⟨_, rfl, rfl, ?_⟩ | refine ⟨_, _, _, rfl, rfl, rfl, ?_⟩ | refine ⟨_, _, _, rfl, rfl, atD0, ?_⟩ | refine ⟨_, _, _, rfl, rfl, atD1, ?_⟩ | refine ⟨_, _, rfl, rfl, rfl, ?_⟩ | refine for_cons rfl ?_ | refine for_nil ?_ | dsimp only))
  refine c_pure adP (fun d hd => ?_) (by simp; omega) ?_
  · obtain ⟨x, y, rfl⟩ := mem_zip2 hd
    refine ⟨_, rfl, ?_⟩
    (repeat' (first | refine w_v rfl ?_ | refine w_int ?_ | refine w_bl ?_ | refine w_non ?_ | refine w_str ?_ | refine w_cons ?_ | refine w_nil ?_ | refine w_bin ?_ | refine w_cmp ?_ | refine w_call ?_ | refine w_bi ?_ | refine w_isi ?_ | refine w_ix ?_ | refine w_and ?_ | refine w_or ?_ | refine w_not ?_ | refine w_chn ?_ | refine w_tup ?_ | refine w_lst ?_ | refine w_ite ?_ | refine w_neg ?_ | refine w_sl ?_ | refine sl_t ?_ | refine sl_n ?_ | refine sl_b ?_ | refine sl_l ?_ | refine w_rev ?_ | refine rv_t ?_ | refine rv_n ?_ | refine rv_l ?_ | refine rv_b ?_ | refine w_onone ?_ | refine w_osome ?_ | refine b_asg ?_ | refine b_ret ?_ | refine b_retN ?_ | refine b_expr ?_ | refine b_pass ?_ | refine b_ifs ?_ | refine b_for ?_ | refine b_asgO ?_ | refine b_asgR ?_ | refine bw_add ?_ | refine bw_sub ?_ | refine cw_lt ?_ | refine cw_le ?_ | refine cw_gt ?_ | refine cw_ge ?_ | refine cw_eqI ?_ | refine cw_neI ?_ | refine bl_w ?_ | refine if_t ?_ | refine if_f ?_ | refine w_comp ?_ | refine b_nil ?_ | refine b_par ?_ | refine b_par2 ?_ | refine b_appO rfl ?_ | refine b_extO rfl ?_ | refine fl_rt ?_ | refine fl_nx ?_ | refine And.intro (by assumption) ?_ | refine And.intro rfl ?_ | refine ⟨_, rfl, ?_⟩ | refine ⟨_, _, rfl, rfl, ?_⟩ | refine ⟨_, rfl, rfl, ?_⟩ | refine ⟨_, _, _, rfl, rfl, rfl, ?_⟩ | refine ⟨_, _, _, rfl, rfl, atD0, ?_⟩ | refine ⟨_, _, _, rfl, rfl, atD1, ?_⟩ | refine ⟨_, _, rfl, rfl, rfl, ?_⟩ | refine for_cons rfl ?_ | refine for_nil ?_ | dsimp only))
  · rw [map_adP]
    (repeat' (first | refine w_v rfl ?_ | refine w_int ?_ | refine w_bl ?_ | refine w_non ?_ | refine w_str ?_ | refine w_cons ?_ | refine w_nil ?_ | refine w_bin ?_ | refine w_cmp ?_ | refine w_call ?_ | refine w_bi ?_ | refine w_isi ?_ | refine w_ix ?_ | refine w_and ?_ | refine w_or ?_ | refine w_not ?_ | refine w_chn ?_ | refine w_tup ?_ | refine w_lst ?_ | refine w_ite ?_ | refine w_neg ?_ | refine w_sl ?_ | refine sl_t ?_ | refine sl_n ?_ | refine sl_b ?_ | refine sl_l ?_ | refine w_rev ?_ | refine rv_t ?_ | refine rv_n ?_ | refine rv_l ?_ | refine rv_b ?_ | refine w_onone ?_ | refine w_osome ?_ | refine b_asg ?_ | refine b_ret ?_ | refine b_retN ?_ | refine b_expr ?_ | refine b_pass ?_ | refine b_ifs ?_ | refine b_for ?_ | refine b_asgO ?_ | refine b_asgR ?_ | refine bw_add ?_ | refine bw_sub ?_ | refine cw_lt ?_ | refine cw_le ?_ | refine cw_gt ?_ | refine cw_ge ?_ | refine cw_eqI ?_ | refine cw_neI ?_ | refine bl_w ?_ | refine if_t ?_ | refine if_f ?_ | refine w_comp ?_ | refine b_nil ?_ | refine b_par ?_ | refine b_par2 ?_ | refine b_appO rfl ?_ | refine b_extO rfl ?_ | refine fl_rt ?_ | refine fl_nx ?_ | refine And.intro (by assumption) ?_ | refine And.intro rfl ?_ | refine ⟨_, rfl, ?_⟩ | refine ⟨_, _, rfl, rfl, ?_⟩ | refine ⟨_, rfl, rfl, ?_⟩ | refine ⟨_, _, _, rfl, rfl, rfl, ?_⟩ | refine ⟨_, _, _, rfl, rfl, atD0, ?_⟩ | refine ⟨_, _, _, rfl, rfl, atD1, ?_⟩ | refine ⟨_, _, rfl, rfl, rfl, ?_⟩ | refine for_cons rfl ?_ | refine for_nil ?_ | dsimp only))
/-! ### runs -/
def stepL (es : List Ex) (b : List Int) (i : Int) : Option (List Int) := match es[i.toNat]? with
  | some e => if holdsL b e.1 then some (addL b (netL e)) else none
  | none => none
def runL (es : List Ex) : List Int → List Int → Option (List Int)
  | b, [] => some b
  | b, i :: r => (stepL es b i).bind fun b' => runL es b' r
def rowB (n : Int) : D → Bool
  | .tup xs => decide (xs.length ≤ 40) && xs.all (isInt 0 (n - 1))
  | _ => false
theorem row_ints {n : Int} {d : D} (h : rowB n d = true) : ∃ r : List Int, d = tupI r ∧ r.length ≤ 40 ∧ ∀ i ∈ r, 0 ≤ i ∧ i ≤ n - 1 := by
  cases d with
  | tup xs =>
    simp only [rowB, Bool.and_eq_true, decide_eq_true_eq] at h
    obtain ⟨ns, rfl, q⟩ := allInt h.2
    exact ⟨ns, rfl, by simpa using h.1, q⟩
  | _ => simp [rowB] at h
theorem addL_len {b s : List Int} : (addL b s).length = min b.length s.length := by simp [addL]
theorem netL_len {e : Ex} : (netL e).length = min e.1.length e.2.length := by simp [netL]
/-- the loop of run -/
theorem run_body {p : Pg} (L : PBag p) {n m : Nat} {t : Int} {es : List Ex} {b : List Int} {d : D} {h : MH} {X : Nat → MH → Prop} {Q : Fl → MH → Prop} (v : BV t es) (hb : (b.length : Int) = t) (hba : areNum t 0 1000000 (tupI b) = true) (hd : d.okN m = true)
    (q1 : rowB es.length d = false → X 2 h) (q2 : ∀ r, d = tupI r → rowB es.length d = true → runL es b r = none → X 10 h) (q3 : ∀ r b', d = tupI r → rowB es.length d = true → runL es b r = some b' → Q (.rt (.v (tupI b'))) h) :
    xB (p.G (n + 6)) X b_run [some (.v (bD t es)), some (.v (tupI b)), some (.v d), none, none, none] h Q := by
  have t4 := v.t4
  have t2 := v.t2
  have hle := v.len
  unfold b_run
  refine b_expr (w_call (w_cons (w_v rfl (w_cons (w_v rfl (w_nil (O.wp_eq (need_bag_eq L v (ok_tupI (n := 0)) hba) ?_)))))))
  refine b_asg ?_
  (repeat' (first | refine w_v rfl ?_ | refine w_int ?_ | refine w_bl ?_ | refine w_non ?_ | refine w_str ?_ | refine w_cons ?_ | refine w_nil ?_ | refine w_bin ?_ | refine w_cmp ?_ | refine w_call ?_ | refine w_bi ?_ | refine w_isi ?_ | refine w_ix ?_ | refine w_and ?_ | refine w_or ?_ | refine w_not ?_ | refine w_chn ?_ | refine w_tup ?_ | refine w_lst ?_ | refine w_ite ?_ | refine w_neg ?_ | refine w_sl ?_ | refine sl_t ?_ | refine sl_n ?_ | refine sl_b ?_ | refine sl_l ?_ | refine w_rev ?_ | refine rv_t ?_ | refine rv_n ?_ | refine rv_l ?_ | refine rv_b ?_ | refine w_onone ?_ | refine w_osome ?_ | refine bw_add ?_ | refine bw_sub ?_ | refine cw_lt ?_ | refine cw_le ?_ | refine cw_gt ?_ | refine cw_ge ?_ | refine cw_eqI ?_ | refine cw_neI ?_ | refine bl_w ?_ | refine if_t ?_ | refine if_f ?_ | refine w_comp ?_ | refine fl_rt ?_ | refine fl_nx ?_ | refine And.intro (by assumption) ?_ | refine And.intro rfl ?_ | refine ⟨_, rfl, ?_⟩ | refine ⟨_, _, rfl, rfl, ?_⟩ | refine ⟨_, rfl, rfl, ?_⟩ | refine ⟨_, _, _, rfl, rfl, rfl, ?_⟩ | refine ⟨_, _, _, rfl, rfl, atD0, ?_⟩ | refine ⟨_, _, _, rfl, rfl, atD1, ?_⟩ | refine ⟨_, _, rfl, rfl, rfl, ?_⟩ | dsimp only))
  rw [show ((es.map exD).length : Int) - 1 = (es.length : Int) - 1 by simp]
  refine b_ss (ss' := [some (.v (bD t es)), some (.v (tupI b)), some (.v d), some (.v (.int ((es.length : Int) - 1))), none, none]) rfl ?_
  have after : ∀ r, d = tupI r → rowB es.length d = true → xB (p.G (n + 6)) X [.for_ .seq [(.v 2)] (.n 4) [
      .ifs (.not (.call 19 [(.v 1), (.ix (.ix (.ix (.v 0) (.int 1)) (.v 4)) (.int 0))])) [.raise 10] [],
      .asg (.n 1) (.call 20 [(.v 1), (.call 14 [(.ix (.ix (.v 0) (.int 1)) (.v 4))])])],
      .ret (.v 1)] [some (.v (bD t es)), some (.v (tupI b)), some (.v d), some (.v (.int ((es.length : Int) - 1))), none, none] h Q := by
    intro r hr hrow
    subst hr
    obtain ⟨r', e1, r40, hri⟩ := row_ints hrow
    have err : r' = r := by
      have : r'.map D.int = r.map D.int := by
        have := e1
        simp only [tupI, D.tup.injEq] at this
        exact this.symm
      exact (List.map_inj_right (fun a b h => by cases h; rfl)).mp this
    subst err
    refine b_for (w_cons (w_v rfl (w_nil ⟨rfl, _, rfl, ?_⟩)))
    refine for_inv (fun j ss h' => (∃ b' x4, ss = [some (.v (bD t es)), some (.v (tupI b')), some (.v (tupI r')), some (.v (.int ((es.length : Int) - 1))), x4, none] ∧ (b'.length : Int) = t ∧ runL es b r' = runL es b' (r'.drop j)) ∧ h' = h) ⟨⟨b, none, rfl, hb, rfl⟩, rfl⟩ (fun j d hd ss h' J => ?_) fun ss h' J => ?_
    · obtain ⟨⟨b', x4, rfl, hb', hrun⟩, rfl⟩ := J
      have hj : ∃ i, r'[j]? = some i ∧ d = .int i := by
        rw [List.getElem?_map, Option.map_eq_some_iff] at hd
        obtain ⟨i, e1, e2⟩ := hd
        exact ⟨i, e1, e2.symm⟩
      obtain ⟨i, hi, rfl⟩ := hj
      obtain ⟨i0, i1⟩ := hri i (List.mem_of_getElem? hi)
      have hil : i.toNat < es.length := by omega
      have e2 : es[i.toNat]? = some es[i.toNat] := List.getElem?_eq_getElem hil
      generalize hex : es[i.toNat] = e at e2
      have ve := v.ex e (List.mem_of_getElem? e2)
      have l1 := ve.l1
      have l2 := ve.l2
      have a1 := atD_get (f := exD) i0 e2
      have dr : r'.drop j = i :: r'.drop (j + 1) := by
        obtain ⟨hlt, hget⟩ := List.getElem?_eq_some_iff.mp hi
        rw [List.drop_eq_getElem_cons hlt, hget]
      rw [dr] at hrun
      simp only [runL, stepL, e2] at hrun
      refine ⟨_, rfl, ?_⟩
      refine b_ifs ?_
      (repeat' (first | refine w_v rfl ?_ | refine w_int ?_ | refine w_bl ?_ | refine w_non ?_ | refine w_str ?_ | refine w_cons ?_ | refine w_nil ?_ | refine w_bin ?_ | refine w_cmp ?_ | refine w_call ?_ | refine w_bi ?_ | refine w_isi ?_ | refine w_ix ?_ | refine w_and ?_ | refine w_or ?_ | refine w_not ?_ | refine w_chn ?_ | refine w_tup ?_ | refine w_lst ?_ | refine w_ite ?_ | refine w_neg ?_ | refine w_sl ?_ | refine sl_t ?_ | refine sl_n ?_ | refine sl_b ?_ | refine sl_l ?_ | refine w_rev ?_ | refine rv_t ?_ | refine rv_n ?_ | refine rv_l ?_ | refine rv_b ?_ | refine w_onone ?_ | refine w_osome ?_ | refine bw_add ?_ | refine bw_sub ?_ | refine cw_lt ?_ | refine cw_le ?_ | refine cw_gt ?_ | refine cw_ge ?_ | refine cw_eqI ?_ | refine cw_neI ?_ | refine bl_w ?_ | refine if_t ?_ | refine if_f ?_ | refine w_comp ?_ | refine fl_rt ?_ | refine fl_nx ?_ | refine And.intro (by assumption) ?_ | refine And.intro rfl ?_ | refine ⟨_, rfl, ?_⟩ | refine ⟨_, _, rfl, rfl, ?_⟩ | refine ⟨_, rfl, rfl, ?_⟩ | refine ⟨_, _, _, rfl, rfl, rfl, ?_⟩ | refine ⟨_, _, _, rfl, rfl, atD0, ?_⟩ | refine ⟨_, _, _, rfl, rfl, atD1, ?_⟩ | refine ⟨_, _, rfl, rfl, rfl, ?_⟩ | dsimp only))
      refine ⟨_, _, _, rfl, rfl, a1, ?_⟩
      (repeat' (first | refine w_v rfl ?_ | refine w_int ?_ | refine w_bl ?_ | refine w_non ?_ | refine w_str ?_ | refine w_cons ?_ | refine w_nil ?_ | refine w_bin ?_ | refine w_cmp ?_ | refine w_call ?_ | refine w_bi ?_ | refine w_isi ?_ | refine w_ix ?_ | refine w_and ?_ | refine w_or ?_ | refine w_not ?_ | refine w_chn ?_ | refine w_tup ?_ | refine w_lst ?_ | refine w_ite ?_ | refine w_neg ?_ | refine w_sl ?_ | refine sl_t ?_ | refine sl_n ?_ | refine sl_b ?_ | refine sl_l ?_ | refine w_rev ?_ | refine rv_t ?_ | refine rv_n ?_ | refine rv_l ?_ | refine rv_b ?_ | refine w_onone ?_ | refine w_osome ?_ | refine bw_add ?_ | refine bw_sub ?_ | refine cw_lt ?_ | refine cw_le ?_ | refine cw_gt ?_ | refine cw_ge ?_ | refine cw_eqI ?_ | refine cw_neI ?_ | refine bl_w ?_ | refine if_t ?_ | refine if_f ?_ | refine w_comp ?_ | refine fl_rt ?_ | refine fl_nx ?_ | refine And.intro (by assumption) ?_ | refine And.intro rfl ?_ | refine ⟨_, rfl, ?_⟩ | refine ⟨_, _, rfl, rfl, ?_⟩ | refine ⟨_, rfl, rfl, ?_⟩ | refine ⟨_, _, _, rfl, rfl, rfl, ?_⟩ | refine ⟨_, _, _, rfl, rfl, atD0, ?_⟩ | refine ⟨_, _, _, rfl, rfl, atD1, ?_⟩ | refine ⟨_, _, rfl, rfl, rfl, ?_⟩ | dsimp only))
      refine O.wp_eq (holds_eq L.h19 (by omega)) ?_
      cases hh : holdsL b' e.1 with
      | false =>
        rw [hh] at hrun
        exact bl_w (bl_w (if_t (b_raise (q2 r' rfl hrow hrun))))
      | true =>
        rw [hh] at hrun
        refine bl_w (bl_w (if_f (b_nil (fl_nx ?_))))
        refine b_asg ?_
        (repeat' (first | refine w_v rfl ?_ | refine w_int ?_ | refine w_bl ?_ | refine w_non ?_ | refine w_str ?_ | refine w_cons ?_ | refine w_nil ?_ | refine w_bin ?_ | refine w_cmp ?_ | refine w_call ?_ | refine w_bi ?_ | refine w_isi ?_ | refine w_ix ?_ | refine w_and ?_ | refine w_or ?_ | refine w_not ?_ | refine w_chn ?_ | refine w_tup ?_ | refine w_lst ?_ | refine w_ite ?_ | refine w_neg ?_ | refine w_sl ?_ | refine sl_t ?_ | refine sl_n ?_ | refine sl_b ?_ | refine sl_l ?_ | refine w_rev ?_ | refine rv_t ?_ | refine rv_n ?_ | refine rv_l ?_ | refine rv_b ?_ | refine w_onone ?_ | refine w_osome ?_ | refine bw_add ?_ | refine bw_sub ?_ | refine cw_lt ?_ | refine cw_le ?_ | refine cw_gt ?_ | refine cw_ge ?_ | refine cw_eqI ?_ | refine cw_neI ?_ | refine bl_w ?_ | refine if_t ?_ | refine if_f ?_ | refine w_comp ?_ | refine fl_rt ?_ | refine fl_nx ?_ | refine And.intro (by assumption) ?_ | refine And.intro rfl ?_ | refine ⟨_, rfl, ?_⟩ | refine ⟨_, _, rfl, rfl, ?_⟩ | refine ⟨_, rfl, rfl, ?_⟩ | refine ⟨_, _, _, rfl, rfl, rfl, ?_⟩ | refine ⟨_, _, _, rfl, rfl, atD0, ?_⟩ | refine ⟨_, _, _, rfl, rfl, atD1, ?_⟩ | refine ⟨_, _, rfl, rfl, rfl, ?_⟩ | dsimp only))
        refine ⟨_, _, _, rfl, rfl, a1, ?_⟩
        (repeat' (first | refine w_v rfl ?_ | refine w_int ?_ | refine w_bl ?_ | refine w_non ?_ | refine w_str ?_ | refine w_cons ?_ | refine w_nil ?_ | refine w_bin ?_ | refine w_cmp ?_ | refine w_call ?_ | refine w_bi ?_ | refine w_isi ?_ | refine w_ix ?_ | refine w_and ?_ | refine w_or ?_ | refine w_not ?_ | refine w_chn ?_ | refine w_tup ?_ | refine w_lst ?_ | refine w_ite ?_ | refine w_neg ?_ | refine w_sl ?_ | refine sl_t ?_ | refine sl_n ?_ | refine sl_b ?_ | refine sl_l ?_ | refine w_rev ?_ | refine rv_t ?_ | refine rv_n ?_ | refine rv_l ?_ | refine rv_b ?_ | refine w_onone ?_ | refine w_osome ?_ | refine bw_add ?_ | refine bw_sub ?_ | refine cw_lt ?_ | refine cw_le ?_ | refine cw_gt ?_ | refine cw_ge ?_ | refine cw_eqI ?_ | refine cw_neI ?_ | refine bl_w ?_ | refine if_t ?_ | refine if_f ?_ | refine w_comp ?_ | refine fl_rt ?_ | refine fl_nx ?_ | refine And.intro (by assumption) ?_ | refine And.intro rfl ?_ | refine ⟨_, rfl, ?_⟩ | refine ⟨_, _, rfl, rfl, ?_⟩ | refine ⟨_, rfl, rfl, ?_⟩ | refine ⟨_, _, _, rfl, rfl, rfl, ?_⟩ | refine ⟨_, _, _, rfl, rfl, atD0, ?_⟩ | refine ⟨_, _, _, rfl, rfl, atD1, ?_⟩ | refine ⟨_, _, rfl, rfl, rfl, ?_⟩ | dsimp only))
        refine O.wp_eq (net_of_eq L.h14 (by omega)) ?_
        (repeat' (first | refine w_v rfl ?_ | refine w_int ?_ | refine w_bl ?_ | refine w_non ?_ | refine w_str ?_ | refine w_cons ?_ | refine w_nil ?_ | refine w_bin ?_ | refine w_cmp ?_ | refine w_call ?_ | refine w_bi ?_ | refine w_isi ?_ | refine w_ix ?_ | refine w_and ?_ | refine w_or ?_ | refine w_not ?_ | refine w_chn ?_ | refine w_tup ?_ | refine w_lst ?_ | refine w_ite ?_ | refine w_neg ?_ | refine w_sl ?_ | refine sl_t ?_ | refine sl_n ?_ | refine sl_b ?_ | refine sl_l ?_ | refine w_rev ?_ | refine rv_t ?_ | refine rv_n ?_ | refine rv_l ?_ | refine rv_b ?_ | refine w_onone ?_ | refine w_osome ?_ | refine bw_add ?_ | refine bw_sub ?_ | refine cw_lt ?_ | refine cw_le ?_ | refine cw_gt ?_ | refine cw_ge ?_ | refine cw_eqI ?_ | refine cw_neI ?_ | refine bl_w ?_ | refine if_t ?_ | refine if_f ?_ | refine w_comp ?_ | refine fl_rt ?_ | refine fl_nx ?_ | refine And.intro (by assumption) ?_ | refine And.intro rfl ?_ | refine ⟨_, rfl, ?_⟩ | refine ⟨_, _, rfl, rfl, ?_⟩ | refine ⟨_, rfl, rfl, ?_⟩ | refine ⟨_, _, _, rfl, rfl, rfl, ?_⟩ | refine ⟨_, _, _, rfl, rfl, atD0, ?_⟩ | refine ⟨_, _, _, rfl, rfl, atD1, ?_⟩ | refine ⟨_, _, rfl, rfl, rfl, ?_⟩ | dsimp only))
        refine O.wp_eq (added_eq L.h20 (by omega)) ?_
        refine ⟨_, _, rfl, rfl, b_nil (fl_nx ⟨⟨addL b' (netL e), some (.v (.int i)), rfl, ?_, by simpa using hrun⟩, rfl⟩)⟩
        rw [addL_len, netL_len]
        omega
    · obtain ⟨⟨b', x4, rfl, hb', hrun⟩, rfl⟩ := J
      rw [List.length_map, List.drop_length] at hrun
      exact b_ret (w_v rfl ⟨_, rfl, q3 r' b' rfl hrow hrun⟩)
  have hn := noObj_of hd
  refine b_ifs ?_
  cases d
  case obj => cases hn
  case tup xs =>
    obtain ⟨m, rfl, hx⟩ := ok_tup hd
    (repeat' (first | refine w_v rfl ?_ | refine w_int ?_ | refine w_bl ?_ | refine w_non ?_ | refine w_str ?_ | refine w_cons ?_ | refine w_nil ?_ | refine w_bin ?_ | refine w_cmp ?_ | refine w_call ?_ | refine w_bi ?_ | refine w_isi ?_ | refine w_ix ?_ | refine w_and ?_ | refine w_or ?_ | refine w_not ?_ | refine w_chn ?_ | refine w_tup ?_ | refine w_lst ?_ | refine w_ite ?_ | refine w_neg ?_ | refine w_sl ?_ | refine sl_t ?_ | refine sl_n ?_ | refine sl_b ?_ | refine sl_l ?_ | refine w_rev ?_ | refine rv_t ?_ | refine rv_n ?_ | refine rv_l ?_ | refine rv_b ?_ | refine w_onone ?_ | refine w_osome ?_ | refine bw_add ?_ | refine bw_sub ?_ | refine cw_lt ?_ | refine cw_le ?_ | refine cw_gt ?_ | refine cw_ge ?_ | refine cw_eqI ?_ | refine cw_neI ?_ | refine bl_w ?_ | refine if_t ?_ | refine if_f ?_ | refine w_comp ?_ | refine fl_rt ?_ | refine fl_nx ?_ | refine And.intro (by assumption) ?_ | refine And.intro rfl ?_ | refine ⟨_, rfl, ?_⟩ | refine ⟨_, _, rfl, rfl, ?_⟩ | refine ⟨_, rfl, rfl, ?_⟩ | refine ⟨_, _, _, rfl, rfl, rfl, ?_⟩ | refine ⟨_, _, _, rfl, rfl, atD0, ?_⟩ | refine ⟨_, _, _, rfl, rfl, atD1, ?_⟩ | refine ⟨_, _, rfl, rfl, rfl, ?_⟩ | dsimp only))
    by_cases h40 : xs.length ≤ 40
    · rw [decide_eq_false (by omega : ¬ (40 : Int) < (xs.length : Nat))]
      (repeat' (first | refine w_v rfl ?_ | refine w_int ?_ | refine w_bl ?_ | refine w_non ?_ | refine w_str ?_ | refine w_cons ?_ | refine w_nil ?_ | refine w_bin ?_ | refine w_cmp ?_ | refine w_call ?_ | refine w_bi ?_ | refine w_isi ?_ | refine w_ix ?_ | refine w_and ?_ | refine w_or ?_ | refine w_not ?_ | refine w_chn ?_ | refine w_tup ?_ | refine w_lst ?_ | refine w_ite ?_ | refine w_neg ?_ | refine w_sl ?_ | refine sl_t ?_ | refine sl_n ?_ | refine sl_b ?_ | refine sl_l ?_ | refine w_rev ?_ | refine rv_t ?_ | refine rv_n ?_ | refine rv_l ?_ | refine rv_b ?_ | refine w_onone ?_ | refine w_osome ?_ | refine bw_add ?_ | refine bw_sub ?_ | refine cw_lt ?_ | refine cw_le ?_ | refine cw_gt ?_ | refine cw_ge ?_ | refine cw_eqI ?_ | refine cw_neI ?_ | refine bl_w ?_ | refine if_t ?_ | refine if_f ?_ | refine w_comp ?_ | refine fl_rt ?_ | refine fl_nx ?_ | refine And.intro (by assumption) ?_ | refine And.intro rfl ?_ | refine ⟨_, rfl, ?_⟩ | refine ⟨_, _, rfl, rfl, ?_⟩ | refine ⟨_, rfl, rfl, ?_⟩ | refine ⟨_, _, _, rfl, rfl, rfl, ?_⟩ | refine ⟨_, _, _, rfl, rfl, atD0, ?_⟩ | refine ⟨_, _, _, rfl, rfl, atD1, ?_⟩ | refine ⟨_, _, rfl, rfl, rfl, ?_⟩ | dsimp only))
      refine c_pure (fun d => .bl (isInt 0 ((es.length : Int) - 1) d)) (fun d hd => ⟨_, rfl, ?_⟩) (by omega) ?_
      · (repeat' (first | refine w_v rfl ?_ | refine w_int ?_ | refine w_bl ?_ | refine w_non ?_ | refine w_str ?_ | refine w_cons ?_ | refine w_nil ?_ | refine w_bin ?_ | refine w_cmp ?_ | refine w_call ?_ | refine w_bi ?_ | refine w_isi ?_ | refine w_ix ?_ | refine w_and ?_ | refine w_or ?_ | refine w_not ?_ | refine w_chn ?_ | refine w_tup ?_ | refine w_lst ?_ | refine w_ite ?_ | refine w_neg ?_ | refine w_sl ?_ | refine sl_t ?_ | refine sl_n ?_ | refine sl_b ?_ | refine sl_l ?_ | refine w_rev ?_ | refine rv_t ?_ | refine rv_n ?_ | refine rv_l ?_ | refine rv_b ?_ | refine w_onone ?_ | refine w_osome ?_ | refine bw_add ?_ | refine bw_sub ?_ | refine cw_lt ?_ | refine cw_le ?_ | refine cw_gt ?_ | refine cw_ge ?_ | refine cw_eqI ?_ | refine cw_neI ?_ | refine bl_w ?_ | refine if_t ?_ | refine if_f ?_ | refine w_comp ?_ | refine fl_rt ?_ | refine fl_nx ?_ | refine And.intro (by assumption) ?_ | refine And.intro rfl ?_ | refine ⟨_, rfl, ?_⟩ | refine ⟨_, _, rfl, rfl, ?_⟩ | refine ⟨_, rfl, rfl, ?_⟩ | refine ⟨_, _, _, rfl, rfl, rfl, ?_⟩ | refine ⟨_, _, _, rfl, rfl, atD0, ?_⟩ | refine ⟨_, _, _, rfl, rfl, atD1, ?_⟩ | refine ⟨_, _, rfl, rfl, rfl, ?_⟩ | dsimp only))
        exact O.wp_eq (is_integer_eq L.h1 (noObj_of (hx d hd))) ⟨rfl, rfl⟩
      · refine w_nil (bi_allL bls_map ?_)
        have e : (xs.map (isInt 0 ((es.length : Int) - 1))).all id = xs.all (isInt 0 ((es.length : Int) - 1)) := by simp [List.all_map, Function.comp_def]
        rw [e]
        cases ha : xs.all (isInt 0 ((es.length : Int) - 1)) with
        | false => exact bl_w (bl_w (if_t (b_raise (q1 (by simp [rowB, ha])))))
        | true =>
          have hr : rowB es.length (.tup xs) = true := by simp [rowB, ha, h40]
          obtain ⟨r, e1, _⟩ := row_ints hr
          exact bl_w (bl_w (if_f (b_nil (fl_nx (after r e1 hr)))))
    · rw [decide_eq_true (by omega : (40 : Int) < (xs.length : Nat))]
      exact if_t (bl_w (if_t (b_raise (q1 (by simp [rowB, h40])))))
  all_goals
    (repeat' (first | refine w_v rfl ?_ | refine w_int ?_ | refine w_bl ?_ | refine w_non ?_ | refine w_str ?_ | refine w_cons ?_ | refine w_nil ?_ | refine w_bin ?_ | refine w_cmp ?_ | refine w_call ?_ | refine w_bi ?_ | refine w_isi ?_ | refine w_ix ?_ | refine w_and ?_ | refine w_or ?_ | refine w_not ?_ | refine w_chn ?_ | refine w_tup ?_ | refine w_lst ?_ | refine w_ite ?_ | refine w_neg ?_ | refine w_sl ?_ | refine sl_t ?_ | refine sl_n ?_ | refine sl_b ?_ | refine sl_l ?_ | refine w_rev ?_ | refine rv_t ?_ | refine rv_n ?_ | refine rv_l ?_ | refine rv_b ?_ | refine w_onone ?_ | refine w_osome ?_ | refine bw_add ?_ | refine bw_sub ?_ | refine cw_lt ?_ | refine cw_le ?_ | refine cw_gt ?_ | refine cw_ge ?_ | refine cw_eqI ?_ | refine cw_neI ?_ | refine bl_w ?_ | refine if_t ?_ | refine if_f ?_ | refine w_comp ?_ | refine fl_rt ?_ | refine fl_nx ?_ | refine And.intro (by assumption) ?_ | refine And.intro rfl ?_ | refine ⟨_, rfl, ?_⟩ | refine ⟨_, _, rfl, rfl, ?_⟩ | refine ⟨_, rfl, rfl, ?_⟩ | refine ⟨_, _, _, rfl, rfl, rfl, ?_⟩ | refine ⟨_, _, _, rfl, rfl, atD0, ?_⟩ | refine ⟨_, _, _, rfl, rfl, atD1, ?_⟩ | refine ⟨_, _, rfl, rfl, rfl, ?_⟩ | dsimp only))
    exact b_raise (q1 rfl)
def numsD : D → List Int
  | .tup xs => (ints? xs).getD []
  | _ => []
theorem numsD_tupI {b : List Int} : numsD (tupI b) = b := by simp [numsD, tupI, ints_map]
/-- what the law's run yields -/
def runD (t : Int) (es : List Ex) (bag row : D) : D :=
  if areNum t 0 1000000 bag then
    if rowB es.length row then (match runL es (numsD bag) (numsD row) with
      | some b => tupI b
      | none => raisedD 10)
    else raisedD 2
  else raisedD 1
theorem law_run_eq {p : Pg} (L : PBag p) (h24 : p.Pt 24 = some f_law_run) (hw : ∀ c ∈ [0, 1, 2, 10], p.wh c = some (raisedD c)) {n m : Nat} {t : Int} {es : List Ex} {bag row : D} {h : MH} (v : BV t es) (hb : bag.okN m = true) (hr : row.okN m = true) :
    p.c (n + 8) 24 [.v (bD t es), .v bag, .v row] h = .ok (.v (runD t es bag row)) h := by
  refine O.eq_of (Pg.call_wp h24 rfl ?_)
  unfold f_law_run b_law_run
  refine b_tryW (by show (3 : Nat) < 4; decide) ?_
  refine w_callX (w_cons (w_v rfl (w_cons (w_v rfl (w_cons (w_v rfl (w_nil ?_)))))))
  refine Pg.call_wpX L.h21 rfl ?_
  have ex : ∀ c ∈ [0, 1, 2, 10], runD t es bag row = raisedD c → ∃ d, (p.G (n + 7)).wh c = some d ∧ FlW (fun _ h' => h'.length = h.length ∧ R.v .non = .v (.bl false) ∧ h' = h) (fun r h' => h'.length = h.length ∧ r = .v (runD t es bag row) ∧ h' = h) (.rt (.v d)) h := fun c hc e => ⟨raisedD c, hw c hc, rfl, by rw [e], rfl⟩
  cases ha : areNum t 0 1000000 bag with
  | false =>
    unfold f_run b_run
    refine b_expr (w_callX (w_cons (w_v rfl (w_cons (w_v rfl (w_nil (O.wpX_exc (need_bag_ex L v hb ha) ⟨rfl, ?_⟩)))))))
    exact ⟨raisedD 1, hw 1 (by simp), rfl, by simp [runD, ha], rfl⟩
  | true =>
    obtain ⟨b, rfl, hbl, _⟩ := num_ints ha
    refine run_body L v hbl ha hr (fun q => ?_) (fun r e q1 q2 => ?_) (fun r b' e q1 q2 => ?_)
    · exact ⟨rfl, raisedD 2, hw 2 (by simp), rfl, by simp [runD, ha, q], rfl⟩
    · subst e
      refine ⟨rfl, raisedD 10, hw 10 (by simp), rfl, ?_, rfl⟩
      have e1 : numsD (.tup (b.map .int)) = b := numsD_tupI
      simp [runD, ha, q1, e1, numsD_tupI, q2]
    · subst e
      refine ⟨rfl, _, rfl, rfl, ?_, rfl⟩
      have e1 : numsD (.tup (b.map .int)) = b := numsD_tupI
      simp [runD, ha, q1, e1, numsD_tupI, q2]
theorem law_run_ex0 {p : Pg} (L : PBag p) (h24 : p.Pt 24 = some f_law_run) (hw : ∀ c ∈ [0, 1, 2, 10], p.wh c = some (raisedD c)) {n m : Nat} {b bag row : D} {h : MH} (hb : b.okN m = true) (hs : standsD b = false) :
    p.c (n + 8) 24 [.v b, .v bag, .v row] h = .ok (.v (raisedD 0)) h := by
  refine O.eq_of (Pg.call_wp h24 rfl ?_)
  unfold f_law_run b_law_run
  refine b_tryW (by show (3 : Nat) < 4; decide) ?_
  refine w_callX (w_cons (w_v rfl (w_cons (w_v rfl (w_cons (w_v rfl (w_nil ?_)))))))
  refine Pg.call_wpX L.h21 rfl ?_
  unfold f_run b_run
  refine b_expr (w_callX (w_cons (w_v rfl (w_cons (w_v rfl (w_nil (O.wpX_exc (need_bag_ex0 L hb hs) ⟨rfl, ?_⟩)))))))
  exact ⟨raisedD 0, hw 0 (by simp), rfl, rfl, rfl⟩
/-! ### the law's own bags behind rows -/
def tri : D → D
  | .tup [.int a, .int b, .int c] => .int (a - b + c)
  | _ => .non
theorem map_tri : ∀ {b x y : List Int}, (((b.map D.int).zip ((x.map D.int).zip (y.map D.int))).map fun p => D.tup [p.1, p.2.1, p.2.2]).map tri = (addL b (List.zipWith (fun a c => c - a) x y)).map D.int
  | [], _, _ => rfl
  | _ :: _, [], _ => rfl
  | _ :: _, _ :: _, [] => rfl
  | a :: b, x :: xs, y :: ys => by
    simp only [List.map_cons, List.zip_cons_cons, tri]
    rw [map_tri (b := b) (x := xs) (y := ys)]
    simp only [addL, List.zipWith_cons_cons, List.map_cons]
    congr 2
    omega
theorem law_behind_eq {p : Pg} (h23 : p.Pt 23 = some f_law_behind) {n : Nat} {t : Int} {es : List Ex} {b r : List Int} {h : MH} (v : BV t es) (hb : (b.length : Int) = t) (hri : ∀ i ∈ r, 0 ≤ i ∧ i ≤ (es.length : Int) - 1) :
    p.c (n + 1) 23 [.v (bD t es), .v (tupI b), .v (tupI r)] h = .ok (.v (match runL es b r with | some b' => tupI b' | none => .non)) h := by
  have t4 := v.t4
  refine O.eq_of (Pg.call_wp h23 rfl ?_)
  unfold f_law_behind b_law_behind
  refine b_for (w_cons (w_v rfl (w_nil ⟨rfl, _, rfl, ?_⟩)))
  refine for_inv (fun j ss h' => (∃ b' x3 x4 x5, ss = [some (.v (bD t es)), some (.v (tupI b')), some (.v (tupI r)), x3, x4, x5, none, none, none] ∧ (b'.length : Int) = t ∧ runL es b r = runL es b' (r.drop j)) ∧ h' = h) ⟨⟨b, none, none, none, rfl, hb, rfl⟩, rfl⟩ (fun j d hd ss h' J => ?_) fun ss h' J => ?_
  · obtain ⟨⟨b', x3, x4, x5, rfl, hb', hrun⟩, rfl⟩ := J
    have hj : ∃ i, r[j]? = some i ∧ d = .int i := by
      rw [List.getElem?_map, Option.map_eq_some_iff] at hd
      obtain ⟨i, e1, e2⟩ := hd
      exact ⟨i, e1, e2.symm⟩
    obtain ⟨i, hi, rfl⟩ := hj
    obtain ⟨i0, i1⟩ := hri i (List.mem_of_getElem? hi)
    have hil : i.toNat < es.length := by omega
    have e2 : es[i.toNat]? = some es[i.toNat] := List.getElem?_eq_getElem hil
    generalize hex : es[i.toNat] = e at e2
    have ve := v.ex e (List.mem_of_getElem? e2)
    have l1 := ve.l1
    have l2 := ve.l2
    have a1 := atD_get (f := exD) i0 e2
    have dr : r.drop j = i :: r.drop (j + 1) := by
      obtain ⟨hlt, hget⟩ := List.getElem?_eq_some_iff.mp hi
      rw [List.drop_eq_getElem_cons hlt, hget]
    rw [dr] at hrun
    simp only [runL, stepL, e2] at hrun
    refine ⟨_, rfl, ?_⟩
    refine b_asg ?_
    (repeat' (first | refine w_v rfl ?_ | refine w_int ?_ | refine w_bl ?_ | refine w_non ?_ | refine w_str ?_ | refine w_cons ?_ | refine w_nil ?_ | refine w_bin ?_ | refine w_cmp ?_ | refine w_call ?_ | refine w_bi ?_ | refine w_isi ?_ | refine w_ix ?_ | refine w_and ?_ | refine w_or ?_ | refine w_not ?_ | refine w_chn ?_ | refine w_tup ?_ | refine w_lst ?_ | refine w_ite ?_ | refine w_neg ?_ | refine w_sl ?_ | refine sl_t ?_ | refine sl_n ?_ | refine sl_b ?_ | refine sl_l ?_ | refine w_rev ?_ | refine rv_t ?_ | refine rv_n ?_ | refine rv_l ?_ | refine rv_b ?_ | refine w_onone ?_ | refine w_osome ?_ | refine bw_add ?_ | refine bw_sub ?_ | refine cw_lt ?_ | refine cw_le ?_ | refine cw_gt ?_ | refine cw_ge ?_ | refine cw_eqI ?_ | refine cw_neI ?_ | refine bl_w ?_ | refine if_t ?_ | refine if_f ?_ | refine w_comp ?_ | refine fl_rt ?_ | refine fl_nx ?_ | refine And.intro (by assumption) ?_ | refine And.intro rfl ?_ | refine ⟨_, rfl, ?_⟩ | refine ⟨_, _, rfl, rfl, ?_⟩ | refine ⟨_, rfl, rfl, ?_⟩ | refine ⟨_, _, _, rfl, rfl, rfl, ?_⟩ | refine ⟨_, _, _, rfl, rfl, atD0, ?_⟩ | refine ⟨_, _, _, rfl, rfl, atD1, ?_⟩ | refine ⟨_, _, rfl, rfl, rfl, ?_⟩ | dsimp only))
    refine ⟨_, _, _, rfl, rfl, a1, ?_⟩
    refine ⟨_, _, rfl, rfl, ?_⟩
    refine b_ss (ss' := [some (.v (bD t es)), some (.v (tupI b')), some (.v (tupI r)), some (.v (.int i)), some (.v (tupI e.1)), some (.v (tupI e.2)), none, none, none]) rfl ?_
    refine b_ifs ?_
    unfold tupI
    (repeat' (first | refine w_v rfl ?_ | refine w_int ?_ | refine w_bl ?_ | refine w_non ?_ | refine w_str ?_ | refine w_cons ?_ | refine w_nil ?_ | refine w_bin ?_ | refine w_cmp ?_ | refine w_call ?_ | refine w_bi ?_ | refine w_isi ?_ | refine w_ix ?_ | refine w_and ?_ | refine w_or ?_ | refine w_not ?_ | refine w_chn ?_ | refine w_tup ?_ | refine w_lst ?_ | refine w_ite ?_ | refine w_neg ?_ | refine w_sl ?_ | refine sl_t ?_ | refine sl_n ?_ | refine sl_b ?_ | refine sl_l ?_ | refine w_rev ?_ | refine rv_t ?_ | refine rv_n ?_ | refine rv_l ?_ | refine rv_b ?_ | refine w_onone ?_ | refine w_osome ?_ | refine bw_add ?_ | refine bw_sub ?_ | refine cw_lt ?_ | refine cw_le ?_ | refine cw_gt ?_ | refine cw_ge ?_ | refine cw_eqI ?_ | refine cw_neI ?_ | refine bl_w ?_ | refine if_t ?_ | refine if_f ?_ | refine w_comp ?_ | refine fl_rt ?_ | refine fl_nx ?_ | refine And.intro (by assumption) ?_ | refine And.intro rfl ?_ | refine ⟨_, rfl, ?_⟩ | refine ⟨_, _, rfl, rfl, ?_⟩ | refine ⟨_, rfl, rfl, ?_⟩ | refine ⟨_, _, _, rfl, rfl, rfl, ?_⟩ | refine ⟨_, _, _, rfl, rfl, atD0, ?_⟩ | refine ⟨_, _, _, rfl, rfl, atD1, ?_⟩ | refine ⟨_, _, rfl, rfl, rfl, ?_⟩ | dsimp only))
    refine c_pure geP (fun d hd => ?_) (by simp; omega) ?_
    · obtain ⟨x, y, rfl⟩ := mem_zip2 hd
      refine ⟨_, rfl, ?_⟩
      (repeat' (first | refine w_v rfl ?_ | refine w_int ?_ | refine w_bl ?_ | refine w_non ?_ | refine w_str ?_ | refine w_cons ?_ | refine w_nil ?_ | refine w_bin ?_ | refine w_cmp ?_ | refine w_call ?_ | refine w_bi ?_ | refine w_isi ?_ | refine w_ix ?_ | refine w_and ?_ | refine w_or ?_ | refine w_not ?_ | refine w_chn ?_ | refine w_tup ?_ | refine w_lst ?_ | refine w_ite ?_ | refine w_neg ?_ | refine w_sl ?_ | refine sl_t ?_ | refine sl_n ?_ | refine sl_b ?_ | refine sl_l ?_ | refine w_rev ?_ | refine rv_t ?_ | refine rv_n ?_ | refine rv_l ?_ | refine rv_b ?_ | refine w_onone ?_ | refine w_osome ?_ | refine bw_add ?_ | refine bw_sub ?_ | refine cw_lt ?_ | refine cw_le ?_ | refine cw_gt ?_ | refine cw_ge ?_ | refine cw_eqI ?_ | refine cw_neI ?_ | refine bl_w ?_ | refine if_t ?_ | refine if_f ?_ | refine w_comp ?_ | refine fl_rt ?_ | refine fl_nx ?_ | refine And.intro (by assumption) ?_ | refine And.intro rfl ?_ | refine ⟨_, rfl, ?_⟩ | refine ⟨_, _, rfl, rfl, ?_⟩ | refine ⟨_, rfl, rfl, ?_⟩ | refine ⟨_, _, _, rfl, rfl, rfl, ?_⟩ | refine ⟨_, _, _, rfl, rfl, atD0, ?_⟩ | refine ⟨_, _, _, rfl, rfl, atD1, ?_⟩ | refine ⟨_, _, rfl, rfl, rfl, ?_⟩ | dsimp only))
    · refine w_nil (bi_allL bls_geP ?_)
      have eh : ((b'.zip e.1).map fun p => decide (p.2 ≤ p.1)).all id = holdsL b' e.1 := by simp [holdsL, List.all_map, Function.comp_def]
      rw [eh]
      cases hh : holdsL b' e.1 with
      | false =>
        rw [hh] at hrun
        refine bl_w (bl_w (if_t (b_ret (w_non ⟨_, rfl, ?_⟩))))
        have : runL es b r = none := hrun
        exact ⟨rfl, by rw [this], rfl⟩
      | true =>
        rw [hh] at hrun
        refine bl_w (bl_w (if_f (b_nil (fl_nx ?_))))
        refine b_asg ?_
        (repeat' (first | refine w_v rfl ?_ | refine w_int ?_ | refine w_bl ?_ | refine w_non ?_ | refine w_str ?_ | refine w_cons ?_ | refine w_nil ?_ | refine w_bin ?_ | refine w_cmp ?_ | refine w_call ?_ | refine w_bi ?_ | refine w_isi ?_ | refine w_ix ?_ | refine w_and ?_ | refine w_or ?_ | refine w_not ?_ | refine w_chn ?_ | refine w_tup ?_ | refine w_lst ?_ | refine w_ite ?_ | refine w_neg ?_ | refine w_sl ?_ | refine sl_t ?_ | refine sl_n ?_ | refine sl_b ?_ | refine sl_l ?_ | refine w_rev ?_ | refine rv_t ?_ | refine rv_n ?_ | refine rv_l ?_ | refine rv_b ?_ | refine w_onone ?_ | refine w_osome ?_ | refine bw_add ?_ | refine bw_sub ?_ | refine cw_lt ?_ | refine cw_le ?_ | refine cw_gt ?_ | refine cw_ge ?_ | refine cw_eqI ?_ | refine cw_neI ?_ | refine bl_w ?_ | refine if_t ?_ | refine if_f ?_ | refine w_comp ?_ | refine fl_rt ?_ | refine fl_nx ?_ | refine And.intro (by assumption) ?_ | refine And.intro rfl ?_ | refine ⟨_, rfl, ?_⟩ | refine ⟨_, _, rfl, rfl, ?_⟩ | refine ⟨_, rfl, rfl, ?_⟩ | refine ⟨_, _, _, rfl, rfl, rfl, ?_⟩ | refine ⟨_, _, _, rfl, rfl, atD0, ?_⟩ | refine ⟨_, _, _, rfl, rfl, atD1, ?_⟩ | refine ⟨_, _, rfl, rfl, rfl, ?_⟩ | dsimp only))
        refine c_pure tri (fun d hd => ?_) (by simp; omega) ?_
        · simp only [List.mem_map] at hd
          obtain ⟨⟨x, y, w⟩, hxy, rfl⟩ := hd
          have hx := (List.of_mem_zip hxy).1
          have hy := (List.of_mem_zip hxy).2
          have hy1 := (List.of_mem_zip hy).1
          have hy2 := (List.of_mem_zip hy).2
          simp only [List.mem_map] at hx hy1 hy2
          obtain ⟨a, _, rfl⟩ := hx
          obtain ⟨c, _, rfl⟩ := hy1
          obtain ⟨f, _, rfl⟩ := hy2
          refine ⟨_, rfl, ?_⟩
          (repeat' (first | refine w_v rfl ?_ | refine w_int ?_ | refine w_bl ?_ | refine w_non ?_ | refine w_str ?_ | refine w_cons ?_ | refine w_nil ?_ | refine w_bin ?_ | refine w_cmp ?_ | refine w_call ?_ | refine w_bi ?_ | refine w_isi ?_ | refine w_ix ?_ | refine w_and ?_ | refine w_or ?_ | refine w_not ?_ | refine w_chn ?_ | refine w_tup ?_ | refine w_lst ?_ | refine w_ite ?_ | refine w_neg ?_ | refine w_sl ?_ | refine sl_t ?_ | refine sl_n ?_ | refine sl_b ?_ | refine sl_l ?_ | refine w_rev ?_ | refine rv_t ?_ | refine rv_n ?_ | refine rv_l ?_ | refine rv_b ?_ | refine w_onone ?_ | refine w_osome ?_ | refine bw_add ?_ | refine bw_sub ?_ | refine cw_lt ?_ | refine cw_le ?_ | refine cw_gt ?_ | refine cw_ge ?_ | refine cw_eqI ?_ | refine cw_neI ?_ | refine bl_w ?_ | refine if_t ?_ | refine if_f ?_ | refine w_comp ?_ | refine fl_rt ?_ | refine fl_nx ?_ | refine And.intro (by assumption) ?_ | refine And.intro rfl ?_ | refine ⟨_, rfl, ?_⟩ | refine ⟨_, _, rfl, rfl, ?_⟩ | refine ⟨_, rfl, rfl, ?_⟩ | refine ⟨_, _, _, rfl, rfl, rfl, ?_⟩ | refine ⟨_, _, _, rfl, rfl, atD0, ?_⟩ | refine ⟨_, _, _, rfl, rfl, atD1, ?_⟩ | refine ⟨_, _, rfl, rfl, rfl, ?_⟩ | dsimp only))
        · rw [map_tri]
          refine w_nil ⟨_, rfl, _, _, rfl, rfl, b_nil (fl_nx ⟨⟨addL b' (netL e), _, _, _, rfl, ?_, by simpa using hrun⟩, rfl⟩)⟩
          rw [addL_len, netL_len]
          omega
  · obtain ⟨⟨b', x3, x4, x5, rfl, hb', hrun⟩, rfl⟩ := J
    rw [List.length_map, List.drop_length] at hrun
    have hrun' : runL es b r = some b' := hrun
    exact b_ret (w_v rfl ⟨_, rfl, rfl, by rw [hrun'], rfl⟩)
end GV
set_option Elab.async false
set_option linter.all false
set_option maxRecDepth 100000
set_option maxHeartbeats 4000000
/-! GY1: texts of boards, plain. -/
namespace GV
open PySem L2 TL
theorem tl_sp : tl (" " : Str) = [32] := by decide +kernel
theorem tl_gt : tl (" > " : Str) = [32, 62, 32] := by decide +kernel
theorem tl_sc : tl ("; " : Str) = [59, 32] := by decide +kernel
def dS (i : Int) : Str := Str.ofString (toString i)
theorem tl_dS {i : Int} (h : 0 ≤ i ∧ i ≤ 5) : tl (dS i) = [48 + i.toNat] := by
  obtain ⟨n, rfl⟩ := Int.eq_ofNat_of_zero_le h.1
  unfold dS
  rw [tl_num, numL_lt (by omega)]
  simp
def ntT (l : List Int) : Str := Txt.join " " (l.map dS)
def rowT (e : Ex) : Str := ntT e.1 ++ " > " ++ ntT e.2
def boT (t : Int) (es : List Ex) : Str := Txt.join "; " (dS t :: es.map rowT)
def Dg (l : List Int) : Prop := ∀ i ∈ l, 0 ≤ i ∧ i ≤ 5
def ntL (l : List Int) : List Nat := joinL [32] (l.map fun i => [48 + i.toNat])
def rowL (e : Ex) : List Nat := ntL e.1 ++ ([32, 62, 32] ++ ntL e.2)
def boL (t : Int) (es : List Ex) : List Nat := joinL [59, 32] ([48 + t.toNat] :: es.map rowL)
theorem tl_ntT {l : List Int} (h : Dg l) : tl (ntT l) = ntL l := by
  unfold ntT ntL
  rw [join_eq, tl_join, tl_sp, List.map_map]
  congr 1
  exact List.map_congr_left fun i hi => tl_dS (h i hi)
theorem tl_rowT {e : Ex} (h1 : Dg e.1) (h2 : Dg e.2) : tl (rowT e) = rowL e := by
  unfold rowT rowL
  rw [tl_append, tl_append, tl_ntT h1, tl_ntT h2, tl_gt, List.append_assoc]
theorem tl_boT {t : Int} {es : List Ex} (v : BV t es) : tl (boT t es) = boL t es := by
  have a := v.t2
  have b := v.t4
  unfold boT boL
  rw [join_eq, tl_join, tl_sc, List.map_cons, tl_dS (by omega), List.map_map]
  congr 2
  exact List.map_congr_left fun e he => tl_rowT (v.ex e he).b1 (v.ex e he).b2
theorem ntL_two {x y : Int} {r : List Int} : ntL (x :: y :: r) = (48 + x.toNat) :: 32 :: ntL (y :: r) := rfl
theorem ntL_head {y : Int} {r : List Int} : ∃ q, ntL (y :: r) = (48 + y.toNat) :: q := by
  cases r with
  | nil => exact ⟨[], rfl⟩
  | cons z r => exact ⟨_, ntL_two⟩
theorem ntL_len : ∀ l : List Int, (ntL l).length = 2 * l.length - 1
  | [] => rfl
  | [_] => rfl
  | x :: y :: r => by
    have := ntL_len (y :: r)
    rw [ntL_two]
    simp only [List.length_cons] at this ⊢
    omega
theorem ntL_mem : ∀ {l : List Int}, Dg l → ∀ c ∈ ntL l, c = 32 ∨ (48 ≤ c ∧ c ≤ 53)
  | [], _, c, h => by cases h
  | [x], d, c, h => by
    have := d x (by simp)
    rw [List.mem_singleton.mp h]
    omega
  | x :: y :: r, d, c, h => by
    rw [ntL_two] at h
    have := d x (by simp)
    rcases List.mem_cons.mp h with q | q
    · omega
    · rcases List.mem_cons.mp q with q | q
      · omega
      · exact ntL_mem (l := y :: r) (fun i hi => d i (List.mem_cons_of_mem _ hi)) c q
theorem ntL_last : ∀ {l : List Int}, l ≠ [] → Dg l → ∃ a x, ntL l = a ++ [x] ∧ 48 ≤ x ∧ x ≤ 53
  | [], h, _ => absurd rfl h
  | [x], _, d => by
    have := d x (by simp)
    exact ⟨[], 48 + x.toNat, rfl, by omega, by omega⟩
  | x :: y :: r, _, d => by
    obtain ⟨a, z, e, q⟩ := ntL_last (l := y :: r) (by simp) (fun i hi => d i (List.mem_cons_of_mem _ hi))
    exact ⟨(48 + x.toNat) :: 32 :: a, z, by rw [ntL_two, e]; rfl, q⟩
theorem joinL_cons (S p : List Nat) : ∀ ps : List (List Nat), joinL S (p :: ps) = p ++ ps.flatMap (fun q => S ++ q)
  | [] => by simp [joinL]
  | q :: r => by
    show p ++ (S ++ joinL S (q :: r)) = _
    rw [joinL_cons S q r]
    simp
theorem boL_eq (t : Int) (es : List Ex) : boL t es = (48 + t.toNat) :: es.flatMap (fun e => 59 :: 32 :: rowL e) := by
  unfold boL
  rw [joinL_cons]
  simp [List.flatMap_map]
theorem EV.ne2 {t : Int} {e : Ex} (h : 2 ≤ t) (v : EV t e) : e.2 ≠ [] := by
  intro q
  have := v.l2
  rw [q] at this
  simp at this
  omega
theorem EV.ne1 {t : Int} {e : Ex} (h : 2 ≤ t) (v : EV t e) : e.1 ≠ [] := by
  intro q
  have := v.l1
  rw [q] at this
  simp at this
  omega
theorem rowL_len {t : Int} {e : Ex} (h : 2 ≤ t) (v : EV t e) : (rowL e).length = 4 * t.toNat + 1 := by
  have a := v.l1
  have b := v.l2
  unfold rowL
  simp only [List.length_append, ntL_len, List.length_cons, List.length_nil]
  omega
theorem boL_len {t : Int} {es : List Ex} (v : BV t es) : (boL t es).length = 1 + es.length * (4 * t.toNat + 3) := by
  rw [boL_eq]
  have h := v.t2
  have : ∀ fs : List Ex, (∀ e ∈ fs, EV t e) → (fs.flatMap fun e => 59 :: 32 :: rowL e).length = fs.length * (4 * t.toNat + 3) := fun fs hf => by
    induction fs with
    | nil => simp
    | cons e fs ih =>
      rw [List.flatMap_cons, List.length_append, ih fun x hx => hf x (List.mem_cons_of_mem _ hx), List.length_cons, List.length_cons, rowL_len h (hf e (List.mem_cons_self ..)), List.length_cons, Nat.add_mul fs.length 1]
      omega
  rw [List.length_cons, this es v.ex]
  omega
theorem boL_last {t : Int} {es : List Ex} (v : BV t es) : ∃ a x, boL t es = a ++ [x] ∧ 48 ≤ x ∧ x ≤ 53 := by
  have h2 := v.t2
  have h4 := v.t4
  rw [boL_eq]
  rcases List.eq_nil_or_concat es with q | ⟨fs, e, q⟩
  · subst q
    exact ⟨[], _, rfl, by omega, by omega⟩
  · rw [List.concat_eq_append] at q
    subst q
    have ve := v.ex e (by simp)
    obtain ⟨a, x, z, zz⟩ := ntL_last (ve.ne2 h2) ve.b2
    refine ⟨(48 + t.toNat) :: (fs.flatMap (fun e => 59 :: 32 :: rowL e) ++ (59 :: 32 :: (ntL e.1 ++ ([32, 62, 32] ++ a)))), x, ?_, zz⟩
    rw [List.flatMap_append]
    simp [rowL, z]
/-! ### splitting -/
theorem spl_nt : ∀ {l : List Int} (rest acc : List Nat), l ≠ [] → Dg l → spl [32, 62, 32] 0 acc (ntL l ++ ([32, 62, 32] ++ rest)) = (acc ++ ntL l) :: spl [32, 62, 32] 0 [] rest
  | [], _, _, h, _ => absurd rfl h
  | [x], rest, acc, _, _ => by
    refine spl_part1 ?_
    show 32 ∉ [48 + x.toNat]
    simp
    omega
  | x :: y :: r, rest, acc, _, d => by
    have dy := d y (by simp)
    obtain ⟨q, hq⟩ := ntL_head (y := y) (r := r)
    have ih := spl_nt (l := y :: r) rest (acc ++ [48 + x.toNat] ++ [32]) (by simp) (fun i hi => d i (List.mem_cons_of_mem _ hi))
    rw [ntL_two, List.cons_append, List.cons_append, spl_miss (pre_of_head _ _ (by omega)), spl_miss, ih]
    · simp
    · rw [hq]
      have ne : ¬ (48 + y.toNat = 62) := by omega
      simp [pre, ne]
theorem spl_ntl : ∀ {l : List Int} (acc : List Nat), l ≠ [] → Dg l → spl [32, 62, 32] 0 acc (ntL l) = [acc ++ ntL l]
  | [], _, h, _ => absurd rfl h
  | [x], acc, _, _ => by
    refine spl_last1 ?_
    show 32 ∉ [48 + x.toNat]
    simp
    omega
  | x :: y :: r, acc, _, d => by
    have dy := d y (by simp)
    obtain ⟨q, hq⟩ := ntL_head (y := y) (r := r)
    have ih := spl_ntl (l := y :: r) (acc ++ [48 + x.toNat] ++ [32]) (by simp) (fun i hi => d i (List.mem_cons_of_mem _ hi))
    rw [ntL_two, spl_miss (pre_of_head _ _ (by omega)), spl_miss, ih]
    · simp
    · rw [hq]
      have ne : ¬ (48 + y.toNat = 62) := by omega
      simp [pre, ne]
theorem plain_sp : ((" " : Str)).cps.all (· < 256) = true := by decide +kernel
theorem plain_gt : ((" > " : Str)).cps.all (· < 256) = true := by decide +kernel
theorem plain_sc : (("; " : Str)).cps.all (· < 256) = true := by decide +kernel
theorem split_nt {l : List Int} (h : l ≠ []) (d : Dg l) : Txt.split (ntT l) " " = l.map dS := by
  refine split_join tl_sp plain_sp (by simpa using h) fun p hp => ?_
  obtain ⟨i, hi, rfl⟩ := List.mem_map.mp hp
  rw [tl_dS (d i hi)]
  simp
  omega
theorem split_row {t : Int} {e : Ex} (h : 2 ≤ t) (v : EV t e) : Txt.split (rowT e) " > " = [ntT e.1, ntT e.2] := by
  refine map_tl_inj ?_
  rw [split_spl _ _ (by rw [tl_gt]; simp) (kind_ok plain_gt), tl_rowT v.b1 v.b2, tl_gt]
  unfold rowL
  rw [spl_nt _ _ (v.ne1 h) v.b1, spl_ntl _ (v.ne2 h) v.b2, List.map_cons, List.map_cons, tl_ntT v.b1, tl_ntT v.b2]
  simp
theorem split_bo {t : Int} {es : List Ex} (v : BV t es) : Txt.split (boT t es) "; " = dS t :: es.map rowT := by
  have h2 := v.t2
  have h4 := v.t4
  refine split_join tl_sc plain_sc (by simp) fun p hp => ?_
  rcases List.mem_cons.mp hp with q | q
  · subst q
    rw [tl_dS (by omega)]
    simp
    omega
  · obtain ⟨e, he, rfl⟩ := List.mem_map.mp q
    have ve := v.ex e he
    rw [tl_rowT ve.b1 ve.b2]
    unfold rowL
    intro c
    rcases List.mem_append.mp c with c | c
    · have := ntL_mem ve.b1 _ c
      omega
    · rcases List.mem_append.mp c with c | c
      · simp at c
      · have := ntL_mem ve.b2 _ c
        omega
/-! ### parts of any text -/
theorem spl_ne (S : List Nat) : ∀ (L : List Nat) (k : Nat) (acc : List Nat), spl S k acc L ≠ []
  | [], k, acc => by rw [spl_nil]; simp
  | c :: r, 0, acc => by
    cases h : pre S (c :: r) with
    | true => rw [spl_hit h]; simp
    | false => rw [spl_miss h]; exact spl_ne S r 0 _
  | c :: r, k + 1, acc => spl_ne S r k acc
theorem spl_le (S : List Nat) : ∀ (L : List Nat) (k : Nat) (acc : List Nat), ∀ p ∈ spl S k acc L, p.length ≤ acc.length + L.length
  | [], k, acc, p, h => by
    rw [spl_nil] at h
    rw [List.mem_singleton.mp h]
    simp
  | c :: r, 0, acc, p, h => by
    cases q : pre S (c :: r) with
    | true =>
      rw [spl_hit q] at h
      rcases List.mem_cons.mp h with z | z
      · rw [z]; omega
      · have := spl_le S r _ [] p z
        simp only [List.length_nil, List.length_cons] at this ⊢
        omega
    | false =>
      rw [spl_miss q] at h
      have := spl_le S r 0 (acc ++ [c]) p h
      simp only [List.length_append, List.length_cons, List.length_nil] at this ⊢
      omega
  | c :: r, k + 1, acc, p, h => by
    have := spl_le S r k acc p h
    simp only [List.length_cons] at this ⊢
    omega
theorem split_ne {x y : Str} (hy : tl y ≠ []) (hk : y.cps.all (· < 256) = true) : Txt.split x y ≠ [] := by
  intro q
  have := split_spl x y hy (kind_ok hk)
  rw [q] at this
  exact spl_ne _ _ _ _ this.symm
theorem split_part {x y p : Str} (hy : tl y ≠ []) (hk : y.cps.all (· < 256) = true) (h : p ∈ Txt.split x y) : p.length ≤ x.length := by
  have := split_spl x y hy (kind_ok hk)
  have h2 : tl p ∈ spl (tl y) 0 [] (tl x) := by
    rw [← this]
    exact List.mem_map_of_mem h
  have := spl_le _ _ _ _ _ h2
  rw [len_tl p, len_tl x]
  simpa using this
/-! ### reading -/
def numOf (w : Str) : D := match tl w with
  | [c] => if 48 ≤ c ∧ c ≤ 53 then .int ((c : Int) - 48) else .non
  | _ => .non
theorem numOf_dS {i : Int} (h : 0 ≤ i ∧ i ≤ 5) : numOf (dS i) = .int i := by
  unfold numOf
  rw [tl_dS h]
  have : 48 ≤ 48 + i.toNat ∧ 48 + i.toNat ≤ 53 := by omega
  simp only [this, and_self, if_true]
  congr 1
  omega
def exOf (x : Str) : D := .tup ((Txt.split x " > ").map fun s => .tup ((Txt.split s " ").map numOf))
def foundD (x : Str) : D := .tup [numOf ((Txt.split x "; ").headD Str.empty), .tup ((Txt.split x "; ").tail.map exOf)]
theorem nums_nt {l : List Int} (h : l ≠ []) (d : Dg l) : D.tup ((Txt.split (ntT l) " ").map numOf) = tupI l := by
  rw [split_nt h d, List.map_map]
  unfold tupI
  congr 1
  exact List.map_congr_left fun i hi => numOf_dS (d i hi)
theorem exOf_row {t : Int} {e : Ex} (h : 2 ≤ t) (v : EV t e) : exOf (rowT e) = exD e := by
  unfold exOf exD
  rw [split_row h v, List.map_cons, List.map_cons, List.map_nil, nums_nt (v.ne1 h) v.b1, nums_nt (v.ne2 h) v.b2]
theorem found_bo {t : Int} {es : List Ex} (v : BV t es) : foundD (boT t es) = bD t es := by
  have h2 := v.t2
  have h4 := v.t4
  unfold foundD bD
  rw [split_bo v, List.headD_cons, List.tail_cons, numOf_dS (by omega), List.map_map]
  congr 4
  exact List.map_congr_left fun e he => exOf_row h2 (v.ex e he)
theorem numOf_ok {w : Str} {n : Nat} : (numOf w).okN (n + 1) = true := by
  unfold numOf
  split
  · split <;> rfl
  · rfl
theorem exOf_ok {x : Str} {n : Nat} : (exOf x).okN (n + 3) = true := by
  unfold exOf
  simp only [D.okN, List.all_map, List.all_eq_true]
  intro s _
  simp only [Function.comp, D.okN, List.all_map, List.all_eq_true]
  intro w _
  exact numOf_ok
theorem found_ok {x : Str} {n : Nat} : (foundD x).okN (n + 5) = true := by
  unfold foundD
  simp only [D.okN, List.all_cons, List.all_nil, Bool.and_true, numOf_ok, Bool.true_and, List.all_map, List.all_eq_true]
  intro s _
  exact exOf_ok
/-! ### what stands is a board -/
theorem of_isEx {t : Int} {d : D} (h : isEx t d = true) : ∃ e, d = exD e ∧ EV t e := by
  unfold isEx at h
  split at h
  · rename_i a b
    simp only [Bool.and_eq_true, decide_eq_true_eq] at h
    obtain ⟨h1, h2, h3⟩ := h
    have key : ∀ {d : D}, areNum t 0 5 d = true → ∃ ns : List Int, d = tupI ns ∧ (ns.length : Int) = t ∧ ∀ i ∈ ns, 0 ≤ i ∧ i ≤ 5 := fun {d} q => by
      cases d <;> simp [areNum] at q
      rename_i xs
      obtain ⟨ns, rfl, hn⟩ := allInt (lo := 0) (hi := 5) (xs := xs) (by simpa using q.2)
      exact ⟨ns, rfl, by simpa using q.1, hn⟩
    obtain ⟨a, rfl, a1, a2⟩ := key h1
    obtain ⟨b, rfl, b1, b2⟩ := key h2
    exact ⟨(a, b), rfl, a1, b1, a2, b2, by simpa [tupI, sumD, ints_map] using h3⟩
  · cases h
theorem of_exs {t : Int} : ∀ {ds : List D}, ds.all (isEx t) = true → ∃ es : List Ex, ds = es.map exD ∧ ∀ e ∈ es, EV t e
  | [], _ => ⟨[], rfl, by simp⟩
  | d :: ds, h => by
    simp only [List.all_cons, Bool.and_eq_true] at h
    obtain ⟨e, rfl, v⟩ := of_isEx h.1
    obtain ⟨es, rfl, vs⟩ := of_exs h.2
    exact ⟨e :: es, rfl, fun x hx => by
      rcases List.mem_cons.mp hx with q | q
      · rw [q]; exact v
      · exact vs x q⟩
theorem of_stands {d : D} (h : standsD d = true) : ∃ t es, d = bD t es ∧ BV t es := by
  unfold standsD at h
  split at h
  · rename_i t ds
    simp only [Bool.and_eq_true, decide_eq_true_eq] at h
    obtain ⟨⟨⟨h1, h2⟩, h3⟩, h4⟩ := h
    obtain ⟨es, rfl, vs⟩ := of_exs h4
    exact ⟨t, es, rfl, h1, h2, by simpa using h3, vs⟩
  · cases h
end GV
set_option Elab.async false
set_option linter.all false
set_option maxRecDepth 100000
set_option maxHeartbeats 4000000
/-! GY2: texts of boards, walked. -/
namespace GV
open PySem L2 TL
def b_numbers_text : List S := [
  .ret (.mt .join (.str " ") [(.comp .seq [(.v 0)] (.n 1) [1] [] (.bi .str [(.v 1)]))])]
def n_numbers_text : List Str := ["some", "one"]
def f_numbers_text : FD := ⟨2, 1, b_numbers_text⟩
def b_board_text : List S := [
  .asg (.n 1) (.comp .seq [(.ix (.v 0) (.int 1))] (.t [(.n 2), (.n 3)]) [2, 3] [] (.bin .add (.bin .add (.call 143 [(.v 2)]) (.str " > ")) (.call 143 [(.v 3)]))),
  .ret (.mt .join (.str "; ") [(.bin .add (.lst [(.bi .str [(.ix (.v 0) (.int 0))])]) (.v 1))])]
def n_board_text : List Str := ["board", "rows", "takes", "gives"]
def f_board_text : FD := ⟨4, 1, b_board_text⟩
def b_format_board : List S := [
  .expr (.call 13 [(.v 0)]),
  .ret (.call 144 [(.v 0)])]
def n_format_board : List Str := ["board"]
def f_format_board : FD := ⟨1, 1, b_format_board⟩
def b_number_of : List S := [
  .ret (.ite (.and (.cmp .eq (.bi .len [(.v 0)]) (.int 1)) (.cmp .isin (.v 0) (.g 0))) (.bi .int [(.v 0)]) .non)]
def n_number_of : List Str := ["word"]
def f_number_of : FD := ⟨1, 1, b_number_of⟩
def b_exchange_of : List S := [
  .asg (.n 1) (.mt .split (.v 0) [(.str " > ")]),
  .ret (.bi .tuple [(.comp .seq [(.v 1)] (.n 2) [2] [] (.bi .tuple [(.comp .seq [(.mt .split (.v 2) [(.str " ")])] (.n 3) [3] [] (.call 146 [(.v 3)]))]))])]
def n_exchange_of : List Str := ["text", "sides", "side", "word"]
def f_exchange_of : FD := ⟨4, 1, b_exchange_of⟩
def b_parse_board : List S := [
  .ifs (.not (.isi (.v 0) .str)) [
    .raise 20] [],
  .asg (.n 1) (.mt .split (.v 0) [(.str "; ")]),
  .asg (.n 2) (.tup [(.call 146 [(.ix (.v 1) (.int 0))]), (.bi .tuple [(.comp .seq [(.sl (.v 1) (some (.int 1)) none)] (.n 3) [3] [] (.call 147 [(.v 3)]))])]),
  .ifs (.or (.not (.call 4 [(.v 2)])) (.cmp .ne (.call 144 [(.v 2)]) (.v 0))) [
    .raise 20] [],
  .ret (.v 2)]
def n_parse_board : List Str := ["text", "parts", "found", "part"]
def f_parse_board : FD := ⟨4, 1, b_parse_board⟩
def b_law_read : List S := [
  .tryW (.call 148 [(.v 0)]) 1]
def n_law_read : List Str := ["text", "e"]
def f_law_read : FD := ⟨2, 1, b_law_read⟩
structure PTx (p : Pg) : Prop where
  h1 : p.Pt 1 = some f_is_integer
  h2 : p.Pt 2 = some f_are_numbers
  h3 : p.Pt 3 = some f_is_exchange
  h4 : p.Pt 4 = some f_stands
  h13 : p.Pt 13 = some f_need_board
  h143 : p.Pt 143 = some f_numbers_text
  h144 : p.Pt 144 = some f_board_text
  h145 : p.Pt 145 = some f_format_board
  h146 : p.Pt 146 = some f_number_of
  h147 : p.Pt 147 = some f_exchange_of
  h148 : p.Pt 148 = some f_parse_board
  gc : p.gc 0 = some (.str "012345")
section
variable {G : Cfg} {X : Nat → MH → Prop} {ss : SS} {h : MH} {Q : R → MH → Prop}
theorem w_splitV {j : Nat} {z w : Str} (e : readV ss j = some (.v (.str z))) (h1 : (w.length == 0) = false) (h2 : z.length ≤ 1000000) (q : Q (.nl ((Txt.split z w).map .str)) h) : xE G X (.mt .split (.v j) [.str w]) ss h Q :=
  w_split (w_v e (w_str ⟨z, w, rfl, rfl, h1, h2, q⟩)) fun x h' e' => by
    rw [evE, e] at e'
    cases e'
    exact ⟨_, rfl⟩
theorem w_joinS {w : Str} {b : E} (q : xE G X b ss h fun y h => ∃ z ys ns, R.v (.str w) = .v (.str z) ∧ y.rd = .lst ys ∧ strs? ys = some ns ∧ (ns.map (·.length)).sum + ns.length * z.length ≤ 1000000 ∧ Q (.v (.str (Txt.join z ns))) h) : xE G X (.mt .join (.str w) [b]) ss h Q :=
  w_join (w_str q) fun x h' e' => by
    rw [evE] at e'
    cases e'
    exact ⟨_, rfl⟩
end
theorem bw_sadd {x y : Str} {Q : R → Prop} (e : x.length + y.length ≤ 1000000) (q : Q (.v (.str (x ++ y)))) : BinW .add (.v (.str x)) (.v (.str y)) Q := by
  refine ⟨_, ?_, q⟩
  have : small (x.length + y.length) = true := decide_eq_true e
  simp [binR, this]
theorem bi_lenS {srt : List D → Option (List D)} {x : Str} {h : MH} {Q : R → Prop} (e : x.length ≤ 1000000) (q : Q (.v (.int (x.length : Nat)))) : BiW srt .len [.v (.str x)] h Q := by
  refine ⟨_, ?_, q⟩
  have : small x.length = true := decide_eq_true e
  simp [biR, lenD, R.rd, this]
theorem bi_strI {srt : List D → Option (List D)} {i : Int} {h : MH} {Q : R → Prop} (e : 0 ≤ i ∧ i ≤ 5) (q : Q (.v (.str (dS i)))) : BiW srt .str [.v (.int i)] h Q := by
  refine ⟨_, ?_, q⟩
  have : i.natAbs.log2 < 1920 := by
    have : i = 0 ∨ i = 1 ∨ i = 2 ∨ i = 3 ∨ i = 4 ∨ i = 5 := by omega
    rcases this with rfl | rfl | rfl | rfl | rfl | rfl <;> decide +kernel
  simp [biR, this, dS]
theorem int_six : ∀ {c : Nat}, 48 ≤ c ∧ c ≤ 53 → PySem.intText? ⟨#[c]⟩ = some ((c : Int) - 48) := fun {c} h => by
  have : c = 48 ∨ c = 49 ∨ c = 50 ∨ c = 51 ∨ c = 52 ∨ c = 53 := by omega
  rcases this with rfl | rfl | rfl | rfl | rfl | rfl <;> decide +kernel
theorem in_six {c : Nat} : (!(Builtin.Str.occurrences ("012345" : Str) ⟨#[c]⟩ 0 ("012345" : Str).length 1).isEmpty) = decide (48 ≤ c ∧ c ≤ 53) := by
  rw [StrLaws.found_one]
  have : (("012345" : Str)).cps.toList = [48, 49, 50, 51, 52, 53] := by decide +kernel
  rw [this]
  simp only [List.mem_cons, List.not_mem_nil, or_false, decide_eq_decide]
  omega
theorem number_of_eq {p : Pg} (L : PTx p) {n : Nat} {w : Str} {h : MH} (hw : w.length ≤ 1000000) : p.c (n + 1) 146 [.v (.str w)] h = .ok (.v (numOf w)) h := by
  refine O.eq_of (Pg.call_wp L.h146 rfl ?_)
  unfold f_number_of b_number_of
  (repeat' (first | refine w_v rfl ?_ | refine w_int ?_ | refine w_bl ?_ | refine w_non ?_ | refine w_str ?_ | refine w_cons ?_ | refine w_nil ?_ | refine w_bin ?_ | refine w_cmp ?_ | refine w_call ?_ | refine w_bi ?_ | refine w_isi ?_ | refine w_ix ?_ | refine w_and ?_ | refine w_or ?_ | refine w_not ?_ | refine w_chn ?_ | refine w_tup ?_ | refine w_lst ?_ | refine w_ite ?_ | refine w_neg ?_ | refine w_sl ?_ | refine sl_t ?_ | refine sl_n ?_ | refine sl_b ?_ | refine sl_l ?_ | refine w_rev ?_ | refine rv_t ?_ | refine rv_n ?_ | refine rv_l ?_ | refine rv_b ?_ | refine w_onone ?_ | refine w_osome ?_ | refine b_asg ?_ | refine b_ret ?_ | refine b_retN ?_ | refine b_expr ?_ | refine b_pass ?_ | refine b_ifs ?_ | refine b_for ?_ | refine b_asgO ?_ | refine b_asgR ?_ | refine bw_add ?_ | refine bw_sub ?_ | refine cw_lt ?_ | refine cw_le ?_ | refine cw_gt ?_ | refine cw_ge ?_ | refine cw_eqI ?_ | refine cw_neI ?_ | refine bl_w ?_ | refine if_t ?_ | refine if_f ?_ | refine w_comp ?_ | refine b_nil ?_ | refine b_par ?_ | refine b_par2 ?_ | refine b_appO rfl ?_ | refine b_extO rfl ?_ | refine fl_rt ?_ | refine fl_nx ?_ | refine And.intro (by assumption) ?_ | refine And.intro rfl ?_ | refine ⟨_, rfl, ?_⟩ | refine ⟨_, _, rfl, rfl, ?_⟩ | refine ⟨_, rfl, rfl, ?_⟩ | refine ⟨_, _, _, rfl, rfl, rfl, ?_⟩ | refine ⟨_, _, _, rfl, rfl, atD0, ?_⟩ | refine ⟨_, _, _, rfl, rfl, atD1, ?_⟩ | refine ⟨_, _, rfl, rfl, rfl, ?_⟩ | refine for_cons rfl ?_ | refine for_nil ?_ | dsimp only))
  refine bi_lenS hw ?_
  (repeat' (first | refine w_v rfl ?_ | refine w_int ?_ | refine w_bl ?_ | refine w_non ?_ | refine w_str ?_ | refine w_cons ?_ | refine w_nil ?_ | refine w_bin ?_ | refine w_cmp ?_ | refine w_call ?_ | refine w_bi ?_ | refine w_isi ?_ | refine w_ix ?_ | refine w_and ?_ | refine w_or ?_ | refine w_not ?_ | refine w_chn ?_ | refine w_tup ?_ | refine w_lst ?_ | refine w_ite ?_ | refine w_neg ?_ | refine w_sl ?_ | refine sl_t ?_ | refine sl_n ?_ | refine sl_b ?_ | refine sl_l ?_ | refine w_rev ?_ | refine rv_t ?_ | refine rv_n ?_ | refine rv_l ?_ | refine rv_b ?_ | refine w_onone ?_ | refine w_osome ?_ | refine b_asg ?_ | refine b_ret ?_ | refine b_retN ?_ | refine b_expr ?_ | refine b_pass ?_ | refine b_ifs ?_ | refine b_for ?_ | refine b_asgO ?_ | refine b_asgR ?_ | refine bw_add ?_ | refine bw_sub ?_ | refine cw_lt ?_ | refine cw_le ?_ | refine cw_gt ?_ | refine cw_ge ?_ | refine cw_eqI ?_ | refine cw_neI ?_ | refine bl_w ?_ | refine if_t ?_ | refine if_f ?_ | refine w_comp ?_ | refine b_nil ?_ | refine b_par ?_ | refine b_par2 ?_ | refine b_appO rfl ?_ | refine b_extO rfl ?_ | refine fl_rt ?_ | refine fl_nx ?_ | refine And.intro (by assumption) ?_ | refine And.intro rfl ?_ | refine ⟨_, rfl, ?_⟩ | refine ⟨_, _, rfl, rfl, ?_⟩ | refine ⟨_, rfl, rfl, ?_⟩ | refine ⟨_, _, _, rfl, rfl, rfl, ?_⟩ | refine ⟨_, _, _, rfl, rfl, atD0, ?_⟩ | refine ⟨_, _, _, rfl, rfl, atD1, ?_⟩ | refine ⟨_, _, rfl, rfl, rfl, ?_⟩ | refine for_cons rfl ?_ | refine for_nil ?_ | dsimp only))
  by_cases h1 : w.length = 1
  · have h1' : decide ((w.length : Int) = 1) = true := decide_eq_true (by omega)
    rw [h1']
    obtain ⟨c, rfl⟩ : ∃ c, w = ⟨#[c]⟩ := by
      have := len_tl w
      rw [h1] at this
      obtain ⟨c, hc⟩ := List.length_eq_one_iff.mp this.symm
      refine ⟨c, ext_tl ?_⟩
      rw [hc]
    (repeat' (first | refine w_v rfl ?_ | refine w_int ?_ | refine w_bl ?_ | refine w_non ?_ | refine w_str ?_ | refine w_cons ?_ | refine w_nil ?_ | refine w_bin ?_ | refine w_cmp ?_ | refine w_call ?_ | refine w_bi ?_ | refine w_isi ?_ | refine w_ix ?_ | refine w_and ?_ | refine w_or ?_ | refine w_not ?_ | refine w_chn ?_ | refine w_tup ?_ | refine w_lst ?_ | refine w_ite ?_ | refine w_neg ?_ | refine w_sl ?_ | refine sl_t ?_ | refine sl_n ?_ | refine sl_b ?_ | refine sl_l ?_ | refine w_rev ?_ | refine rv_t ?_ | refine rv_n ?_ | refine rv_l ?_ | refine rv_b ?_ | refine w_onone ?_ | refine w_osome ?_ | refine b_asg ?_ | refine b_ret ?_ | refine b_retN ?_ | refine b_expr ?_ | refine b_pass ?_ | refine b_ifs ?_ | refine b_for ?_ | refine b_asgO ?_ | refine b_asgR ?_ | refine bw_add ?_ | refine bw_sub ?_ | refine cw_lt ?_ | refine cw_le ?_ | refine cw_gt ?_ | refine cw_ge ?_ | refine cw_eqI ?_ | refine cw_neI ?_ | refine bl_w ?_ | refine if_t ?_ | refine if_f ?_ | refine w_comp ?_ | refine b_nil ?_ | refine b_par ?_ | refine b_par2 ?_ | refine b_appO rfl ?_ | refine b_extO rfl ?_ | refine fl_rt ?_ | refine fl_nx ?_ | refine And.intro (by assumption) ?_ | refine And.intro rfl ?_ | refine ⟨_, rfl, ?_⟩ | refine ⟨_, _, rfl, rfl, ?_⟩ | refine ⟨_, rfl, rfl, ?_⟩ | refine ⟨_, _, _, rfl, rfl, rfl, ?_⟩ | refine ⟨_, _, _, rfl, rfl, atD0, ?_⟩ | refine ⟨_, _, _, rfl, rfl, atD1, ?_⟩ | refine ⟨_, _, rfl, rfl, rfl, ?_⟩ | refine for_cons rfl ?_ | refine for_nil ?_ | dsimp only))
    refine w_g L.gc ?_
    refine ⟨decide (48 ≤ c ∧ c ≤ 53), by simp only [cmpR, R.rd]; rw [in_six], ?_⟩
    (repeat' (first | refine w_v rfl ?_ | refine w_int ?_ | refine w_bl ?_ | refine w_non ?_ | refine w_str ?_ | refine w_cons ?_ | refine w_nil ?_ | refine w_bin ?_ | refine w_cmp ?_ | refine w_call ?_ | refine w_bi ?_ | refine w_isi ?_ | refine w_ix ?_ | refine w_and ?_ | refine w_or ?_ | refine w_not ?_ | refine w_chn ?_ | refine w_tup ?_ | refine w_lst ?_ | refine w_ite ?_ | refine w_neg ?_ | refine w_sl ?_ | refine sl_t ?_ | refine sl_n ?_ | refine sl_b ?_ | refine sl_l ?_ | refine w_rev ?_ | refine rv_t ?_ | refine rv_n ?_ | refine rv_l ?_ | refine rv_b ?_ | refine w_onone ?_ | refine w_osome ?_ | refine b_asg ?_ | refine b_ret ?_ | refine b_retN ?_ | refine b_expr ?_ | refine b_pass ?_ | refine b_ifs ?_ | refine b_for ?_ | refine b_asgO ?_ | refine b_asgR ?_ | refine bw_add ?_ | refine bw_sub ?_ | refine cw_lt ?_ | refine cw_le ?_ | refine cw_gt ?_ | refine cw_ge ?_ | refine cw_eqI ?_ | refine cw_neI ?_ | refine bl_w ?_ | refine if_t ?_ | refine if_f ?_ | refine w_comp ?_ | refine b_nil ?_ | refine b_par ?_ | refine b_par2 ?_ | refine b_appO rfl ?_ | refine b_extO rfl ?_ | refine fl_rt ?_ | refine fl_nx ?_ | refine And.intro (by assumption) ?_ | refine And.intro rfl ?_ | refine ⟨_, rfl, ?_⟩ | refine ⟨_, _, rfl, rfl, ?_⟩ | refine ⟨_, rfl, rfl, ?_⟩ | refine ⟨_, _, _, rfl, rfl, rfl, ?_⟩ | refine ⟨_, _, _, rfl, rfl, atD0, ?_⟩ | refine ⟨_, _, _, rfl, rfl, atD1, ?_⟩ | refine ⟨_, _, rfl, rfl, rfl, ?_⟩ | refine for_cons rfl ?_ | refine for_nil ?_ | dsimp only))
    by_cases h2 : 48 ≤ c ∧ c ≤ 53
    · rw [decide_eq_true h2]
      (repeat' (first | refine w_v rfl ?_ | refine w_int ?_ | refine w_bl ?_ | refine w_non ?_ | refine w_str ?_ | refine w_cons ?_ | refine w_nil ?_ | refine w_bin ?_ | refine w_cmp ?_ | refine w_call ?_ | refine w_bi ?_ | refine w_isi ?_ | refine w_ix ?_ | refine w_and ?_ | refine w_or ?_ | refine w_not ?_ | refine w_chn ?_ | refine w_tup ?_ | refine w_lst ?_ | refine w_ite ?_ | refine w_neg ?_ | refine w_sl ?_ | refine sl_t ?_ | refine sl_n ?_ | refine sl_b ?_ | refine sl_l ?_ | refine w_rev ?_ | refine rv_t ?_ | refine rv_n ?_ | refine rv_l ?_ | refine rv_b ?_ | refine w_onone ?_ | refine w_osome ?_ | refine b_asg ?_ | refine b_ret ?_ | refine b_retN ?_ | refine b_expr ?_ | refine b_pass ?_ | refine b_ifs ?_ | refine b_for ?_ | refine b_asgO ?_ | refine b_asgR ?_ | refine bw_add ?_ | refine bw_sub ?_ | refine cw_lt ?_ | refine cw_le ?_ | refine cw_gt ?_ | refine cw_ge ?_ | refine cw_eqI ?_ | refine cw_neI ?_ | refine bl_w ?_ | refine if_t ?_ | refine if_f ?_ | refine w_comp ?_ | refine b_nil ?_ | refine b_par ?_ | refine b_par2 ?_ | refine b_appO rfl ?_ | refine b_extO rfl ?_ | refine fl_rt ?_ | refine fl_nx ?_ | refine And.intro (by assumption) ?_ | refine And.intro rfl ?_ | refine ⟨_, rfl, ?_⟩ | refine ⟨_, _, rfl, rfl, ?_⟩ | refine ⟨_, rfl, rfl, ?_⟩ | refine ⟨_, _, _, rfl, rfl, rfl, ?_⟩ | refine ⟨_, _, _, rfl, rfl, atD0, ?_⟩ | refine ⟨_, _, _, rfl, rfl, atD1, ?_⟩ | refine ⟨_, _, rfl, rfl, rfl, ?_⟩ | refine for_cons rfl ?_ | refine for_nil ?_ | dsimp only))
      refine ⟨.v (.int ((c : Int) - 48)), by simp [biR, int_six h2, Str.length], ?_⟩
      (repeat' (first | refine w_v rfl ?_ | refine w_int ?_ | refine w_bl ?_ | refine w_non ?_ | refine w_str ?_ | refine w_cons ?_ | refine w_nil ?_ | refine w_bin ?_ | refine w_cmp ?_ | refine w_call ?_ | refine w_bi ?_ | refine w_isi ?_ | refine w_ix ?_ | refine w_and ?_ | refine w_or ?_ | refine w_not ?_ | refine w_chn ?_ | refine w_tup ?_ | refine w_lst ?_ | refine w_ite ?_ | refine w_neg ?_ | refine w_sl ?_ | refine sl_t ?_ | refine sl_n ?_ | refine sl_b ?_ | refine sl_l ?_ | refine w_rev ?_ | refine rv_t ?_ | refine rv_n ?_ | refine rv_l ?_ | refine rv_b ?_ | refine w_onone ?_ | refine w_osome ?_ | refine b_asg ?_ | refine b_ret ?_ | refine b_retN ?_ | refine b_expr ?_ | refine b_pass ?_ | refine b_ifs ?_ | refine b_for ?_ | refine b_asgO ?_ | refine b_asgR ?_ | refine bw_add ?_ | refine bw_sub ?_ | refine cw_lt ?_ | refine cw_le ?_ | refine cw_gt ?_ | refine cw_ge ?_ | refine cw_eqI ?_ | refine cw_neI ?_ | refine bl_w ?_ | refine if_t ?_ | refine if_f ?_ | refine w_comp ?_ | refine b_nil ?_ | refine b_par ?_ | refine b_par2 ?_ | refine b_appO rfl ?_ | refine b_extO rfl ?_ | refine fl_rt ?_ | refine fl_nx ?_ | refine And.intro (by assumption) ?_ | refine And.intro rfl ?_ | refine ⟨_, rfl, ?_⟩ | refine ⟨_, _, rfl, rfl, ?_⟩ | refine ⟨_, rfl, rfl, ?_⟩ | refine ⟨_, _, _, rfl, rfl, rfl, ?_⟩ | refine ⟨_, _, _, rfl, rfl, atD0, ?_⟩ | refine ⟨_, _, _, rfl, rfl, atD1, ?_⟩ | refine ⟨_, _, rfl, rfl, rfl, ?_⟩ | refine for_cons rfl ?_ | refine for_nil ?_ | dsimp only))
      simp [numOf, tl, h2]
    · rw [decide_eq_false h2]
      (repeat' (first | refine w_v rfl ?_ | refine w_int ?_ | refine w_bl ?_ | refine w_non ?_ | refine w_str ?_ | refine w_cons ?_ | refine w_nil ?_ | refine w_bin ?_ | refine w_cmp ?_ | refine w_call ?_ | refine w_bi ?_ | refine w_isi ?_ | refine w_ix ?_ | refine w_and ?_ | refine w_or ?_ | refine w_not ?_ | refine w_chn ?_ | refine w_tup ?_ | refine w_lst ?_ | refine w_ite ?_ | refine w_neg ?_ | refine w_sl ?_ | refine sl_t ?_ | refine sl_n ?_ | refine sl_b ?_ | refine sl_l ?_ | refine w_rev ?_ | refine rv_t ?_ | refine rv_n ?_ | refine rv_l ?_ | refine rv_b ?_ | refine w_onone ?_ | refine w_osome ?_ | refine b_asg ?_ | refine b_ret ?_ | refine b_retN ?_ | refine b_expr ?_ | refine b_pass ?_ | refine b_ifs ?_ | refine b_for ?_ | refine b_asgO ?_ | refine b_asgR ?_ | refine bw_add ?_ | refine bw_sub ?_ | refine cw_lt ?_ | refine cw_le ?_ | refine cw_gt ?_ | refine cw_ge ?_ | refine cw_eqI ?_ | refine cw_neI ?_ | refine bl_w ?_ | refine if_t ?_ | refine if_f ?_ | refine w_comp ?_ | refine b_nil ?_ | refine b_par ?_ | refine b_par2 ?_ | refine b_appO rfl ?_ | refine b_extO rfl ?_ | refine fl_rt ?_ | refine fl_nx ?_ | refine And.intro (by assumption) ?_ | refine And.intro rfl ?_ | refine ⟨_, rfl, ?_⟩ | refine ⟨_, _, rfl, rfl, ?_⟩ | refine ⟨_, rfl, rfl, ?_⟩ | refine ⟨_, _, _, rfl, rfl, rfl, ?_⟩ | refine ⟨_, _, _, rfl, rfl, atD0, ?_⟩ | refine ⟨_, _, _, rfl, rfl, atD1, ?_⟩ | refine ⟨_, _, rfl, rfl, rfl, ?_⟩ | refine for_cons rfl ?_ | refine for_nil ?_ | dsimp only))
      simp [numOf, tl, h2]
  · have h1' : decide ((w.length : Int) = 1) = false := decide_eq_false (by omega)
    rw [h1']
    (repeat' (first | refine w_v rfl ?_ | refine w_int ?_ | refine w_bl ?_ | refine w_non ?_ | refine w_str ?_ | refine w_cons ?_ | refine w_nil ?_ | refine w_bin ?_ | refine w_cmp ?_ | refine w_call ?_ | refine w_bi ?_ | refine w_isi ?_ | refine w_ix ?_ | refine w_and ?_ | refine w_or ?_ | refine w_not ?_ | refine w_chn ?_ | refine w_tup ?_ | refine w_lst ?_ | refine w_ite ?_ | refine w_neg ?_ | refine w_sl ?_ | refine sl_t ?_ | refine sl_n ?_ | refine sl_b ?_ | refine sl_l ?_ | refine w_rev ?_ | refine rv_t ?_ | refine rv_n ?_ | refine rv_l ?_ | refine rv_b ?_ | refine w_onone ?_ | refine w_osome ?_ | refine b_asg ?_ | refine b_ret ?_ | refine b_retN ?_ | refine b_expr ?_ | refine b_pass ?_ | refine b_ifs ?_ | refine b_for ?_ | refine b_asgO ?_ | refine b_asgR ?_ | refine bw_add ?_ | refine bw_sub ?_ | refine cw_lt ?_ | refine cw_le ?_ | refine cw_gt ?_ | refine cw_ge ?_ | refine cw_eqI ?_ | refine cw_neI ?_ | refine bl_w ?_ | refine if_t ?_ | refine if_f ?_ | refine w_comp ?_ | refine b_nil ?_ | refine b_par ?_ | refine b_par2 ?_ | refine b_appO rfl ?_ | refine b_extO rfl ?_ | refine fl_rt ?_ | refine fl_nx ?_ | refine And.intro (by assumption) ?_ | refine And.intro rfl ?_ | refine ⟨_, rfl, ?_⟩ | refine ⟨_, _, rfl, rfl, ?_⟩ | refine ⟨_, rfl, rfl, ?_⟩ | refine ⟨_, _, _, rfl, rfl, rfl, ?_⟩ | refine ⟨_, _, _, rfl, rfl, atD0, ?_⟩ | refine ⟨_, _, _, rfl, rfl, atD1, ?_⟩ | refine ⟨_, _, rfl, rfl, rfl, ?_⟩ | refine for_cons rfl ?_ | refine for_nil ?_ | dsimp only))
    refine ⟨?_, rfl⟩
    congr 1
    unfold numOf
    split
    · rename_i c e
      rw [len_tl, e] at h1
      simp at h1
    · rfl
def sideD : D → D
  | .str s => .tup ((Txt.split s " ").map numOf)
  | _ => .non
theorem exchange_of_eq {p : Pg} (L : PTx p) {n : Nat} {x : Str} {h : MH} (hw : x.length ≤ 100000) : p.c (n + 2) 147 [.v (.str x)] h = .ok (.v (exOf x)) h := by
  refine O.eq_of (Pg.call_wp L.h147 rfl ?_)
  unfold f_exchange_of b_exchange_of
  refine b_asg (w_splitV rfl (by decide +kernel) (by omega) ?_)
  (repeat' (first | refine w_v rfl ?_ | refine w_int ?_ | refine w_bl ?_ | refine w_non ?_ | refine w_str ?_ | refine w_cons ?_ | refine w_nil ?_ | refine w_bin ?_ | refine w_cmp ?_ | refine w_call ?_ | refine w_bi ?_ | refine w_isi ?_ | refine w_ix ?_ | refine w_and ?_ | refine w_or ?_ | refine w_not ?_ | refine w_chn ?_ | refine w_tup ?_ | refine w_lst ?_ | refine w_ite ?_ | refine w_neg ?_ | refine w_sl ?_ | refine sl_t ?_ | refine sl_n ?_ | refine sl_b ?_ | refine sl_l ?_ | refine w_rev ?_ | refine rv_t ?_ | refine rv_n ?_ | refine rv_l ?_ | refine rv_b ?_ | refine w_onone ?_ | refine w_osome ?_ | refine b_asg ?_ | refine b_ret ?_ | refine b_retN ?_ | refine b_expr ?_ | refine b_pass ?_ | refine b_ifs ?_ | refine b_for ?_ | refine b_asgO ?_ | refine b_asgR ?_ | refine bw_add ?_ | refine bw_sub ?_ | refine cw_lt ?_ | refine cw_le ?_ | refine cw_gt ?_ | refine cw_ge ?_ | refine cw_eqI ?_ | refine cw_neI ?_ | refine bl_w ?_ | refine if_t ?_ | refine if_f ?_ | refine w_comp ?_ | refine b_nil ?_ | refine b_par ?_ | refine b_par2 ?_ | refine b_appO rfl ?_ | refine b_extO rfl ?_ | refine fl_rt ?_ | refine fl_nx ?_ | refine And.intro (by assumption) ?_ | refine And.intro rfl ?_ | refine ⟨_, rfl, ?_⟩ | refine ⟨_, _, rfl, rfl, ?_⟩ | refine ⟨_, rfl, rfl, ?_⟩ | refine ⟨_, _, _, rfl, rfl, rfl, ?_⟩ | refine ⟨_, _, _, rfl, rfl, atD0, ?_⟩ | refine ⟨_, _, _, rfl, rfl, atD1, ?_⟩ | refine ⟨_, _, rfl, rfl, rfl, ?_⟩ | refine for_cons rfl ?_ | refine for_nil ?_ | dsimp only))
  have hl := PyProof.Rows.split_le x " > "
  refine c_pure sideD (fun d hd => ?_) (by simp; omega) ?_
  · simp only [List.mem_map] at hd
    obtain ⟨s, hs, rfl⟩ := hd
    have ls := split_part (by rw [tl_gt]; simp) plain_gt hs
    refine ⟨_, rfl, ?_⟩
    refine w_bi (w_cons (w_comp (w_cons (w_splitV rfl (by decide +kernel) (by omega) (w_nil ?_)))))
    (repeat' (first | refine w_v rfl ?_ | refine w_int ?_ | refine w_bl ?_ | refine w_non ?_ | refine w_str ?_ | refine w_cons ?_ | refine w_nil ?_ | refine w_bin ?_ | refine w_cmp ?_ | refine w_call ?_ | refine w_bi ?_ | refine w_isi ?_ | refine w_ix ?_ | refine w_and ?_ | refine w_or ?_ | refine w_not ?_ | refine w_chn ?_ | refine w_tup ?_ | refine w_lst ?_ | refine w_ite ?_ | refine w_neg ?_ | refine w_sl ?_ | refine sl_t ?_ | refine sl_n ?_ | refine sl_b ?_ | refine sl_l ?_ | refine w_rev ?_ | refine rv_t ?_ | refine rv_n ?_ | refine rv_l ?_ | refine rv_b ?_ | refine w_onone ?_ | refine w_osome ?_ | refine b_asg ?_ | refine b_ret ?_ | refine b_retN ?_ | refine b_expr ?_ | refine b_pass ?_ | refine b_ifs ?_ | refine b_for ?_ | refine b_asgO ?_ | refine b_asgR ?_ | refine bw_add ?_ | refine bw_sub ?_ | refine cw_lt ?_ | refine cw_le ?_ | refine cw_gt ?_ | refine cw_ge ?_ | refine cw_eqI ?_ | refine cw_neI ?_ | refine bl_w ?_ | refine if_t ?_ | refine if_f ?_ | refine w_comp ?_ | refine b_nil ?_ | refine b_par ?_ | refine b_par2 ?_ | refine b_appO rfl ?_ | refine b_extO rfl ?_ | refine fl_rt ?_ | refine fl_nx ?_ | refine And.intro (by assumption) ?_ | refine And.intro rfl ?_ | refine ⟨_, rfl, ?_⟩ | refine ⟨_, _, rfl, rfl, ?_⟩ | refine ⟨_, rfl, rfl, ?_⟩ | refine ⟨_, _, _, rfl, rfl, rfl, ?_⟩ | refine ⟨_, _, _, rfl, rfl, atD0, ?_⟩ | refine ⟨_, _, _, rfl, rfl, atD1, ?_⟩ | refine ⟨_, _, rfl, rfl, rfl, ?_⟩ | refine for_cons rfl ?_ | refine for_nil ?_ | dsimp only))
    have hl2 := PyProof.Rows.split_le s " "
    refine c_pure (fun d => match d with | .str w => numOf w | _ => .non) (fun d hd => ?_) (by simp; omega) ?_
    · simp only [List.mem_map] at hd
      obtain ⟨w, hw', rfl⟩ := hd
      have lw := split_part (by rw [tl_sp]; simp) plain_sp hw'
      refine ⟨_, rfl, ?_⟩
      (repeat' (first | refine w_v rfl ?_ | refine w_int ?_ | refine w_bl ?_ | refine w_non ?_ | refine w_str ?_ | refine w_cons ?_ | refine w_nil ?_ | refine w_bin ?_ | refine w_cmp ?_ | refine w_call ?_ | refine w_bi ?_ | refine w_isi ?_ | refine w_ix ?_ | refine w_and ?_ | refine w_or ?_ | refine w_not ?_ | refine w_chn ?_ | refine w_tup ?_ | refine w_lst ?_ | refine w_ite ?_ | refine w_neg ?_ | refine w_sl ?_ | refine sl_t ?_ | refine sl_n ?_ | refine sl_b ?_ | refine sl_l ?_ | refine w_rev ?_ | refine rv_t ?_ | refine rv_n ?_ | refine rv_l ?_ | refine rv_b ?_ | refine w_onone ?_ | refine w_osome ?_ | refine b_asg ?_ | refine b_ret ?_ | refine b_retN ?_ | refine b_expr ?_ | refine b_pass ?_ | refine b_ifs ?_ | refine b_for ?_ | refine b_asgO ?_ | refine b_asgR ?_ | refine bw_add ?_ | refine bw_sub ?_ | refine cw_lt ?_ | refine cw_le ?_ | refine cw_gt ?_ | refine cw_ge ?_ | refine cw_eqI ?_ | refine cw_neI ?_ | refine bl_w ?_ | refine if_t ?_ | refine if_f ?_ | refine w_comp ?_ | refine b_nil ?_ | refine b_par ?_ | refine b_par2 ?_ | refine b_appO rfl ?_ | refine b_extO rfl ?_ | refine fl_rt ?_ | refine fl_nx ?_ | refine And.intro (by assumption) ?_ | refine And.intro rfl ?_ | refine ⟨_, rfl, ?_⟩ | refine ⟨_, _, rfl, rfl, ?_⟩ | refine ⟨_, rfl, rfl, ?_⟩ | refine ⟨_, _, _, rfl, rfl, rfl, ?_⟩ | refine ⟨_, _, _, rfl, rfl, atD0, ?_⟩ | refine ⟨_, _, _, rfl, rfl, atD1, ?_⟩ | refine ⟨_, _, rfl, rfl, rfl, ?_⟩ | refine for_cons rfl ?_ | refine for_nil ?_ | dsimp only))
      exact O.wp_eq (number_of_eq L (by omega)) ⟨rfl, rfl⟩
    · (repeat' (first | refine w_v rfl ?_ | refine w_int ?_ | refine w_bl ?_ | refine w_non ?_ | refine w_str ?_ | refine w_cons ?_ | refine w_nil ?_ | refine w_bin ?_ | refine w_cmp ?_ | refine w_call ?_ | refine w_bi ?_ | refine w_isi ?_ | refine w_ix ?_ | refine w_and ?_ | refine w_or ?_ | refine w_not ?_ | refine w_chn ?_ | refine w_tup ?_ | refine w_lst ?_ | refine w_ite ?_ | refine w_neg ?_ | refine w_sl ?_ | refine sl_t ?_ | refine sl_n ?_ | refine sl_b ?_ | refine sl_l ?_ | refine w_rev ?_ | refine rv_t ?_ | refine rv_n ?_ | refine rv_l ?_ | refine rv_b ?_ | refine w_onone ?_ | refine w_osome ?_ | refine b_asg ?_ | refine b_ret ?_ | refine b_retN ?_ | refine b_expr ?_ | refine b_pass ?_ | refine b_ifs ?_ | refine b_for ?_ | refine b_asgO ?_ | refine b_asgR ?_ | refine bw_add ?_ | refine bw_sub ?_ | refine cw_lt ?_ | refine cw_le ?_ | refine cw_gt ?_ | refine cw_ge ?_ | refine cw_eqI ?_ | refine cw_neI ?_ | refine bl_w ?_ | refine if_t ?_ | refine if_f ?_ | refine w_comp ?_ | refine b_nil ?_ | refine b_par ?_ | refine b_par2 ?_ | refine b_appO rfl ?_ | refine b_extO rfl ?_ | refine fl_rt ?_ | refine fl_nx ?_ | refine And.intro (by assumption) ?_ | refine And.intro rfl ?_ | refine ⟨_, rfl, ?_⟩ | refine ⟨_, _, rfl, rfl, ?_⟩ | refine ⟨_, rfl, rfl, ?_⟩ | refine ⟨_, _, _, rfl, rfl, rfl, ?_⟩ | refine ⟨_, _, _, rfl, rfl, atD0, ?_⟩ | refine ⟨_, _, _, rfl, rfl, atD1, ?_⟩ | refine ⟨_, _, rfl, rfl, rfl, ?_⟩ | refine for_cons rfl ?_ | refine for_nil ?_ | dsimp only))
      refine ⟨?_, rfl⟩
      simp [R.toD, sideD, List.map_map, Function.comp]
  · (repeat' (first | refine w_v rfl ?_ | refine w_int ?_ | refine w_bl ?_ | refine w_non ?_ | refine w_str ?_ | refine w_cons ?_ | refine w_nil ?_ | refine w_bin ?_ | refine w_cmp ?_ | refine w_call ?_ | refine w_bi ?_ | refine w_isi ?_ | refine w_ix ?_ | refine w_and ?_ | refine w_or ?_ | refine w_not ?_ | refine w_chn ?_ | refine w_tup ?_ | refine w_lst ?_ | refine w_ite ?_ | refine w_neg ?_ | refine w_sl ?_ | refine sl_t ?_ | refine sl_n ?_ | refine sl_b ?_ | refine sl_l ?_ | refine w_rev ?_ | refine rv_t ?_ | refine rv_n ?_ | refine rv_l ?_ | refine rv_b ?_ | refine w_onone ?_ | refine w_osome ?_ | refine b_asg ?_ | refine b_ret ?_ | refine b_retN ?_ | refine b_expr ?_ | refine b_pass ?_ | refine b_ifs ?_ | refine b_for ?_ | refine b_asgO ?_ | refine b_asgR ?_ | refine bw_add ?_ | refine bw_sub ?_ | refine cw_lt ?_ | refine cw_le ?_ | refine cw_gt ?_ | refine cw_ge ?_ | refine cw_eqI ?_ | refine cw_neI ?_ | refine bl_w ?_ | refine if_t ?_ | refine if_f ?_ | refine w_comp ?_ | refine b_nil ?_ | refine b_par ?_ | refine b_par2 ?_ | refine b_appO rfl ?_ | refine b_extO rfl ?_ | refine fl_rt ?_ | refine fl_nx ?_ | refine And.intro (by assumption) ?_ | refine And.intro rfl ?_ | refine ⟨_, rfl, ?_⟩ | refine ⟨_, _, rfl, rfl, ?_⟩ | refine ⟨_, rfl, rfl, ?_⟩ | refine ⟨_, _, _, rfl, rfl, rfl, ?_⟩ | refine ⟨_, _, _, rfl, rfl, atD0, ?_⟩ | refine ⟨_, _, _, rfl, rfl, atD1, ?_⟩ | refine ⟨_, _, rfl, rfl, rfl, ?_⟩ | refine for_cons rfl ?_ | refine for_nil ?_ | dsimp only))
    refine ⟨?_, rfl⟩
    congr 1
    unfold exOf
    rw [List.map_map]
    rfl
theorem strs_map {α : Type} {f : α → Str} : ∀ {l : List α}, strs? (l.map fun a => D.str (f a)) = some (l.map f)
  | [] => rfl
  | a :: l => by simp [strs?, strs_map (l := l)]
theorem dS_len {i : Int} (h : 0 ≤ i ∧ i ≤ 5) : (dS i).length = 1 := by
  rw [len_tl, tl_dS h]
  rfl
theorem sum_one {l : List Int} (d : Dg l) : ((l.map dS).map (·.length)).sum = l.length := by
  induction l with
  | nil => rfl
  | cons i l ih =>
    have := ih fun x hx => d x (List.mem_cons_of_mem _ hx)
    simp only [List.map_cons, List.sum_cons, List.length_cons, this, dS_len (d i (List.mem_cons_self ..))]
    omega
theorem numbers_text_eq {p : Pg} (L : PTx p) {n : Nat} {ns : List Int} {h : MH} (d : Dg ns) (hl : ns.length ≤ 1000) : p.c (n + 1) 143 [.v (tupI ns)] h = .ok (.v (.str (ntT ns))) h := by
  refine O.eq_of (Pg.call_wp L.h143 rfl ?_)
  unfold f_numbers_text b_numbers_text
  refine b_ret (w_joinS ?_)
  (repeat' (first | refine w_v rfl ?_ | refine w_int ?_ | refine w_bl ?_ | refine w_non ?_ | refine w_str ?_ | refine w_cons ?_ | refine w_nil ?_ | refine w_bin ?_ | refine w_cmp ?_ | refine w_call ?_ | refine w_bi ?_ | refine w_isi ?_ | refine w_ix ?_ | refine w_and ?_ | refine w_or ?_ | refine w_not ?_ | refine w_chn ?_ | refine w_tup ?_ | refine w_lst ?_ | refine w_ite ?_ | refine w_neg ?_ | refine w_sl ?_ | refine sl_t ?_ | refine sl_n ?_ | refine sl_b ?_ | refine sl_l ?_ | refine w_rev ?_ | refine rv_t ?_ | refine rv_n ?_ | refine rv_l ?_ | refine rv_b ?_ | refine w_onone ?_ | refine w_osome ?_ | refine b_asg ?_ | refine b_ret ?_ | refine b_retN ?_ | refine b_expr ?_ | refine b_pass ?_ | refine b_ifs ?_ | refine b_for ?_ | refine b_asgO ?_ | refine b_asgR ?_ | refine bw_add ?_ | refine bw_sub ?_ | refine cw_lt ?_ | refine cw_le ?_ | refine cw_gt ?_ | refine cw_ge ?_ | refine cw_eqI ?_ | refine cw_neI ?_ | refine bl_w ?_ | refine if_t ?_ | refine if_f ?_ | refine w_comp ?_ | refine b_nil ?_ | refine b_par ?_ | refine b_par2 ?_ | refine b_appO rfl ?_ | refine b_extO rfl ?_ | refine fl_rt ?_ | refine fl_nx ?_ | refine And.intro (by assumption) ?_ | refine And.intro rfl ?_ | refine ⟨_, rfl, ?_⟩ | refine ⟨_, _, rfl, rfl, ?_⟩ | refine ⟨_, rfl, rfl, ?_⟩ | refine ⟨_, _, _, rfl, rfl, rfl, ?_⟩ | refine ⟨_, _, _, rfl, rfl, atD0, ?_⟩ | refine ⟨_, _, _, rfl, rfl, atD1, ?_⟩ | refine ⟨_, _, rfl, rfl, rfl, ?_⟩ | refine for_cons rfl ?_ | refine for_nil ?_ | dsimp only))
  refine c_pure (fun d => match d with | .int i => .str (dS i) | _ => .non) (fun d' hd => ?_) (by simp; omega) ?_
  · simp only [List.mem_map] at hd
    obtain ⟨i, hi, rfl⟩ := hd
    refine ⟨_, rfl, ?_⟩
    (repeat' (first | refine w_v rfl ?_ | refine w_int ?_ | refine w_bl ?_ | refine w_non ?_ | refine w_str ?_ | refine w_cons ?_ | refine w_nil ?_ | refine w_bin ?_ | refine w_cmp ?_ | refine w_call ?_ | refine w_bi ?_ | refine w_isi ?_ | refine w_ix ?_ | refine w_and ?_ | refine w_or ?_ | refine w_not ?_ | refine w_chn ?_ | refine w_tup ?_ | refine w_lst ?_ | refine w_ite ?_ | refine w_neg ?_ | refine w_sl ?_ | refine sl_t ?_ | refine sl_n ?_ | refine sl_b ?_ | refine sl_l ?_ | refine w_rev ?_ | refine rv_t ?_ | refine rv_n ?_ | refine rv_l ?_ | refine rv_b ?_ | refine w_onone ?_ | refine w_osome ?_ | refine b_asg ?_ | refine b_ret ?_ | refine b_retN ?_ | refine b_expr ?_ | refine b_pass ?_ | refine b_ifs ?_ | refine b_for ?_ | refine b_asgO ?_ | refine b_asgR ?_ | refine bw_add ?_ | refine bw_sub ?_ | refine cw_lt ?_ | refine cw_le ?_ | refine cw_gt ?_ | refine cw_ge ?_ | refine cw_eqI ?_ | refine cw_neI ?_ | refine bl_w ?_ | refine if_t ?_ | refine if_f ?_ | refine w_comp ?_ | refine b_nil ?_ | refine b_par ?_ | refine b_par2 ?_ | refine b_appO rfl ?_ | refine b_extO rfl ?_ | refine fl_rt ?_ | refine fl_nx ?_ | refine And.intro (by assumption) ?_ | refine And.intro rfl ?_ | refine ⟨_, rfl, ?_⟩ | refine ⟨_, _, rfl, rfl, ?_⟩ | refine ⟨_, rfl, rfl, ?_⟩ | refine ⟨_, _, _, rfl, rfl, rfl, ?_⟩ | refine ⟨_, _, _, rfl, rfl, atD0, ?_⟩ | refine ⟨_, _, _, rfl, rfl, atD1, ?_⟩ | refine ⟨_, _, rfl, rfl, rfl, ?_⟩ | refine for_cons rfl ?_ | refine for_nil ?_ | dsimp only))
    refine bi_strI (d i hi) ⟨rfl, rfl⟩
  · refine ⟨_, _, ns.map dS, rfl, rfl, ?_, ?_, ?_⟩
    · rw [List.map_map]
      exact strs_map
    · rw [sum_one d, List.length_map]
      have : (" " : Str).length = 1 := by decide +kernel
      rw [this]
      omega
    · exact ⟨_, rfl, rfl, rfl, rfl⟩
theorem ntT_len {l : List Int} (d : Dg l) : (ntT l).length = 2 * l.length - 1 := by rw [len_tl, tl_ntT d, ntL_len]
theorem rowT_len {t : Int} {e : Ex} (h : 2 ≤ t) (v : EV t e) : (rowT e).length = 4 * t.toNat + 1 := by rw [len_tl, tl_rowT v.b1 v.b2, rowL_len h v]
theorem boT_len {t : Int} {es : List Ex} (v : BV t es) : (boT t es).length = 1 + es.length * (4 * t.toNat + 3) := by rw [len_tl, tl_boT v, boL_len v]
theorem boT_le {t : Int} {es : List Ex} (v : BV t es) : (boT t es).length ≤ 115 := by
  rw [boT_len v]
  have a := v.t4
  have b := v.len
  have : es.length * (4 * t.toNat + 3) ≤ 6 * 19 := Nat.mul_le_mul b (by omega)
  omega
def rowsD (es : List Ex) : List D := es.map fun e => .str (rowT e)
theorem board_text_eq {p : Pg} (L : PTx p) {n : Nat} {t : Int} {es : List Ex} {h : MH} (v : BV t es) : p.c (n + 2) 144 [.v (bD t es)] h = .ok (.v (.str (boT t es))) h := by
  refine O.eq_of (Pg.call_wp L.h144 rfl ?_)
  unfold f_board_text b_board_text
  have t2 := v.t2
  have t4 := v.t4
  have tl := v.len
  unfold bD
  (repeat' (first | refine w_v rfl ?_ | refine w_int ?_ | refine w_bl ?_ | refine w_non ?_ | refine w_str ?_ | refine w_cons ?_ | refine w_nil ?_ | refine w_bin ?_ | refine w_cmp ?_ | refine w_call ?_ | refine w_bi ?_ | refine w_isi ?_ | refine w_ix ?_ | refine w_and ?_ | refine w_or ?_ | refine w_not ?_ | refine w_chn ?_ | refine w_tup ?_ | refine w_lst ?_ | refine w_ite ?_ | refine w_neg ?_ | refine w_sl ?_ | refine sl_t ?_ | refine sl_n ?_ | refine sl_b ?_ | refine sl_l ?_ | refine w_rev ?_ | refine rv_t ?_ | refine rv_n ?_ | refine rv_l ?_ | refine rv_b ?_ | refine w_onone ?_ | refine w_osome ?_ | refine b_asg ?_ | refine b_ret ?_ | refine b_retN ?_ | refine b_expr ?_ | refine b_pass ?_ | refine b_ifs ?_ | refine b_for ?_ | refine b_asgO ?_ | refine b_asgR ?_ | refine bw_add ?_ | refine bw_sub ?_ | refine cw_lt ?_ | refine cw_le ?_ | refine cw_gt ?_ | refine cw_ge ?_ | refine cw_eqI ?_ | refine cw_neI ?_ | refine bl_w ?_ | refine if_t ?_ | refine if_f ?_ | refine w_comp ?_ | refine b_nil ?_ | refine b_par ?_ | refine b_par2 ?_ | refine b_appO rfl ?_ | refine b_extO rfl ?_ | refine fl_rt ?_ | refine fl_nx ?_ | refine And.intro (by assumption) ?_ | refine And.intro rfl ?_ | refine ⟨_, rfl, ?_⟩ | refine ⟨_, _, rfl, rfl, ?_⟩ | refine ⟨_, rfl, rfl, ?_⟩ | refine ⟨_, _, _, rfl, rfl, rfl, ?_⟩ | refine ⟨_, _, _, rfl, rfl, atD0, ?_⟩ | refine ⟨_, _, _, rfl, rfl, atD1, ?_⟩ | refine ⟨_, _, rfl, rfl, rfl, ?_⟩ | refine for_cons rfl ?_ | refine for_nil ?_ | dsimp only))
  refine c_pure (fun d => match d with | .tup [.tup a, .tup b] => .str (rowT ((ints? a).getD [], (ints? b).getD [])) | _ => .non) (fun d hd => ?_) (by simp; omega) ?_
  · simp only [List.mem_map] at hd
    obtain ⟨e, hm, rfl⟩ := hd
    have ve := v.ex e hm
    have l1 := ve.l1
    have l2 := ve.l2
    have n1 := ntT_len ve.b1
    have n2 := ntT_len ve.b2
    have n3 : (" > " : Str).length = 3 := by decide +kernel
    refine ⟨_, rfl, ?_⟩
    refine w_bin (w_bin (w_call (w_cons (w_v rfl (w_nil (O.wp_eq (numbers_text_eq L ve.b1 (by omega)) (w_str (bw_sadd (by omega) (w_call (w_cons (w_v rfl (w_nil (O.wp_eq (numbers_text_eq L ve.b2 (by omega)) (bw_sadd ?_ ⟨?_, rfl⟩))))))))))))))
    · show (ntT e.1 ++ (" > " : Str)).length + _ ≤ _
      rw [len_tl (ntT e.1 ++ (" > " : Str)), tl_append, List.length_append, ← len_tl, ← len_tl]
      omega
    · simp [R.toD, exD, tupI, ints_map, rowT]
  · have er : ((es.map exD).map fun d => match d with | .tup [.tup a, .tup b] => D.str (rowT ((ints? a).getD [], (ints? b).getD [])) | _ => .non) = rowsD es := by
      rw [List.map_map]
      refine List.map_congr_left fun e _ => ?_
      simp [exD, tupI, ints_map]
    rw [er]
    refine ⟨_, _, rfl, rfl, ?_⟩
    refine b_ret (w_joinS ?_)
    refine w_bin (w_lst (w_cons (w_bi (w_cons (w_ix (w_v rfl (w_int ⟨_, _, _, rfl, rfl, atD0, w_nil (bi_strI (by omega) (w_nil ⟨_, rfl, rfl, w_v rfl ?_⟩))⟩)))))))
    refine ⟨.nl (.str (dS t) :: rowsD es), ?_, ?_⟩
    · have : small ([D.str (dS t)].length + (rowsD es).length) = true := decide_eq_true (by simp [rowsD]; omega)
      simp only [binR, R.rd, this, if_true]
      rfl
    · refine ⟨_, _, dS t :: es.map rowT, rfl, rfl, ?_, ?_, ?_⟩
      · simp only [strs?, rowsD]
        rw [strs_map]
        rfl
      · have : (("; " : Str)).length = 2 := by decide +kernel
        rw [this]
        have : ∀ fs : List Ex, (∀ e ∈ fs, EV t e) → ((fs.map rowT).map (·.length)).sum ≤ fs.length * 100 := fun fs hf => by
          induction fs with
          | nil => simp
          | cons e fs ih =>
            have a := ih fun x hx => hf x (List.mem_cons_of_mem _ hx)
            have b := rowT_len t2 (hf e (List.mem_cons_self ..))
            simp only [List.map_cons, List.sum_cons, List.length_cons]
            omega
        have a := this es v.ex
        simp only [List.map_cons, List.sum_cons, List.length_cons, List.length_map, dS_len (i := t) (by omega)]
        omega
      · exact ⟨_, rfl, rfl, rfl, rfl⟩
theorem format_board_eq {p : Pg} (L : PTx p) {n : Nat} {t : Int} {es : List Ex} {h : MH} (v : BV t es) : p.c (n + 6) 145 [.v (bD t es)] h = .ok (.v (.str (boT t es))) h := by
  refine O.eq_of (Pg.call_wp L.h145 rfl ?_)
  unfold f_format_board b_format_board
  (repeat' (first | refine w_v rfl ?_ | refine w_int ?_ | refine w_bl ?_ | refine w_non ?_ | refine w_str ?_ | refine w_cons ?_ | refine w_nil ?_ | refine w_bin ?_ | refine w_cmp ?_ | refine w_call ?_ | refine w_bi ?_ | refine w_isi ?_ | refine w_ix ?_ | refine w_and ?_ | refine w_or ?_ | refine w_not ?_ | refine w_chn ?_ | refine w_tup ?_ | refine w_lst ?_ | refine w_ite ?_ | refine w_neg ?_ | refine w_sl ?_ | refine sl_t ?_ | refine sl_n ?_ | refine sl_b ?_ | refine sl_l ?_ | refine w_rev ?_ | refine rv_t ?_ | refine rv_n ?_ | refine rv_l ?_ | refine rv_b ?_ | refine w_onone ?_ | refine w_osome ?_ | refine b_asg ?_ | refine b_ret ?_ | refine b_retN ?_ | refine b_expr ?_ | refine b_pass ?_ | refine b_ifs ?_ | refine b_for ?_ | refine b_asgO ?_ | refine b_asgR ?_ | refine bw_add ?_ | refine bw_sub ?_ | refine cw_lt ?_ | refine cw_le ?_ | refine cw_gt ?_ | refine cw_ge ?_ | refine cw_eqI ?_ | refine cw_neI ?_ | refine bl_w ?_ | refine if_t ?_ | refine if_f ?_ | refine w_comp ?_ | refine b_nil ?_ | refine b_par ?_ | refine b_par2 ?_ | refine b_appO rfl ?_ | refine b_extO rfl ?_ | refine fl_rt ?_ | refine fl_nx ?_ | refine And.intro (by assumption) ?_ | refine And.intro rfl ?_ | refine ⟨_, rfl, ?_⟩ | refine ⟨_, _, rfl, rfl, ?_⟩ | refine ⟨_, rfl, rfl, ?_⟩ | refine ⟨_, _, _, rfl, rfl, rfl, ?_⟩ | refine ⟨_, _, _, rfl, rfl, atD0, ?_⟩ | refine ⟨_, _, _, rfl, rfl, atD1, ?_⟩ | refine ⟨_, _, rfl, rfl, rfl, ?_⟩ | refine for_cons rfl ?_ | refine for_nil ?_ | dsimp only))
  refine O.wp_eq (need_board_eq L.h1 L.h2 L.h3 L.h4 L.h13 (ok_bD (n := 0)) (stands_bD v)) ?_
  (repeat' (first | refine w_v rfl ?_ | refine w_int ?_ | refine w_bl ?_ | refine w_non ?_ | refine w_str ?_ | refine w_cons ?_ | refine w_nil ?_ | refine w_bin ?_ | refine w_cmp ?_ | refine w_call ?_ | refine w_bi ?_ | refine w_isi ?_ | refine w_ix ?_ | refine w_and ?_ | refine w_or ?_ | refine w_not ?_ | refine w_chn ?_ | refine w_tup ?_ | refine w_lst ?_ | refine w_ite ?_ | refine w_neg ?_ | refine w_sl ?_ | refine sl_t ?_ | refine sl_n ?_ | refine sl_b ?_ | refine sl_l ?_ | refine w_rev ?_ | refine rv_t ?_ | refine rv_n ?_ | refine rv_l ?_ | refine rv_b ?_ | refine w_onone ?_ | refine w_osome ?_ | refine b_asg ?_ | refine b_ret ?_ | refine b_retN ?_ | refine b_expr ?_ | refine b_pass ?_ | refine b_ifs ?_ | refine b_for ?_ | refine b_asgO ?_ | refine b_asgR ?_ | refine bw_add ?_ | refine bw_sub ?_ | refine cw_lt ?_ | refine cw_le ?_ | refine cw_gt ?_ | refine cw_ge ?_ | refine cw_eqI ?_ | refine cw_neI ?_ | refine bl_w ?_ | refine if_t ?_ | refine if_f ?_ | refine w_comp ?_ | refine b_nil ?_ | refine b_par ?_ | refine b_par2 ?_ | refine b_appO rfl ?_ | refine b_extO rfl ?_ | refine fl_rt ?_ | refine fl_nx ?_ | refine And.intro (by assumption) ?_ | refine And.intro rfl ?_ | refine ⟨_, rfl, ?_⟩ | refine ⟨_, _, rfl, rfl, ?_⟩ | refine ⟨_, rfl, rfl, ?_⟩ | refine ⟨_, _, _, rfl, rfl, rfl, ?_⟩ | refine ⟨_, _, _, rfl, rfl, atD0, ?_⟩ | refine ⟨_, _, _, rfl, rfl, atD1, ?_⟩ | refine ⟨_, _, rfl, rfl, rfl, ?_⟩ | refine for_cons rfl ?_ | refine for_nil ?_ | dsimp only))
  refine O.wp_eq (board_text_eq L v) ?_
  (repeat' (first | refine w_v rfl ?_ | refine w_int ?_ | refine w_bl ?_ | refine w_non ?_ | refine w_str ?_ | refine w_cons ?_ | refine w_nil ?_ | refine w_bin ?_ | refine w_cmp ?_ | refine w_call ?_ | refine w_bi ?_ | refine w_isi ?_ | refine w_ix ?_ | refine w_and ?_ | refine w_or ?_ | refine w_not ?_ | refine w_chn ?_ | refine w_tup ?_ | refine w_lst ?_ | refine w_ite ?_ | refine w_neg ?_ | refine w_sl ?_ | refine sl_t ?_ | refine sl_n ?_ | refine sl_b ?_ | refine sl_l ?_ | refine w_rev ?_ | refine rv_t ?_ | refine rv_n ?_ | refine rv_l ?_ | refine rv_b ?_ | refine w_onone ?_ | refine w_osome ?_ | refine b_asg ?_ | refine b_ret ?_ | refine b_retN ?_ | refine b_expr ?_ | refine b_pass ?_ | refine b_ifs ?_ | refine b_for ?_ | refine b_asgO ?_ | refine b_asgR ?_ | refine bw_add ?_ | refine bw_sub ?_ | refine cw_lt ?_ | refine cw_le ?_ | refine cw_gt ?_ | refine cw_ge ?_ | refine cw_eqI ?_ | refine cw_neI ?_ | refine bl_w ?_ | refine if_t ?_ | refine if_f ?_ | refine w_comp ?_ | refine b_nil ?_ | refine b_par ?_ | refine b_par2 ?_ | refine b_appO rfl ?_ | refine b_extO rfl ?_ | refine fl_rt ?_ | refine fl_nx ?_ | refine And.intro (by assumption) ?_ | refine And.intro rfl ?_ | refine ⟨_, rfl, ?_⟩ | refine ⟨_, _, rfl, rfl, ?_⟩ | refine ⟨_, rfl, rfl, ?_⟩ | refine ⟨_, _, _, rfl, rfl, rfl, ?_⟩ | refine ⟨_, _, _, rfl, rfl, atD0, ?_⟩ | refine ⟨_, _, _, rfl, rfl, atD1, ?_⟩ | refine ⟨_, _, rfl, rfl, rfl, ?_⟩ | refine for_cons rfl ?_ | refine for_nil ?_ | dsimp only))
theorem strOk_boT {t : Int} {es : List Ex} (v : BV t es) : strOkB (boT t es) = true := by
  have h4 := v.t4
  have h2 := v.t2
  have : ∀ c ∈ tl (boT t es), c < 0x110000 := fun c hc => by
    rw [tl_boT v, boL_eq] at hc
    rcases List.mem_cons.mp hc with q | q
    · omega
    · obtain ⟨e, he, q⟩ := List.mem_flatMap.mp q
      have ve := v.ex e he
      rcases List.mem_cons.mp q with q | q
      · omega
      · rcases List.mem_cons.mp q with q | q
        · omega
        · unfold rowL at q
          rcases List.mem_append.mp q with q | q
          · have := ntL_mem ve.b1 c q
            omega
          · rcases List.mem_append.mp q with q | q
            · simp at q
              omega
            · have := ntL_mem ve.b2 c q
              omega
  unfold strOkB
  rw [Array.all_eq_true']
  intro c hc
  exact decide_eq_true (this c (by simpa [tl] using hc))
/-- what parse_board meets before it decides -/
theorem parse_to {p : Pg} (L : PTx p) {n : Nat} {x : Str} {h : MH} {X : Nat → MH → Prop} {Q : Fl → MH → Prop} (hx : x.length ≤ 10000)
    (q : ∀ x1 x3, xB (p.G (n + 5)) X [.ifs (.or (.not (.call 4 [(.v 2)])) (.cmp .ne (.call 144 [(.v 2)]) (.v 0))) [.raise 20] [], .ret (.v 2)] [some (.v (.str x)), x1, some (.v (foundD x)), x3] h Q) :
    xB (p.G (n + 5)) X b_parse_board [some (.v (.str x)), none, none, none] h Q := by
  unfold b_parse_board
  refine b_ifs (w_not (w_isi (w_v rfl ⟨rfl, bl_w (bl_w (if_f (b_nil (fl_nx ?_))))⟩)))
  refine b_asg (w_splitV rfl (by decide +kernel) (by omega) ?_)
  (repeat' (first | refine w_v rfl ?_ | refine w_int ?_ | refine w_bl ?_ | refine w_non ?_ | refine w_str ?_ | refine w_cons ?_ | refine w_nil ?_ | refine w_bin ?_ | refine w_cmp ?_ | refine w_call ?_ | refine w_bi ?_ | refine w_isi ?_ | refine w_ix ?_ | refine w_and ?_ | refine w_or ?_ | refine w_not ?_ | refine w_chn ?_ | refine w_tup ?_ | refine w_lst ?_ | refine w_ite ?_ | refine w_neg ?_ | refine w_sl ?_ | refine sl_t ?_ | refine sl_n ?_ | refine sl_b ?_ | refine sl_l ?_ | refine w_rev ?_ | refine rv_t ?_ | refine rv_n ?_ | refine rv_l ?_ | refine rv_b ?_ | refine w_onone ?_ | refine w_osome ?_ | refine b_asg ?_ | refine b_ret ?_ | refine b_retN ?_ | refine b_expr ?_ | refine b_pass ?_ | refine b_ifs ?_ | refine b_for ?_ | refine b_asgO ?_ | refine b_asgR ?_ | refine bw_add ?_ | refine bw_sub ?_ | refine cw_lt ?_ | refine cw_le ?_ | refine cw_gt ?_ | refine cw_ge ?_ | refine cw_eqI ?_ | refine cw_neI ?_ | refine bl_w ?_ | refine if_t ?_ | refine if_f ?_ | refine w_comp ?_ | refine b_nil ?_ | refine b_par ?_ | refine b_par2 ?_ | refine b_appO rfl ?_ | refine b_extO rfl ?_ | refine fl_rt ?_ | refine fl_nx ?_ | refine And.intro (by assumption) ?_ | refine And.intro rfl ?_ | refine ⟨_, rfl, ?_⟩ | refine ⟨_, _, rfl, rfl, ?_⟩ | refine ⟨_, rfl, rfl, ?_⟩ | refine ⟨_, _, _, rfl, rfl, rfl, ?_⟩ | refine ⟨_, _, _, rfl, rfl, atD0, ?_⟩ | refine ⟨_, _, _, rfl, rfl, atD1, ?_⟩ | refine ⟨_, _, rfl, rfl, rfl, ?_⟩ | refine for_cons rfl ?_ | refine for_nil ?_ | dsimp only))
  have hl := PyProof.Rows.split_le x "; "
  have hp : ∀ s ∈ Txt.split x "; ", s.length ≤ x.length := fun s hs => split_part (by rw [tl_sc]; simp) plain_sc hs
  have hf : foundD x = .tup [numOf ((Txt.split x "; ").headD Str.empty), .tup ((Txt.split x "; ").tail.map exOf)] := rfl
  rw [hf] at q
  have hn := split_ne (x := x) (y := "; ") (by rw [tl_sc]; simp) plain_sc
  generalize Txt.split x "; " = ps at *
  cases ps with
  | nil => exact absurd rfl hn
  | cons w ws =>
    refine ⟨_, _, .str w, rfl, rfl, atD0, ?_⟩
    refine w_nil (O.wp_eq (number_of_eq L (Nat.le_trans (hp w (List.mem_cons_self ..)) (by omega))) ?_)
    (repeat' (first | refine w_v rfl ?_ | refine w_int ?_ | refine w_bl ?_ | refine w_non ?_ | refine w_str ?_ | refine w_cons ?_ | refine w_nil ?_ | refine w_bin ?_ | refine w_cmp ?_ | refine w_call ?_ | refine w_bi ?_ | refine w_isi ?_ | refine w_ix ?_ | refine w_and ?_ | refine w_or ?_ | refine w_not ?_ | refine w_chn ?_ | refine w_tup ?_ | refine w_lst ?_ | refine w_ite ?_ | refine w_neg ?_ | refine w_sl ?_ | refine sl_t ?_ | refine sl_n ?_ | refine sl_b ?_ | refine sl_l ?_ | refine w_rev ?_ | refine rv_t ?_ | refine rv_n ?_ | refine rv_l ?_ | refine rv_b ?_ | refine w_onone ?_ | refine w_osome ?_ | refine b_asg ?_ | refine b_ret ?_ | refine b_retN ?_ | refine b_expr ?_ | refine b_pass ?_ | refine b_ifs ?_ | refine b_for ?_ | refine b_asgO ?_ | refine b_asgR ?_ | refine bw_add ?_ | refine bw_sub ?_ | refine cw_lt ?_ | refine cw_le ?_ | refine cw_gt ?_ | refine cw_ge ?_ | refine cw_eqI ?_ | refine cw_neI ?_ | refine bl_w ?_ | refine if_t ?_ | refine if_f ?_ | refine w_comp ?_ | refine b_nil ?_ | refine b_par ?_ | refine b_par2 ?_ | refine b_appO rfl ?_ | refine b_extO rfl ?_ | refine fl_rt ?_ | refine fl_nx ?_ | refine And.intro (by assumption) ?_ | refine And.intro rfl ?_ | refine ⟨_, rfl, ?_⟩ | refine ⟨_, _, rfl, rfl, ?_⟩ | refine ⟨_, rfl, rfl, ?_⟩ | refine ⟨_, _, _, rfl, rfl, rfl, ?_⟩ | refine ⟨_, _, _, rfl, rfl, atD0, ?_⟩ | refine ⟨_, _, _, rfl, rfl, atD1, ?_⟩ | refine ⟨_, _, rfl, rfl, rfl, ?_⟩ | refine for_cons rfl ?_ | refine for_nil ?_ | dsimp only))
    rw [cut_tail]
    refine c_pure (fun d => match d with | .str s => exOf s | _ => .non) (fun d hd => ?_) (by simp at hl ⊢; omega) ?_
    · simp only [List.map_cons, List.tail_cons, List.mem_map] at hd
      obtain ⟨s, hs, rfl⟩ := hd
      have := hp s (List.mem_cons_of_mem _ hs)
      refine ⟨_, rfl, ?_⟩
      (repeat' (first | refine w_v rfl ?_ | refine w_int ?_ | refine w_bl ?_ | refine w_non ?_ | refine w_str ?_ | refine w_cons ?_ | refine w_nil ?_ | refine w_bin ?_ | refine w_cmp ?_ | refine w_call ?_ | refine w_bi ?_ | refine w_isi ?_ | refine w_ix ?_ | refine w_and ?_ | refine w_or ?_ | refine w_not ?_ | refine w_chn ?_ | refine w_tup ?_ | refine w_lst ?_ | refine w_ite ?_ | refine w_neg ?_ | refine w_sl ?_ | refine sl_t ?_ | refine sl_n ?_ | refine sl_b ?_ | refine sl_l ?_ | refine w_rev ?_ | refine rv_t ?_ | refine rv_n ?_ | refine rv_l ?_ | refine rv_b ?_ | refine w_onone ?_ | refine w_osome ?_ | refine b_asg ?_ | refine b_ret ?_ | refine b_retN ?_ | refine b_expr ?_ | refine b_pass ?_ | refine b_ifs ?_ | refine b_for ?_ | refine b_asgO ?_ | refine b_asgR ?_ | refine bw_add ?_ | refine bw_sub ?_ | refine cw_lt ?_ | refine cw_le ?_ | refine cw_gt ?_ | refine cw_ge ?_ | refine cw_eqI ?_ | refine cw_neI ?_ | refine bl_w ?_ | refine if_t ?_ | refine if_f ?_ | refine w_comp ?_ | refine b_nil ?_ | refine b_par ?_ | refine b_par2 ?_ | refine b_appO rfl ?_ | refine b_extO rfl ?_ | refine fl_rt ?_ | refine fl_nx ?_ | refine And.intro (by assumption) ?_ | refine And.intro rfl ?_ | refine ⟨_, rfl, ?_⟩ | refine ⟨_, _, rfl, rfl, ?_⟩ | refine ⟨_, rfl, rfl, ?_⟩ | refine ⟨_, _, _, rfl, rfl, rfl, ?_⟩ | refine ⟨_, _, _, rfl, rfl, atD0, ?_⟩ | refine ⟨_, _, _, rfl, rfl, atD1, ?_⟩ | refine ⟨_, _, rfl, rfl, rfl, ?_⟩ | refine for_cons rfl ?_ | refine for_nil ?_ | dsimp only))
      exact O.wp_eq (exchange_of_eq L (by omega)) ⟨rfl, rfl⟩
    · (repeat' (first | refine w_v rfl ?_ | refine w_int ?_ | refine w_bl ?_ | refine w_non ?_ | refine w_str ?_ | refine w_cons ?_ | refine w_nil ?_ | refine w_bin ?_ | refine w_cmp ?_ | refine w_call ?_ | refine w_bi ?_ | refine w_isi ?_ | refine w_ix ?_ | refine w_and ?_ | refine w_or ?_ | refine w_not ?_ | refine w_chn ?_ | refine w_tup ?_ | refine w_lst ?_ | refine w_ite ?_ | refine w_neg ?_ | refine w_sl ?_ | refine sl_t ?_ | refine sl_n ?_ | refine sl_b ?_ | refine sl_l ?_ | refine w_rev ?_ | refine rv_t ?_ | refine rv_n ?_ | refine rv_l ?_ | refine rv_b ?_ | refine w_onone ?_ | refine w_osome ?_ | refine bw_add ?_ | refine bw_sub ?_ | refine cw_lt ?_ | refine cw_le ?_ | refine cw_gt ?_ | refine cw_ge ?_ | refine cw_eqI ?_ | refine cw_neI ?_ | refine bl_w ?_ | refine if_t ?_ | refine if_f ?_ | refine w_comp ?_ | refine fl_rt ?_ | refine fl_nx ?_ | refine And.intro (by assumption) ?_ | refine And.intro rfl ?_ | refine ⟨_, rfl, ?_⟩ | refine ⟨_, _, rfl, rfl, ?_⟩ | refine ⟨_, rfl, rfl, ?_⟩ | refine ⟨_, _, _, rfl, rfl, rfl, ?_⟩ | refine ⟨_, _, _, rfl, rfl, atD0, ?_⟩ | refine ⟨_, _, _, rfl, rfl, atD1, ?_⟩ | refine ⟨_, _, rfl, rfl, rfl, ?_⟩ | dsimp only))
      refine b_ss ?_ (q (some (.v (.lst ((w :: ws).map .str)))) none)
      simp [List.map_map, Function.comp]
theorem parse_ok {p : Pg} (L : PTx p) {n : Nat} {t : Int} {es : List Ex} {h : MH} (v : BV t es) : p.c (n + 6) 148 [.v (.str (boT t es))] h = .ok (.v (bD t es)) h := by
  refine O.eq_of (Pg.call_wp L.h148 rfl ?_)
  refine parse_to L (Nat.le_trans (boT_le v) (by decide)) fun x1 x3 => ?_
  rw [found_bo v]
  refine b_ifs (w_or (w_not (w_call (w_cons (w_v rfl (w_nil (O.wp_eq (stands_eq L.h1 L.h2 L.h3 L.h4 (ok_bD (n := 0))) ?_)))))))
  rw [stands_bD v]
  refine bl_w (bl_w (if_f ?_))
  refine w_cmp (w_call (w_cons (w_v rfl (w_nil (O.wp_eq (board_text_eq L v) (w_v rfl (cw_ne (strOk_boT v) (strOk_boT v) ?_)))))))
  have : D.eqb (R.v (.str (boT t es))).rd (R.v (.str (boT t es))).rd = true := by simp [R.rd, D.eqb]
  rw [this]
  refine bl_w (if_f (b_nil (fl_nx ?_)))
  (repeat' (first | refine w_v rfl ?_ | refine w_int ?_ | refine w_bl ?_ | refine w_non ?_ | refine w_str ?_ | refine w_cons ?_ | refine w_nil ?_ | refine w_bin ?_ | refine w_cmp ?_ | refine w_call ?_ | refine w_bi ?_ | refine w_isi ?_ | refine w_ix ?_ | refine w_and ?_ | refine w_or ?_ | refine w_not ?_ | refine w_chn ?_ | refine w_tup ?_ | refine w_lst ?_ | refine w_ite ?_ | refine w_neg ?_ | refine w_sl ?_ | refine sl_t ?_ | refine sl_n ?_ | refine sl_b ?_ | refine sl_l ?_ | refine w_rev ?_ | refine rv_t ?_ | refine rv_n ?_ | refine rv_l ?_ | refine rv_b ?_ | refine w_onone ?_ | refine w_osome ?_ | refine b_asg ?_ | refine b_ret ?_ | refine b_retN ?_ | refine b_expr ?_ | refine b_pass ?_ | refine b_ifs ?_ | refine b_for ?_ | refine b_asgO ?_ | refine b_asgR ?_ | refine bw_add ?_ | refine bw_sub ?_ | refine cw_lt ?_ | refine cw_le ?_ | refine cw_gt ?_ | refine cw_ge ?_ | refine cw_eqI ?_ | refine cw_neI ?_ | refine bl_w ?_ | refine if_t ?_ | refine if_f ?_ | refine w_comp ?_ | refine b_nil ?_ | refine b_par ?_ | refine b_par2 ?_ | refine b_appO rfl ?_ | refine b_extO rfl ?_ | refine fl_rt ?_ | refine fl_nx ?_ | refine And.intro (by assumption) ?_ | refine And.intro rfl ?_ | refine ⟨_, rfl, ?_⟩ | refine ⟨_, _, rfl, rfl, ?_⟩ | refine ⟨_, rfl, rfl, ?_⟩ | refine ⟨_, _, _, rfl, rfl, rfl, ?_⟩ | refine ⟨_, _, _, rfl, rfl, atD0, ?_⟩ | refine ⟨_, _, _, rfl, rfl, atD1, ?_⟩ | refine ⟨_, _, rfl, rfl, rfl, ?_⟩ | refine for_cons rfl ?_ | refine for_nil ?_ | dsimp only))
theorem parse_ex {p : Pg} (L : PTx p) {n : Nat} {x : Str} {h : MH} (hl : x.length ≤ 10000) (ho : strOkB x = true) (hx : ∀ t es, BV t es → boT t es ≠ x) : p.c (n + 6) 148 [.v (.str x)] h = .ex 20 h := by
  refine Pg.call_ex L.h148 rfl ?_
  refine parse_to L hl fun x1 x3 => ?_
  refine b_ifs (w_or (w_not (w_call (w_cons (w_v rfl (w_nil (O.wp_eq (stands_eq L.h1 L.h2 L.h3 L.h4 (found_ok (n := 0))) ?_)))))))
  cases hs : standsD (foundD x) with
  | false => exact bl_w (bl_w (if_t (bl_w (if_t (b_raise ⟨rfl, rfl⟩)))))
  | true =>
    refine bl_w (bl_w (if_f ?_))
    obtain ⟨t, es, e, v⟩ := of_stands hs
    rw [e]
    refine w_cmp (w_call (w_cons (w_v rfl (w_nil (O.wp_eq (board_text_eq L v) (w_v rfl (cw_ne (strOk_boT v) ho ?_)))))))
    have : D.eqb (R.v (.str (boT t es))).rd (R.v (.str x)).rd = false := by simpa [R.rd, D.eqb] using hx t es v
    rw [this]
    exact bl_w (if_t (b_raise ⟨rfl, rfl⟩))
theorem parse_exN {p : Pg} (L : PTx p) {n : Nat} {d : D} {h : MH} (hd : d.noObj = true) (hs : tyD .str d = false) : p.c (n + 6) 148 [.v d] h = .ex 20 h := by
  refine Pg.call_ex L.h148 rfl ?_
  unfold f_parse_board b_parse_board
  refine b_ifs (w_not (w_isi (w_v rfl ⟨hd, ?_⟩)))
  have : tyD .str (R.v d).rd = false := hs
  rw [this]
  exact bl_w (bl_w (if_t (b_raise ⟨rfl, rfl⟩)))
theorem read_ok {p : Pg} (L : PTx p) (h149 : p.Pt 149 = some f_law_read) {n : Nat} {t : Int} {es : List Ex} {h : MH} (v : BV t es) : p.c (n + 7) 149 [.v (.str (boT t es))] h = .ok (.v (bD t es)) h := by
  refine O.eq_of (Pg.call_wp h149 rfl ?_)
  unfold f_law_read b_law_read
  refine b_tryW (by show (1 : Nat) < 2; decide) ?_
  refine w_call (w_cons (w_v rfl (w_nil (O.wp_eq (parse_ok L v) ?_))))
  (repeat' (first | refine w_v rfl ?_ | refine w_int ?_ | refine w_bl ?_ | refine w_non ?_ | refine w_str ?_ | refine w_cons ?_ | refine w_nil ?_ | refine w_bin ?_ | refine w_cmp ?_ | refine w_call ?_ | refine w_bi ?_ | refine w_isi ?_ | refine w_ix ?_ | refine w_and ?_ | refine w_or ?_ | refine w_not ?_ | refine w_chn ?_ | refine w_tup ?_ | refine w_lst ?_ | refine w_ite ?_ | refine w_neg ?_ | refine w_sl ?_ | refine sl_t ?_ | refine sl_n ?_ | refine sl_b ?_ | refine sl_l ?_ | refine w_rev ?_ | refine rv_t ?_ | refine rv_n ?_ | refine rv_l ?_ | refine rv_b ?_ | refine w_onone ?_ | refine w_osome ?_ | refine b_asg ?_ | refine b_ret ?_ | refine b_retN ?_ | refine b_expr ?_ | refine b_pass ?_ | refine b_ifs ?_ | refine b_for ?_ | refine b_asgO ?_ | refine b_asgR ?_ | refine bw_add ?_ | refine bw_sub ?_ | refine cw_lt ?_ | refine cw_le ?_ | refine cw_gt ?_ | refine cw_ge ?_ | refine cw_eqI ?_ | refine cw_neI ?_ | refine bl_w ?_ | refine if_t ?_ | refine if_f ?_ | refine w_comp ?_ | refine b_nil ?_ | refine b_par ?_ | refine b_par2 ?_ | refine b_appO rfl ?_ | refine b_extO rfl ?_ | refine fl_rt ?_ | refine fl_nx ?_ | refine And.intro (by assumption) ?_ | refine And.intro rfl ?_ | refine ⟨_, rfl, ?_⟩ | refine ⟨_, _, rfl, rfl, ?_⟩ | refine ⟨_, rfl, rfl, ?_⟩ | refine ⟨_, _, _, rfl, rfl, rfl, ?_⟩ | refine ⟨_, _, _, rfl, rfl, atD0, ?_⟩ | refine ⟨_, _, _, rfl, rfl, atD1, ?_⟩ | refine ⟨_, _, rfl, rfl, rfl, ?_⟩ | refine for_cons rfl ?_ | refine for_nil ?_ | dsimp only))
theorem read_ex {p : Pg} (h149 : p.Pt 149 = some f_law_read) (hw : p.wh 20 = some (raisedD 20)) {n : Nat} {d : D} {h : MH} (e : p.c (n + 6) 148 [.v d] h = .ex 20 h) : p.c (n + 7) 149 [.v d] h = .ok (.v (raisedD 20)) h := by
  refine O.eq_of (Pg.call_wp h149 rfl ?_)
  unfold f_law_read b_law_read
  refine b_tryW (by show (1 : Nat) < 2; decide) ?_
  refine w_callX (w_cons (w_v rfl (w_nil (O.wpX_exc e ?_))))
  exact ⟨raisedD 20, hw, rfl, rfl, rfl⟩
end GV
set_option Elab.async false
set_option linter.all false
set_option maxRecDepth 100000
set_option maxHeartbeats 0
namespace K38
open PySem L2 GV TL
def b_law : List S := [
  .asgR 1 (.lst []),
  .asg (.n 2) (.call 12 [(.v 0), (.v 1)]),
  .asg (.n 3) (.bi .str [(.ix (.v 2) (.int 0))]),
  .for_ .seq [(.ix (.v 2) (.int 1))] (.t [(.n 4), (.n 5)]) [
    .asgO 6 (.lst []),
    .for_ .seq [(.tup [(.v 4), (.v 5)])] (.n 7) [
      .asg (.n 8) (.bi .str [(.ix (.v 7) (.int 0))]),
      .for_ .seq [(.sl (.v 7) (some (.int 1)) none)] (.n 9) [
        .asg (.n 8) (.bin .add (.bin .add (.v 8) (.str " ")) (.bi .str [(.v 9)]))],
      .app 6 (.v 8)],
    .asg (.n 3) (.bin .add (.bin .add (.bin .add (.bin .add (.v 3) (.str "; ")) (.ix (.v 6) (.int 0))) (.str " > ")) (.ix (.v 6) (.int 1)))],
  .ret (.and (.cmp .eq (.call 145 [(.v 2)]) (.v 3)) (.cmp .eq (.call 148 [(.v 3)]) (.v 2)))]
def n_law : List Str := ["script", "state", "board", "text", "takes", "gives", "sides", "side", "row", "one"]
def f_law : FD := ⟨10, 1, b_law⟩
def fds : List (Nat × FD) := [(1, f_is_integer), (2, f_are_numbers), (3, f_is_exchange), (4, f_stands), (13, f_need_board), (143, f_numbers_text), (144, f_board_text), (145, f_format_board), (146, f_number_of), (147, f_exchange_of), (148, f_parse_board), (6, f_law_cell_at), (7, f_law_mixed), (8, f_law_draw), (9, f_law_pick), (10, f_law_some_numbers), (11, f_law_some_exchange), (12, f_law_some_board), (0, f_law)]
def cst : List (Str × D) := [("DIGITS", (.str "012345"))]
def xsl : List (Nat × Str) := [(0, "InvalidBoard"), (20, "ParseError")]
def wh (c : Nat) : Option D := if false && (xsl.lookup c).isSome then some (.tup [.str "raised", .int (c : Nat)]) else none
def srt : List D → Option (List D) := fun _ => none
def wf : Nat := 1000
def lev : Nat := 9
def pg : Pg := ⟨fun f => fds.lookup f, fun c => (cst[c]?).map (·.2), srt, wf, wh⟩
theorem L : PLaw pg := ⟨⟨rfl, rfl, rfl⟩, rfl, rfl, rfl, rfl⟩
theorem LT : PTx pg := ⟨rfl, rfl, rfl, rfl, rfl, rfl, rfl, rfl, rfl, rfl, rfl, rfl⟩
theorem join_snoc {y : Str} {l : List Str} {z : Str} (h : l ≠ []) : Txt.join y (l ++ [z]) = Txt.join y l ++ y ++ z := by
  refine ext_tl ?_
  rw [tl_append, tl_append, join_eq, join_eq, tl_join, tl_join]
  cases l with
  | nil => exact absurd rfl h
  | cons p ps =>
    rw [List.cons_append, List.map_cons, List.map_cons, joinL_cons, joinL_cons, List.map_append, List.flatMap_append]
    simp
theorem ntT_snoc {a : List Int} {x : Int} (h : a ≠ []) : ntT (a ++ [x]) = ntT a ++ " " ++ dS x := by
  unfold ntT
  rw [List.map_append]
  exact join_snoc (by simpa using h)
theorem boT_snoc {t : Int} {es : List Ex} {e : Ex} : boT t (es ++ [e]) = boT t es ++ "; " ++ rowT e := by
  unfold boT
  rw [List.map_append]
  exact join_snoc (l := dS t :: es.map rowT) (by simp)
theorem BV.pre {t : Int} {es : List Ex} (v : BV t es) (j : Nat) : BV t (es.take j) := ⟨v.t2, v.t4, Nat.le_trans (by simp; omega) v.len, fun e he => v.ex e (List.mem_of_mem_take he)⟩
theorem str_len (a b : Str) : (a ++ b).length = a.length + b.length := by rw [len_tl, tl_append, List.length_append, ← len_tl, ← len_tl]
theorem len_sp : (" " : Str).length = 1 := by decide +kernel
theorem len_gt : (" > " : Str).length = 3 := by decide +kernel
theorem len_sc : ("; " : Str).length = 2 := by decide +kernel
def blkS : List S := [
      .asg (.n 8) (.bi .str [(.ix (.v 7) (.int 0))]),
      .for_ .seq [(.sl (.v 7) (some (.int 1)) none)] (.n 9) [
        .asg (.n 8) (.bin .add (.bin .add (.v 8) (.str " ")) (.bi .str [(.v 9)]))],
      .app 6 (.v 8)]
theorem side_wp {n : Nat} {X : Nat → MH → Prop} {x0 x1 x2 x3 x4 x5 x8 x9 : Option Sl} {ys : List D} {i : Int} {l : List Int} {h : MH} {Q : Fl → MH → Prop} (d : Dg (i :: l)) (hl : l.length ≤ 10) (hy : ys.length ≤ 10)
    (q : ∀ x9', Q (.nx [x0, x1, x2, x3, x4, x5, some (.own (ys ++ [.str (ntT (i :: l))])), some (.v (tupI (i :: l))), some (.v (.str (ntT (i :: l)))), x9']) h) :
    xB (pg.G n) X blkS [x0, x1, x2, x3, x4, x5, some (.own ys), some (.v (tupI (i :: l))), x8, x9] h Q := by
  unfold blkS
  refine b_asg (w_bi (w_cons (w_ix (w_v rfl (w_int ⟨_, _, _, rfl, rfl, atD0, w_nil (bi_strI (d i (by simp)) ⟨_, _, rfl, rfl, ?_⟩)⟩)))))
  refine b_for (w_cons (w_sl (w_v rfl (w_osome (w_int ⟨_, rfl, w_onone (sl_t (w_nil ⟨rfl, _, rfl, ?_⟩))⟩)))))
  rw [cut_tail]
  refine for_inv (fun j ss h' => ∃ x9', ss = [x0, x1, x2, x3, x4, x5, some (.own ys), some (.v (tupI (i :: l))), some (.v (.str (ntT (i :: l.take j)))), x9'] ∧ h' = h) ⟨x9, rfl, rfl⟩ (fun j dd hd ss h' J => ?_) fun ss h' J => ?_
  · obtain ⟨x9', rfl, rfl⟩ := J
    simp only [List.map_cons, List.tail_cons, List.getElem?_map, Option.map_eq_some_iff] at hd
    obtain ⟨k, hk, rfl⟩ := hd
    have hj := (List.getElem?_eq_some_iff.mp hk).1
    have dk := d k (List.mem_cons_of_mem _ (List.mem_of_getElem? hk))
    have dj : Dg (i :: l.take j) := fun x hx => by
      rcases List.mem_cons.mp hx with z | z
      · exact d x (by rw [z]; simp)
      · exact d x (List.mem_cons_of_mem _ (List.mem_of_mem_take z))
    have nl := ntT_len dj
    have tl : (i :: l.take j).length ≤ 11 := by simp; omega
    have ls := len_sp
    have ld := dS_len dk
    refine ⟨_, rfl, ?_⟩
    refine b_asg (w_bin (w_bin (w_v rfl (w_str (bw_sadd (by omega) (w_bi (w_cons (w_v rfl (w_nil (bi_strI dk (bw_sadd ?_ ⟨_, _, rfl, rfl, b_nil (fl_nx ⟨some (.v (.int k)), ?_, rfl⟩)⟩)))))))))))
    · show (ntT (i :: l.take j) ++ (" " : Str)).length + _ ≤ _
      rw [str_len]
      omega
    · have e : i :: l.take (j + 1) = (i :: l.take j) ++ [k] := by
        rw [List.take_succ, hk]
        rfl
      rw [e, ntT_snoc (by simp)]
      rfl
  · obtain ⟨x9', rfl, rfl⟩ := J
    have e : l.take (((i :: l).map D.int).tail).length = l := by simp
    rw [e]
    refine b_appO rfl (w_v rfl ⟨_, _, rfl, ?_, rfl, b_nil (q x9')⟩)
    unfold small
    exact decide_eq_true (by omega)
theorem main (ns : List Int) (hl : ns.length ≤ 63) : ∃ h', evCall (fun f => fds.lookup f) (fun c => (cst[c]?).map (·.2)) srt wf wh (lev + 1) 0 [.v (.lst (ns.map D.int))] [] = .ok (.v (.bl true)) h' := by
  have z : (pg.c (9 + 1) 0 [.v (scD ns)] []).wp fun r _ => r = .v (.bl true) := by
    refine Pg.call_wpL (d := f_law) rfl rfl ?_
    unfold f_law b_law
    refine b_asgR (w_lst (w_nil ⟨_, rfl, rfl, _, _, rfl, rfl, ?_⟩))
    refine b_asg (w_call (w_cons (w_v rfl (w_cons (w_v rfl (w_nil (O.wp_mono (some_board_wp L (i := 0) (k := 0) (h0 := [.lst []]) ⟨by decide, [], rfl, by simp, by simp⟩ (by decide) (by omega)) fun r h1 z => ?_)))))))
    obtain ⟨⟨t, es, rfl, v⟩, s1⟩ := z
    have t2 := v.t2
    have t4 := v.t4
    refine ⟨_, _, rfl, rfl, ?_⟩
    refine b_asg (w_bi (w_cons (w_ix (w_v rfl (w_int ⟨_, _, _, rfl, rfl, atD0, w_nil (bi_strI (by omega) ⟨_, _, rfl, rfl, ?_⟩)⟩)))))
    refine b_for (w_cons (w_ix (w_v rfl (w_int ⟨_, _, _, rfl, rfl, atD1, w_nil ⟨rfl, _, rfl, ?_⟩⟩))))
    refine for_inv (fun j ss h' => ∃ x4 x5 x6 x7 x8 x9, ss = [some (.v (scD ns)), some (.v (.obj 0)), some (.v (bD t es)), some (.v (.str (boT t (es.take j)))), x4, x5, x6, x7, x8, x9] ∧ h' = h1) ⟨none, none, none, none, none, none, rfl, rfl⟩ (fun j dd hd ss h' J => ?_) fun ss h' J => ?_
    · obtain ⟨x4, x5, x6, x7, x8, x9, rfl, rfl⟩ := J
      simp only [List.getElem?_map, Option.map_eq_some_iff] at hd
      obtain ⟨e, hk, rfl⟩ := hd
      have ve := v.ex e (List.mem_of_getElem? hk)
      have l1 := ve.l1
      have l2 := ve.l2
      obtain ⟨a, b⟩ := e
      obtain ⟨i1, a, rfl⟩ := List.exists_cons_of_ne_nil (ve.ne1 t2)
      obtain ⟨i2, b, rfl⟩ := List.exists_cons_of_ne_nil (ve.ne2 t2)
      simp only [List.length_cons] at l1 l2
      refine ⟨_, rfl, ?_⟩
      refine b_asgO (w_lst (w_nil ⟨_, rfl, rfl, _, _, rfl, rfl, ?_⟩))
      refine b_for (w_cons (w_tup (w_cons (w_v rfl (w_cons (w_v rfl (w_nil ⟨_, rfl, rfl, w_nil ⟨rfl, _, rfl, ?_⟩⟩)))))))
      refine for_cons rfl (side_wp ve.b1 (by omega) (by decide) fun x9' => ?_)
      refine fl_nx (for_cons rfl (side_wp ve.b2 (by omega) (by show (1 : Nat) ≤ 10; decide) fun x9' => ?_))
      refine fl_nx (for_nil ?_)
      have n0 := boT_le (BV.pre v j)
      have n1 := ntT_len ve.b1
      have n2 := ntT_len ve.b2
      simp only [List.length_cons] at n1 n2
      have k1 := len_sc
      have k2 := len_gt
      have ev : boT t (es.take (j + 1)) = boT t (es.take j) ++ "; " ++ ntT (i1 :: a) ++ " > " ++ ntT (i2 :: b) := by
        rw [List.take_succ, hk]
        show boT t (es.take j ++ [(i1 :: a, i2 :: b)]) = _
        rw [boT_snoc]
        refine ext_tl ?_
        simp only [tl_append, rowT, List.append_assoc]
      refine b_asg (w_bin (w_bin (w_bin (w_bin (w_v rfl (w_str (bw_sadd (by omega) (w_ix (w_v rfl (w_int ⟨_, _, _, rfl, rfl, atD0, bw_sadd (by simp only [str_len]; omega) (w_str (bw_sadd (by simp only [str_len]; omega) (w_ix (w_v rfl (w_int ⟨_, _, _, rfl, rfl, atD1, bw_sadd (by simp only [str_len]; omega) ⟨_, _, rfl, rfl, ?_⟩⟩)))))⟩))))))))))
      refine b_nil (fl_nx ?_)
      rw [ev]
      exact ⟨_, _, _, _, _, _, rfl, rfl⟩
    · obtain ⟨x4, x5, x6, x7, x8, x9, rfl, rfl⟩ := J
      have e : es.take (es.map exD).length = es := by simp
      rw [e]
      refine b_ret (w_and (w_cmp (w_call (w_cons (w_v rfl (w_nil (O.wp_eq (format_board_eq LT v) (w_v rfl (cw_eq (strOk_boT v) (strOk_boT v) ?_)))))))))
      have e1 : D.eqb (R.v (.str (boT t es))).rd (R.v (.str (boT t es))).rd = true := by simp [R.rd, D.eqb]
      rw [e1]
      refine bl_w (if_t ?_)
      refine w_cmp (w_call (w_cons (w_v rfl (w_nil (O.wp_eq (parse_ok LT v) (w_v rfl (cw_eq (ok_bD (n := 56)) (ok_bD (n := 56)) ?_)))))))
      rw [show D.eqb (R.v (bD t es)).rd (R.v (bD t es)).rd = true from eqb_self (ok_bD (n := 0))]
      exact ⟨_, rfl, fl_rt ⟨rfl, by rw [s1.len]; decide, rfl, rfl⟩⟩
  obtain ⟨r, h', e, rfl⟩ := O.wp_iff.mp z
  rw [Pg.c_def] at e
  exact ⟨h', e⟩
end K38
set_option Elab.async false
set_option linter.all false
set_option maxRecDepth 100000
set_option maxHeartbeats 0
namespace K38
open PySem L2 GV
def top (i : Nat) : PySem.Stmt := PySem.Challenge.pw_gainboards_k38_whole_board_texts.main.body.getD i (.Pass ⟨0, 0, 0, 0⟩)
def d_is_integer : DI := ⟨"is_integer", top 5, n_is_integer, f_is_integer.p, b_is_integer, "is_integer", none⟩
def d_are_numbers : DI := ⟨"are_numbers", top 6, n_are_numbers, f_are_numbers.p, b_are_numbers, "are_numbers", none⟩
def d_is_exchange : DI := ⟨"is_exchange", top 7, n_is_exchange, f_is_exchange.p, b_is_exchange, "is_exchange", none⟩
def d_stands : DI := ⟨"stands", top 8, n_stands, f_stands.p, b_stands, "stands", none⟩
def d_need_board : DI := ⟨"need_board", top 9, n_need_board, f_need_board.p, b_need_board, "need_board", none⟩
def d_numbers_text : DI := ⟨"numbers_text", top 12, n_numbers_text, f_numbers_text.p, b_numbers_text, "numbers_text", none⟩
def d_board_text : DI := ⟨"board_text", top 13, n_board_text, f_board_text.p, b_board_text, "board_text", none⟩
def d_format_board : DI := ⟨"format_board", top 14, n_format_board, f_format_board.p, b_format_board, "format_board", none⟩
def d_number_of : DI := ⟨"number_of", top 15, n_number_of, f_number_of.p, b_number_of, "number_of", none⟩
def d_exchange_of : DI := ⟨"exchange_of", top 16, n_exchange_of, f_exchange_of.p, b_exchange_of, "exchange_of", none⟩
def d_parse_board : DI := ⟨"parse_board", top 17, n_parse_board, f_parse_board.p, b_parse_board, "parse_board", none⟩
def d_law_cell_at : DI := ⟨"_law_cell_at", top 19, n_law_cell_at, f_law_cell_at.p, b_law_cell_at, "_law_cell_at", none⟩
def d_law_mixed : DI := ⟨"_law_mixed", top 20, n_law_mixed, f_law_mixed.p, b_law_mixed, "_law_mixed", none⟩
def d_law_draw : DI := ⟨"_law_draw", top 21, n_law_draw, f_law_draw.p, b_law_draw, "_law_draw", none⟩
def d_law_pick : DI := ⟨"_law_pick", top 22, n_law_pick, f_law_pick.p, b_law_pick, "_law_pick", none⟩
def d_law_some_numbers : DI := ⟨"_law_some_numbers", top 23, n_law_some_numbers, f_law_some_numbers.p, b_law_some_numbers, "_law_some_numbers", none⟩
def d_law_some_exchange : DI := ⟨"_law_some_exchange", top 24, n_law_some_exchange, f_law_some_exchange.p, b_law_some_exchange, "_law_some_exchange", none⟩
def d_law_some_board : DI := ⟨"_law_some_board", top 25, n_law_some_board, f_law_some_board.p, b_law_some_board, "_law_some_board", none⟩
def d_law : DI := ⟨"law", top 26, n_law, f_law.p, b_law, "law", none⟩
def I : HI := ⟨[(1, d_is_integer), (2, d_are_numbers), (3, d_is_exchange), (4, d_stands), (13, d_need_board), (143, d_numbers_text), (144, d_board_text), (145, d_format_board), (146, d_number_of), (147, d_exchange_of), (148, d_parse_board), (6, d_law_cell_at), (7, d_law_mixed), (8, d_law_draw), (9, d_law_pick), (10, d_law_some_numbers), (11, d_law_some_exchange), (12, d_law_some_board), (0, d_law)], [("DIGITS", (.str "012345"))], [(0, "InvalidBoard"), (20, "ParseError")], none, [], []⟩
theorem chk : (I.ds.all fun d => d.2.ok I.T) = true := by decide +kernel
theorem whchk : I.whOk = true := by decide +kernel
theorem mkchk : I.mkB = true := by decide +kernel
theorem pt_eq : (fun f => (I.ds.lookup f).map DI.fd) = fun f => fds.lookup f := HI.pt (I := I) rfl
theorem wh_eq : I.whF = wh := by
  funext c
  rfl
abbrev Rw : PySem.W.OpenRow := PySem.W.OpenLaw.row PySem.Challenge.rw_gainboards_k38_whole_board_texts
theorem run (w : World) : HandSHeadRun.RunEq Rw (PySem.W.view Rw.prog [26]) (I.hook 4) (I.ob 4) 20000 ["BoardError", "InvalidBoard", "ParseError", "is_integer", "are_numbers", "is_exchange", "stands", "need_board", "DIGITS", "numbers_text", "board_text", "format_board", "number_of", "exchange_of", "parse_board", "_law_cell_at", "_law_mixed", "_law_draw", "_law_pick", "_law_some_numbers", "_law_some_exchange", "_law_some_board"] w := by
  intro os
  kernel_rfl
theorem main2 (ns : List Int) (hl : ns.length ≤ 63) : ∃ wf h', evCall (fun f => (I.ds.lookup f).map DI.fd) (fun c => (I.cs[c]?).map (·.2)) srt wf I.whF (lev + 1) 0 [.v (.lst (ns.map D.int))] [] = .ok (.v (.bl true)) h' := by
  rw [pt_eq, wh_eq]
  exact ⟨wf, main ns hl⟩
end K38
open PySem PySem.W PySem.Calls PyProof.Rows
theorem PySem.Challenge.cw_gainboards_k38_whole_board_texts_holds : PySem.Challenge.rw_gainboards_k38_whole_board_texts.Holds := by
  w_on; o_law
  refine HandSHeadRun.head_any (r := OpenLaw.row PySem.Challenge.rw_gainboards_k38_whole_board_texts) (q := view (OpenLaw.row PySem.Challenge.rw_gainboards_k38_whole_board_texts).prog [26]) (H := K38.I.hook 4) (ob := K38.I.ob 4) (M := 20000)
    (d := HandSHeadRun.topDef (OpenLaw.row PySem.Challenge.rw_gainboards_k38_whole_board_texts).prog 26) (kwd := []) (K38.I.ob_eq 4)
    (by kernel_rfl) (fun s => by kernel_rfl) K38.run (by kernel_rfl) (by kernel_rfl) (by kernel_rfl) (by rfl) (by first | assumption | decide +kernel) (by decide +kernel) ⟨rfl, rfl, rfl, rfl, rfl, by decide +kernel⟩ ?hw ?hc
  case hw => w_witness2
  case hc => exact GV.HI.walk (l := PySem.Challenge.rw_gainboards_k38_whole_board_texts) (x := "script") (dl := K38.d_law) rfl (by kernel_rfl) ⟨rfl, by decide, by decide⟩ K38.chk K38.whchk K38.mkchk (f := 0) rfl (by kernel_rfl) rfl rfl K38.main2
